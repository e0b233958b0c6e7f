-- Written by a program of this session out of the translation (wip/tools).
import Derived.Test.YtdnnjbokdckilaaPBusFlagsx0
import Derived.Test.YtdnnjbokdckilaaPBusFlagsx1
import Derived.Test.YtdnnjbokdckilaaPBusFlagsx2
namespace Go.Proofs.Ytdnnjbokdckilaa.PBusFlags
open Go.RowKit Go.Proofs.YtdnnjbokdckilaaW.PrintWords Go.Proofs.YtdnnjbokdckilaaW.PrintLast Go.Proofs.YtdnnjbokdckilaaW.PrintMore
attribute [local go_sem] max2_int min2_int max_two min_two max_three min_three max_four min_four   -- for this text's walks alone
set_option linter.unusedVariables false
set_option linter.unusedSimpArgs false
theorem nbi {a b : Nat} (h : Aside0 (a ≠ b)) : some a ≠ some b := fun e => h.out (Option.some.inj e)

theorem tch5 {W : World} {g : Nat} {t : TypeId} {c0 c1 c2 c3 c4 : Value} (h : W.heap[g]? = some (.cells #[c0, c1, c2, c3, c4] t (0, 0))) :
  W.cell? ⟨g, 0, none⟩ = some c0 ∧ W.cell? ⟨g, 1, none⟩ = some c1 ∧ W.cell? ⟨g, 2, none⟩ = some c2 ∧ W.cell? ⟨g, 3, none⟩ = some c3 ∧ W.cell? ⟨g, 4, none⟩ = some c4 ∧ W.frozen? ⟨g, 0, none⟩ = false ∧ W.frozen? ⟨g, 1, none⟩ = false ∧ W.frozen? ⟨g, 2, none⟩ = false ∧ W.frozen? ⟨g, 3, none⟩ = false ∧ W.frozen? ⟨g, 4, none⟩ = false :=
 ⟨(blk_cell h 0).trans rfl, (blk_cell h 1).trans rfl, (blk_cell h 2).trans rfl, (blk_cell h 3).trans rfl, (blk_cell h 4).trans rfl, blk_frozen h 0, blk_frozen h 1, blk_frozen h 2, blk_frozen h 3, blk_frozen h 4⟩
theorem szi78 : (Try.prog.info? 78).map (·.size) = some 5 := by kernel_rfl
theorem szi38 : (Try.prog.info? 38).map (·.size) = some 1 := by kernel_rfl
theorem szi4 : (Try.prog.info? 4).map (·.size) = some 1 := by kernel_rfl
theorem szi3 : (Try.prog.info? 3).map (·.size) = some 1 := by kernel_rfl
/-! ### bus_Decode: function 21 -/
def bus_Decode.l0 : Nat → List (S40) → List Int → Int → Int → List Int → Bool → Bool → Bool → Int → Option ((List (S40)) × Int)
 | 0, _, _, _, _, _, _, _, _, _ => none
 | k + 1, x5, x10, x11, x12, x166000, x166001, x166002, x166003, x166004 => if x12 < x11 then (if 0 ≤ x12 then (if x12 < (x10.length : Int) then (if (rd x10 x12) = 126 then (if x166002 = true then (if (x166000.length : Int) = 0 then ((bus_Parse.f k x166000).bind fun bt169 => (bus_Decode.l0 k x5 x10 x11 (wrap64 (x12 + 1)) ([] : List Int) false false true (wrap64 (x166004 + 1)))) else ((bus_Parse.f k x166000).bind fun bt178 => (bus_Decode.l0 k x5 x10 x11 (wrap64 (x12 + 1)) ([] : List Int) false false true (wrap64 (x166004 + 1))))) else (if (x166000.length : Int) = 0 then (if x166001 = true then ((bus_Parse.f k x166000).bind fun bt187 => (bus_Decode.l0 k x5 x10 x11 (wrap64 (x12 + 1)) ([] : List Int) false false true (wrap64 (x166004 + 1)))) else (bus_Decode.l0 k x5 x10 x11 (wrap64 (x12 + 1)) ([] : List Int) false false true x166004)) else ((bus_Parse.f k x166000).bind fun bt197 => (if x166001 = true then (bus_Decode.l0 k x5 x10 x11 (wrap64 (x12 + 1)) ([] : List Int) false false true (wrap64 (x166004 + 1))) else (if bt197.2.2.2.2 = 0 then (if x5.length < 2932031007402 then (bus_Decode.l0 k (x5 ++ [(⟨bt197.1, bt197.2.1, bt197.2.2.1, bt197.2.2.2.1⟩ : S40)]) x10 x11 (wrap64 (x12 + 1)) ([] : List Int) false false true x166004) else (none)) else (bus_Decode.l0 k x5 x10 x11 (wrap64 (x12 + 1)) ([] : List Int) false false true (wrap64 (x166004 + 1)))))))) else (if x166002 = true then (bus_Decode.l0 k x5 x10 x11 (wrap64 (x12 + 1)) x166000 x166001 x166002 x166003 x166004) else (if x166003 = true then (if x166001 = true then (if (Go.bits .xor .u8 (rd x10 x12) 32) = 126 then (if (x166000.length : Int) = 21 then (bus_Decode.l0 k x5 x10 x11 (wrap64 (x12 + 1)) x166000 false true x166003 x166004) else (if x166000.length < 140737488355328 then (bus_Decode.l0 k x5 x10 x11 (wrap64 (x12 + 1)) (x166000 ++ [Go.bits .xor .u8 (rd x10 x12) 32]) false x166002 x166003 x166004) else (none))) else (if (Go.bits .xor .u8 (rd x10 x12) 32) = 125 then (if (x166000.length : Int) = 21 then (bus_Decode.l0 k x5 x10 x11 (wrap64 (x12 + 1)) x166000 false true x166003 x166004) else (if x166000.length < 140737488355328 then (bus_Decode.l0 k x5 x10 x11 (wrap64 (x12 + 1)) (x166000 ++ [Go.bits .xor .u8 (rd x10 x12) 32]) false x166002 x166003 x166004) else (none))) else (bus_Decode.l0 k x5 x10 x11 (wrap64 (x12 + 1)) x166000 false true x166003 x166004))) else (if (rd x10 x12) = 125 then (bus_Decode.l0 k x5 x10 x11 (wrap64 (x12 + 1)) x166000 true x166002 x166003 x166004) else (if (x166000.length : Int) = 21 then (bus_Decode.l0 k x5 x10 x11 (wrap64 (x12 + 1)) x166000 x166001 true x166003 x166004) else (if x166000.length < 140737488355328 then (bus_Decode.l0 k x5 x10 x11 (wrap64 (x12 + 1)) (x166000 ++ [rd x10 x12]) x166001 x166002 x166003 x166004) else (none))))) else (bus_Decode.l0 k x5 x10 x11 (wrap64 (x12 + 1)) x166000 x166001 x166002 x166003 x166004)))) else (none)) else (none)) else (some (x5, x166004))
def bus_Decode.f (k : Nat) (l0 : List Int) : Option ((List (S40)) × Int) := bus_Decode.l0 k ([] : List (S40)) l0 (l0.length : Int) 0 ([] : List Int) false false false 0
theorem bus_Decode.mono_l : ∀ k, (∀ y0 y1 y2 y3 y4 y5 y6 y7 y8, LeO (bus_Decode.l0 k y0 y1 y2 y3 y4 y5 y6 y7 y8) (bus_Decode.l0 (k + 1) y0 y1 y2 y3 y4 y5 y6 y7 y8))
 | 0 => fun _ _ _ _ _ _ _ _ _ r h => by simp [bus_Decode.l0] at h
 | k + 1 => by
  have ih0 := bus_Decode.mono_l k
  ·intro y0 y1 y2 y3 y4 y5 y6 y7 y8
   unfold bus_Decode.l0
   repeat' first
   | (with_reducible exact ih0 _ _ _ _ _ _ _ _ _)
   | (with_reducible exact bus_Parse.mono _ _)
   | (with_reducible exact LeO.refl _)
   | (with_reducible exact LeO.none _)
   | (with_reducible refine LeO.ite ?_ ?_)
   | (with_reducible refine LeO.bind ?_ (fun _ => ?_))
   | exact ih0 _ _ _ _ _ _ _ _ _
   | exact bus_Parse.mono _ _
   | exact LeO.none _
   | refine LeO.ite ?_ ?_
   | refine LeO.bind ?_ (fun _ => ?_)
theorem bus_Decode.mono : ∀ a0 k, LeO (bus_Decode.f k a0) (bus_Decode.f (k + 1) a0) := by
 intro a0 k
 have ih0 := bus_Decode.mono_l k
 unfold bus_Decode.f
 repeat' first
   | (with_reducible exact ih0 _ _ _ _ _ _ _ _ _)
   | (with_reducible exact bus_Parse.mono _ _)
   | (with_reducible exact LeO.refl _)
   | (with_reducible exact LeO.none _)
   | (with_reducible refine LeO.ite ?_ ?_)
   | (with_reducible refine LeO.bind ?_ (fun _ => ?_))
   | exact ih0 _ _ _ _ _ _ _ _ _
   | exact bus_Parse.mono _ _
   | exact LeO.none _
   | refine LeO.ite ?_ ?_
   | refine LeO.bind ?_ (fun _ => ?_)
set_option maxHeartbeats 8000000 in
set_option maxRecDepth 100000 in
theorem bus_Decode.calls (k : Nat) (A0 : Option Addr) (c0 : Nat) (l0 : List Int) (r1 : List (S40)) (r2 : Int) (w : World) (hr0 : Kd.C (Kd.int .u8) w A0 l0.length l0) (hc0 : l0.length ≤ c0) (h : bus_Decode.f k l0 = some (r1, r2)) :
  Calls Try.prog 21 #[.slice A0 l0.length c0] w fun e w' => ∃ v0_ : Value, e = .returned (.tuple #[v0_, .int .i64 r2]) ∧ Kd.S k40 40 w' w.heap.size (fun _ => True) v0_ r1 ∧ Below w.heap.size w w' := by
 have hu78 := Try.underlying78
 have hu40 := Try.underlying40
 have HR0 := Aside0.mk hr0
 have HC0 := Aside0.mk hc0
 clear hr0 hc0
 have HB := Aside0.mk (Below.refl w.heap.size w)
 have H : (bus_Decode.l0 k ([] : List (S40)) l0 (l0.length : Int) 0 ([] : List Int) false false false 0) = some (r1, r2) := h
 clear h
 have H' := Aside0.mk H
 clear H
 go_enter Try.func21, Try.ntmps21
 go_wp2_with (first | ((with_reducible refine gate_dst (N := 4) rfl ?_); refine box_event ?hg (N := 4) ?hd (cs := #[.slice none 0 0, .bool false, .bool false, .bool false, .int .i64 0]) (t := 78) ?hr ?_; (case hd | hg => rfl); (case hr => first | (go_simp; done) | (go_simp; rfl)); intro gb165 hg w2 hbox hb; have n0_ := Aside0.mk (below_step HB.out hb); have n1_ := Aside0.mk (hbox); have n2_ := Aside0.mk ((by rw [hg]; exact (below_size HB.out) : w.heap.size ≤ gb165)); have n3_ := Aside0.mk ((by rw [hg]; exact (below_size HB.out) : w.heap.size ≤ gb165)); clear HB; have HB := n0_; have BK165 := n1_; have GW165 := n2_; have GE165 := n3_; clear n0_ n1_ n2_ n3_; clear hb hbox hg))
 go_loopg [5, 12] k (fun kq v5 v12 w' => ∃ (x5_1 : List (S40)) (x12_1 : Int) (x166000_1 : List Int) (x166001_1 : Bool) (x166002_1 : Bool) (x166003_1 : Bool) (x166004_1 : Int) (u166000 : Value), v12 = .int .i64 x12_1 ∧ Aside0 (bus_Decode.l0 kq x5_1 l0 (l0.length : Int) x12_1 x166000_1 x166001_1 x166002_1 x166003_1 x166004_1 = some (r1, r2)) ∧ Aside0 (kq ≤ k) ∧ Aside0 (Kd.S k40 40 w' w.heap.size (fun k_ => some k_ ≠ (u166000 : Value).ownBlock) v5 x5_1) ∧ Aside0 (Kd.R (Kd.int .u8) 5 w' w.heap.size (fun _ => True) u166000 x166000_1) ∧ Aside0 (w'.heap[gb165]? = some (.cells #[u166000, .bool x166001_1, .bool x166002_1, .bool x166003_1, .int .i64 x166004_1] 78 (0, 0))) ∧ Aside0 (Below w.heap.size w w'))
 case atStart => exact ⟨(([] : List (S40))), (0), (([] : List Int)), (false), (false), (false), (0), (.slice none 0 0), (by first | rfl | (simp; done) | (simp [*]; done)), H', ⟨Nat.le_refl _⟩, ⟨by first | exact Kd.S_nil _ _ _ _ _ | exact Kd.N_nil _ _ _ _ _ | exact Kd.V_nil _ _ _ _ _ | exact Kd.Q_nil _ _ _ _ _ | exact Kd.R_nil _ _ _ _ _⟩, ⟨by first | exact Kd.R_nil _ _ _ _ _ | exact Kd.N_nil _ _ _ _ _ | exact Kd.V_nil _ _ _ _ _ | exact Kd.Q_nil _ _ _ _ _ | exact Kd.S_nil _ _ _ _ _⟩, ⟨by exact BK165.out⟩, ⟨by exact HB.out⟩⟩
 case round =>
  clear H'
  try clear c2
  try clear p2
  obtain ⟨x5_1, x12_1, x166000_1, x166001_1, x166002_1, x166003_1, x166004_1, u166000, rfl, HA, HK1, HO_5, HO_166000, BK165, HB⟩ := hrel
  cases gk with
  | zero => exact absurd HA.out (by simp [bus_Decode.l0])
  | succ k1 =>
   have H := HA.out
   clear HA
   simp only [bus_Decode.l0] at H
   by_cases c3 : x12_1 < (l0.length : Int)
   ·rw [if_pos c3] at H
    have c3b0 : decide (x12_1 < (l0.length : Int)) = true := decide_eq_true c3
    clear c3
    by_cases c4 : 0 ≤ x12_1
    ·rw [if_pos c4] at H
     have c4b0 : decide (0 ≤ x12_1) = true := decide_eq_true c4
     clear c4
     by_cases c5 : x12_1 < (l0.length : Int)
     ·rw [if_pos c5] at H
      have c5b0 : decide (x12_1 < (l0.length : Int)) = true := decide_eq_true c5
      clear c5
      by_cases c6 : (rd l0 x12_1) = 126
      ·rw [if_pos c6] at H
       have c6b0 : ((rd l0 x12_1) == 126) = true := beq_iff_eq.mpr c6
       have c6b1 : ((rd l0 x12_1) != 126) = false := bne_eq_false_iff_eq.mpr c6
       clear c6
       by_cases c7 : x166002_1 = true
       ·subst c7
        have H1 : (if (x166000_1.length : Int) = 0 then ((bus_Parse.f k1 x166000_1).bind fun bt169 => (bus_Decode.l0 k1 x5_1 l0 (l0.length : Int) (wrap64 (x12_1 + 1)) ([] : List Int) false false true (wrap64 (x166004_1 + 1)))) else ((bus_Parse.f k1 x166000_1).bind fun bt178 => (bus_Decode.l0 k1 x5_1 l0 (l0.length : Int) (wrap64 (x12_1 + 1)) ([] : List Int) false false true (wrap64 (x166004_1 + 1))))) = some (r1, r2) := by rw [if_pos rfl] at H; exact H
        clear H
        have H := H1
        clear H1
        by_cases c8 : (x166000_1.length : Int) = 0
        ·rw [if_pos c8] at H
         have c8b0 : ((x166000_1.length : Int) == 0) = true := beq_iff_eq.mpr c8
         have c8b1 : ((x166000_1.length : Int) != 0) = false := bne_eq_false_iff_eq.mpr c8
         clear c8
         replace H := Option.bind_eq_some_iff.mp H
         obtain ⟨⟨t169, t170, t171, t172, t175⟩, A90, H⟩ := H
         replace H : (bus_Decode.l0 k1 x5_1 l0 (l0.length : Int) (wrap64 (x12_1 + 1)) ([] : List Int) false false true (wrap64 (x166004_1 + 1))) = some (r1, r2) := H
         have A9 := Aside0.mk A90
         clear A90
         have H' := Aside0.mk H
         clear H
         have p166 : 0 ≤ (x12_1 : Int) := of_decide_eq_true (by first | (with_reducible assumption) | assumption)
         have q166 : x12_1 < (l0.length : Int) := of_decide_eq_true (by first | (with_reducible assumption) | assumption)
         obtain ⟨ad166, e166, hx166_0⟩ := Kd.at_int HR0.out x12_1 p166 q166
         cases e166
         replace hx166_0 := (HB.out.cell (World.block_lt_of_cell? w _ hx166_0)).trans hx166_0
         replace p166 := eq_true p166
         replace q166 := eq_true q166
         try go_wp2_with (first | (go_at_call 42; go_enter Try.func42, Try.ntmps42) | ((with_reducible refine gate_dst (N := 4) rfl ?_); refine box_event ?hg (N := 4) ?hd (cs := #[.int .i64 0, .int .i64 0, .int .i64 0, .slice none 0 0]) (t := 40) ?hr ?_; (case hd | hg => rfl); (case hr => first | (go_simp; done) | (go_simp; rfl)); intro gb167 hg w10 hbox hb; have n0_ := Aside0.mk (Kd.S_below (Kd.S_elderB (by (with_reducible repeat (first | apply Kd.S_alloc | apply Kd.S_drewN | apply Kd.S_drew)); exact HO_5.out) gb167 (Nat.le_of_eq hg.symm)) hb); have n1_ := Aside0.mk (Kd.R_below (by (with_reducible repeat (first | apply Kd.R_alloc | apply Kd.R_drewN | apply Kd.R_drew)); exact HO_166000.out) hb); have n2_ := Aside0.mk (blk_below BK165.out hb); have n3_ := Aside0.mk (below_step HB.out hb); have n4_ := Aside0.mk (hbox); have n5_ := Aside0.mk ((by rw [hg]; exact (below_size HB.out) : w.heap.size ≤ gb167)); have n6_ := Aside0.mk ((by rw [hg]; exact (below_size HB.out) : w.heap.size ≤ gb167)); have n7_ := Aside0.mk ((by rw [hg]; exact Nat.ne_of_lt (blk_lt BK165.out) : gb165 ≠ gb167)); have n8_ := Aside0.mk ((by rw [hg]; exact Nat.ne_of_gt (blk_lt BK165.out) : gb167 ≠ gb165)); clear HO_5; clear HO_166000; clear BK165; clear HB; have HO_5 := n0_; have HO_166000 := n1_; have BK165 := n2_; have HB := n3_; have BK167 := n4_; have GW167 := n5_; have GE167 := n6_; have NB165_167 := n7_; have NB167_165 := n8_; clear n0_ n1_ n2_ n3_ n4_ n5_ n6_ n7_ n8_; clear hb hbox hg) | (go_at_call 50; go_enter Try.func50, Try.ntmps50) | ((with_reducible refine gate_dst (N := 2) rfl ?_); refine box_event ?hg (N := 2) ?hd (cs := #[.int .i64 0, .int .i64 0, .int .i64 0, .slice none 0 0]) (t := 40) ?hr ?_; (case hd | hg => rfl); (case hr => first | (go_simp; done) | (go_simp; rfl)); intro gb168 hg w11 hbox hb; have n0_ := Aside0.mk (Kd.S_below (Kd.S_elderB (by (with_reducible repeat (first | apply Kd.S_alloc | apply Kd.S_drewN | apply Kd.S_drew)); exact HO_5.out) gb168 (Nat.le_of_eq hg.symm)) hb); have n1_ := Aside0.mk (Kd.R_below (by (with_reducible repeat (first | apply Kd.R_alloc | apply Kd.R_drewN | apply Kd.R_drew)); exact HO_166000.out) hb); have n2_ := Aside0.mk (blk_below BK165.out hb); have n3_ := Aside0.mk (blk_below BK167.out hb); have n4_ := Aside0.mk (below_step HB.out hb); have n5_ := Aside0.mk (hbox); have n6_ := Aside0.mk ((by rw [hg]; exact (below_size HB.out) : w.heap.size ≤ gb168)); have n7_ := Aside0.mk ((by rw [hg]; exact (below_size HB.out) : w.heap.size ≤ gb168)); have n8_ := Aside0.mk ((by rw [hg]; exact Nat.ne_of_lt (blk_lt BK165.out) : gb165 ≠ gb168)); have n9_ := Aside0.mk ((by rw [hg]; exact Nat.ne_of_gt (blk_lt BK165.out) : gb168 ≠ gb165)); have n10_ := Aside0.mk ((by rw [hg]; exact Nat.ne_of_lt (blk_lt BK167.out) : gb167 ≠ gb168)); have n11_ := Aside0.mk ((by rw [hg]; exact Nat.ne_of_gt (blk_lt BK167.out) : gb168 ≠ gb167)); clear HO_5; clear HO_166000; clear BK165; clear BK167; clear HB; have HO_5 := n0_; have HO_166000 := n1_; have BK165 := n2_; have BK167 := n3_; have HB := n4_; have BK168 := n5_; have GW168 := n6_; have GE168 := n7_; have NB165_168 := n8_; have NB168_165 := n9_; have NB167_168 := n10_; have NB168_167 := n11_; clear n0_ n1_ n2_ n3_ n4_ n5_ n6_ n7_ n8_ n9_ n10_ n11_; clear hb hbox hg))
         replace HO_5 := Aside0.mk (Kd.S_drew HO_5.out)
         replace HO_166000 := Aside0.mk (Kd.R_drew HO_166000.out)
         replace BK165 := Aside0.mk (blk_drew BK165.out)
         replace BK167 := Aside0.mk (blk_drew BK167.out)
         replace BK168 := Aside0.mk (blk_drew BK168.out)
         replace HB := Aside0.mk (below_drew1 HB.out)
         obtain ⟨Ao13, co13, eo13⟩ := Kd.R_slice HO_166000.out
         (first | subst eo13 | (injection eo13 with f1_ f2_ f3_; have f4_ := f1_.symm; have f5_ := f3_.symm; clear f1_ f2_ f3_; subst f4_; subst f5_))
         refine start_ (n := 23) (S := fun w' => w'.cell? ⟨gb165, 0, none⟩ = some (.slice Ao13 x166000_1.length co13) ∧ w'.cell? ⟨gb165, 1, none⟩ = some (.bool x166001_1) ∧ w'.cell? ⟨gb165, 2, none⟩ = some (.bool true) ∧ w'.cell? ⟨gb165, 3, none⟩ = some (.bool x166003_1) ∧ w'.cell? ⟨gb165, 4, none⟩ = some (.int .i64 x166004_1)) (ds := []) #[false, false, false, false, false, false, false, false, false, false, false, false, false, false, false, false, false, false, false, false, false, false, false] (by kernel_rfl) rfl rfl ⟨(blk_cell BK165.out 0).trans rfl, (blk_cell BK165.out 1).trans rfl, (blk_cell BK165.out 2).trans rfl, (blk_cell BK165.out 3).trans rfl, (blk_cell BK165.out 4).trans rfl⟩ (fun hHeld => ?_)
         generalize w11.drew = w12 at HO_5 HO_166000 BK165 BK167 BK168 HB hHeld ⊢
         refine pure_ (i := 0) (N := some 9) (v := ?_) (a' := ?_) #[true, false, false, false, false, false, false, false, false, false, false, false, false, false, false, false, false, false, false, false, false, false, false] rfl rfl (by kernel_rfl) (fun _ _ _ h => h) (Or.inl ⟨by rfl, ?_⟩) ?_ ?_
         rotate_left
         ·intro w'
          go_simp
          with_reducible rfl
         rotate_left
         ·simp only [Act.put, List.setIfInBounds_toArray, List.set_cons_zero, List.set_cons_succ, i64_w, i32_w]
          rfl
         refine pure_ (i := 1) (N := some 10) (v := ?_) (a' := ?_) #[true, true, false, false, false, false, false, false, false, false, false, false, false, false, false, false, false, false, false, false, false, false, false] rfl rfl (by kernel_rfl) (fun _ _ _ h => h) (Or.inl ⟨by rfl, ?_⟩) ?_ ?_
         rotate_left
         ·intro w'
          go_simp
          with_reducible rfl
         rotate_left
         ·simp only [Act.put, List.setIfInBounds_toArray, List.set_cons_zero, List.set_cons_succ, i64_w, i32_w]
          rfl
         refine pure_ (i := 2) (N := some 11) (v := ?_) (a' := ?_) #[true, true, true, false, false, false, false, false, false, false, false, false, false, false, false, false, false, false, false, false, false, false, false] rfl rfl (by kernel_rfl) (fun _ _ _ h => h) (Or.inl ⟨by rfl, ?_⟩) ?_ ?_
         rotate_left
         ·intro w'
          go_simp
          with_reducible rfl
         rotate_left
         ·simp only [Act.put, List.setIfInBounds_toArray, List.set_cons_zero, List.set_cons_succ, i64_w, i32_w]
          rfl
         refine pure_ (i := 4) (N := some 13) (v := ?_) (a' := ?_) #[true, true, true, false, true, false, false, false, false, false, false, false, false, false, false, false, false, false, false, false, false, false, false] rfl rfl (by kernel_rfl) (fun _ _ _ h => h) (Or.inl ⟨by rfl, ?_⟩) ?_ ?_
         rotate_left
         ·intro w'
          go_simp
          with_reducible rfl
         rotate_left
         ·simp only [Act.put, List.setIfInBounds_toArray, List.set_cons_zero, List.set_cons_succ, i64_w, i32_w]
          rfl
         refine pure_ (i := 5) (N := some 14) (v := ?_) (a' := ?_) #[true, true, true, false, true, true, false, false, false, false, false, false, false, false, false, false, false, false, false, false, false, false, false] rfl rfl (by kernel_rfl) (fun _ _ _ h => h) (Or.inl ⟨by rfl, ?_⟩) ?_ ?_
         rotate_left
         ·intro w'
          go_simp
          with_reducible rfl
         rotate_left
         ·simp only [Act.put, List.setIfInBounds_toArray, List.set_cons_zero, List.set_cons_succ, i64_w, i32_w]
          rfl
         refine pure_ (i := 6) (N := some 15) (v := ?_) (a' := ?_) #[true, true, true, false, true, true, true, false, false, false, false, false, false, false, false, false, false, false, false, false, false, false, false] rfl rfl (by kernel_rfl) (fun _ _ _ h => h) (Or.inl ⟨by rfl, ?_⟩) ?_ ?_
         rotate_left
         ·intro w'
          go_simp
          with_reducible rfl
         rotate_left
         ·simp only [Act.put, List.setIfInBounds_toArray, List.set_cons_zero, List.set_cons_succ, i64_w, i32_w]
          rfl
         refine pure_ (i := 14) (N := some 23) (v := ?_) (a' := ?_) #[true, true, true, false, true, true, true, false, false, false, false, false, false, false, true, false, false, false, false, false, false, false, false] rfl rfl (by kernel_rfl) (fun _ _ _ h => h) (Or.inl ⟨by rfl, ?_⟩) ?_ ?_
         rotate_left
         ·intro w'
          go_simp
          with_reducible rfl
         rotate_left
         ·simp only [Act.put, List.setIfInBounds_toArray, List.set_cons_zero, List.set_cons_succ, i64_w, i32_w]
          rfl
         refine pure_ (i := 15) (N := some 24) (v := ?_) (a' := ?_) #[true, true, true, false, true, true, true, false, false, false, false, false, false, false, true, true, false, false, false, false, false, false, false] rfl rfl (by kernel_rfl) (fun _ _ _ h => h) (Or.inl ⟨by rfl, ?_⟩) ?_ ?_
         rotate_left
         ·intro w'
          go_simp
          with_reducible rfl
         rotate_left
         ·simp only [Act.put, List.setIfInBounds_toArray, List.set_cons_zero, List.set_cons_succ, i64_w, i32_w]
          rfl
         refine pure_ (i := 16) (N := some 25) (v := ?_) (a' := ?_) #[true, true, true, false, true, true, true, false, false, false, false, false, false, false, true, true, true, false, false, false, false, false, false] rfl rfl (by kernel_rfl) (fun _ _ _ h => h) (Or.inl ⟨by rfl, ?_⟩) ?_ ?_
         rotate_left
         ·intro w'
          go_simp
          with_reducible rfl
         rotate_left
         ·simp only [Act.put, List.setIfInBounds_toArray, List.set_cons_zero, List.set_cons_succ, i64_w, i32_w]
          rfl
         refine take_ (i := 3) (N := some 12) (v := ?_) (a' := ?_) #[true, true, true, true, true, true, true, false, false, false, false, false, false, false, true, true, true, false, false, false, false, false, false] rfl rfl (by kernel_rfl) (fun _ _ _ h => h) (Or.inl ⟨by rfl, ?_⟩) hHeld ?_ ?_
         rotate_left
         ·rintro w' ⟨s0, s1, s2, s3, s4⟩
          go_simp
          with_reducible rfl
         rotate_left
         ·simp only [Act.put, List.setIfInBounds_toArray, List.set_cons_zero, List.set_cons_succ, i64_w, i32_w]
          rfl
         refine take_ (i := 7) (N := some 16) (v := ?_) (a' := ?_) #[true, true, true, true, true, true, true, true, false, false, false, false, false, false, true, true, true, false, false, false, false, false, false] rfl rfl (by kernel_rfl) (fun _ _ _ h => h) (Or.inl ⟨by rfl, ?_⟩) hHeld ?_ ?_
         rotate_left
         ·rintro w' ⟨s0, s1, s2, s3, s4⟩
          go_simp
          with_reducible rfl
         rotate_left
         ·simp only [Act.put, List.setIfInBounds_toArray, List.set_cons_zero, List.set_cons_succ, i64_w, i32_w]
          rfl
         refine pure_ (i := 8) (N := some 17) (v := ?_) (a' := ?_) #[true, true, true, true, true, true, true, true, true, false, false, false, false, false, true, true, true, false, false, false, false, false, false] rfl rfl (by kernel_rfl) (fun _ _ _ h => h) (Or.inl ⟨by rfl, ?_⟩) ?_ ?_
         rotate_left
         ·intro w'
          go_simp
          with_reducible rfl
         rotate_left
         ·simp only [Act.put, List.setIfInBounds_toArray, List.set_cons_zero, List.set_cons_succ, i64_w, i32_w]
          rfl
         refine pure_ (i := 9) (N := some 18) (v := undef) (a' := ?_) #[true, true, true, true, true, true, true, true, true, true, false, false, false, false, true, true, true, false, false, false, false, false, false] rfl rfl (by kernel_rfl) (fun _ _ _ h => h) (Or.inr ⟨by rfl, rfl⟩) ?_ ?_
         rotate_left
         ·simp only [Act.put, List.setIfInBounds_toArray, List.set_cons_zero, List.set_cons_succ, i64_w, i32_w]
          rfl
         refine pure_ (i := 10) (N := some 19) (v := undef) (a' := ?_) #[true, true, true, true, true, true, true, true, true, true, true, false, false, false, true, true, true, false, false, false, false, false, false] rfl rfl (by kernel_rfl) (fun _ _ _ h => h) (Or.inr ⟨by rfl, rfl⟩) ?_ ?_
         rotate_left
         ·simp only [Act.put, List.setIfInBounds_toArray, List.set_cons_zero, List.set_cons_succ, i64_w, i32_w]
          rfl
         refine pure_ (i := 11) (N := some 20) (v := undef) (a' := ?_) #[true, true, true, true, true, true, true, true, true, true, true, true, false, false, true, true, true, false, false, false, false, false, false] rfl rfl (by kernel_rfl) (fun _ _ _ h => h) (Or.inr ⟨by rfl, rfl⟩) ?_ ?_
         rotate_left
         ·simp only [Act.put, List.setIfInBounds_toArray, List.set_cons_zero, List.set_cons_succ, i64_w, i32_w]
          rfl
         refine pure_ (i := 12) (N := some 21) (v := undef) (a' := ?_) #[true, true, true, true, true, true, true, true, true, true, true, true, true, false, true, true, true, false, false, false, false, false, false] rfl rfl (by kernel_rfl) (fun _ _ _ h => h) (Or.inr ⟨by rfl, rfl⟩) ?_ ?_
         rotate_left
         ·simp only [Act.put, List.setIfInBounds_toArray, List.set_cons_zero, List.set_cons_succ, i64_w, i32_w]
          rfl
         refine pure_ (i := 13) (N := some 22) (v := ?_) (a' := ?_) #[true, true, true, true, true, true, true, true, true, true, true, true, true, true, true, true, true, false, false, false, false, false, false] rfl rfl (by kernel_rfl) (fun _ _ _ h => h) (Or.inl ⟨by rfl, ?_⟩) ?_ ?_
         rotate_left
         ·intro w'
          go_simp
          with_reducible rfl
         rotate_left
         ·simp only [Act.put, List.setIfInBounds_toArray, List.set_cons_zero, List.set_cons_succ, i64_w, i32_w]
          rfl
         refine pure_ (i := 20) (N := some 4) (v := ?_) (a' := ?_) #[true, true, true, true, true, true, true, true, true, true, true, true, true, true, true, true, true, false, false, false, true, false, false] rfl rfl (by kernel_rfl) (fun _ _ _ h => h) (Or.inl ⟨by rfl, ?_⟩) ?_ ?_
         rotate_left
         ·intro w'
          go_simp
          with_reducible rfl
         rotate_left
         ·simp only [Act.put, List.setIfInBounds_toArray, List.set_cons_zero, List.set_cons_succ, i64_w, i32_w]
          rfl
         refine pure_ (i := 21) (N := some 5) (v := ?_) (a' := ?_) #[true, true, true, true, true, true, true, true, true, true, true, true, true, true, true, true, true, false, false, false, true, true, false] rfl rfl (by kernel_rfl) (fun _ _ _ h => h) (Or.inl ⟨by rfl, ?_⟩) ?_ ?_
         rotate_left
         ·intro w'
          go_simp
          with_reducible rfl
         rotate_left
         ·simp only [Act.put, List.setIfInBounds_toArray, List.set_cons_zero, List.set_cons_succ, i64_w, i32_w]
          rfl
         refine take_ (i := 17) (N := some 26) (v := ?_) (a' := ?_) #[true, true, true, true, true, true, true, true, true, true, true, true, true, true, true, true, true, true, false, false, true, true, false] rfl rfl (by kernel_rfl) (fun _ _ _ h => h) (Or.inl ⟨by rfl, ?_⟩) hHeld ?_ ?_
         rotate_left
         ·rintro w' ⟨s0, s1, s2, s3, s4⟩
          go_simp
          with_reducible rfl
         rotate_left
         ·simp only [Act.put, List.setIfInBounds_toArray, List.set_cons_zero, List.set_cons_succ, i64_w, i32_w]
          rfl
         refine pure_ (i := 18) (N := some 27) (v := ?_) (a' := ?_) #[true, true, true, true, true, true, true, true, true, true, true, true, true, true, true, true, true, true, true, false, true, true, false] rfl rfl (by kernel_rfl) (fun _ _ _ h => h) (Or.inl ⟨by rfl, ?_⟩) ?_ ?_
         rotate_left
         ·intro w'
          go_simp
          with_reducible rfl
         rotate_left
         ·simp only [Act.put, List.setIfInBounds_toArray, List.set_cons_zero, List.set_cons_succ, i64_w, i32_w]
          rfl
         refine pure_ (i := 19) (N := some 28) (v := ?_) (a' := ?_) #[true, true, true, true, true, true, true, true, true, true, true, true, true, true, true, true, true, true, true, true, true, true, false] rfl rfl (by kernel_rfl) (fun _ _ _ h => h) (Or.inl ⟨by rfl, ?_⟩) ?_ ?_
         rotate_left
         ·intro w'
          go_simp
          with_reducible rfl
         rotate_left
         ·simp only [Act.put, List.setIfInBounds_toArray, List.set_cons_zero, List.set_cons_succ, i64_w, i32_w]
          rfl
         refine pure_ (i := 22) (N := some 6) (v := ?_) (a' := ?_) #[true, true, true, true, true, true, true, true, true, true, true, true, true, true, true, true, true, true, true, true, true, true, true] rfl rfl (by kernel_rfl) (fun _ _ _ h => h) (Or.inl ⟨by rfl, ?_⟩) ?_ ?_
         rotate_left
         ·intro w'
          go_simp
          with_reducible rfl
         rotate_left
         ·simp only [Act.put, List.setIfInBounds_toArray, List.set_cons_zero, List.set_cons_succ, i64_w, i32_w]
          rfl
         refine done_ (by kernel_rfl) ?_
         have hcz14_0 := tch5 BK165.out
         try go_wp2_with (first | ((with_reducible refine gate_store (t := 78) (p := 35) rfl ?_); refine store_row (t := 78) (p := 35) (v := ?vo_w15) ?hgd ?ho ?hN gb165 0 #[.slice Ao13 x166000_1.length co13, .bool x166001_1, .bool true, .bool x166003_1, .int .i64 x166004_1] [.slice none 0 0, .bool false, .bool false, .bool true, .int .i64 x166004_1] #[.slice none 0 0, .bool false, .bool false, .bool true, .int .i64 x166004_1] ?hx ?hy BK165.out szi78 (Nat.le_of_ble_eq_true rfl) ?h1 ?hnew ?_; (case ho | hgd | hN | hx => rfl); (case hy => first | rfl | (go_simp; done) | (go_simp; rfl)); (case h1 | hnew => rfl); intro w15 hbox hg; replace HO_5 := Aside0.mk (Kd.S_mono (Kd.S_grown (Kd.S_types HO_5.out BK165.out (by decide)) hg (fun k_ hk e_ => hk.2 (Option.some.inj e_))) (fun k_ hk => hk.1)); replace HO_166000 := Aside0.mk (Kd.R_mono (Kd.R_grown (Kd.R_types HO_166000.out BK165.out (by decide)) hg (fun k_ hk e_ => hk.2 (Option.some.inj e_))) (fun k_ hk => hk.1)); replace BK167 := Aside0.mk (blk_grown BK167.out hg (nbi NB167_165)); replace BK168 := Aside0.mk (blk_grown BK168.out hg (nbi NB168_165)); replace HB := Aside0.mk (pw_below_grown HB.out (some gb165) (below_size HB.out) hg (fun k_ e_ => by cases e_; exact GE165.out)); replace BK165 := Aside0.mk (hbox); clear hbox hg) | ((with_reducible refine gate_callee (f := 58) rfl ?_); refine goesL_ (some 44) rfl rfl Try.func58 (by kernel_rfl) rfl #[.slice Ao13 x166000_1.length co13] rfl (by (try simp only [List.map_toArray, List.map_cons, List.map_nil]); first | done | rfl | (simp only [List.length_drop, List.length_take]; rfl)) ?_; (with_reducible refine (bus_Parse.calls k1 _ _ x166000_1 t169 t170 t171 t172 t175 _ ?side1 ?side2 A9.out).mono ?_); (case side1 => repeat (first | exact (Kd.R_reads' HO_166000.out).2.2 | (with_reducible refine Kd.C_alloc ?_ _) | (with_reducible refine Kd.C_drewN ?_ _) | (with_reducible refine Kd.C_drew ?_))); (case side2 => exact (Kd.R_reads' HO_166000.out).2.1); rintro e w16 ⟨v173, rfl, ho0, hb⟩; refine ⟨_, rfl, ?_⟩; have n0_ := Aside0.mk (Kd.S_elder' (by (with_reducible repeat (first | apply Kd.S_alloc | apply Kd.S_drewN | apply Kd.S_drew)); exact HO_5.out) (Kd.R_base ho0) hb); have n1_ := Aside0.mk (Kd.R_elder' (by (with_reducible repeat (first | apply Kd.R_alloc | apply Kd.R_drewN | apply Kd.R_drew)); exact HO_166000.out) (Kd.R_base ho0) hb); have n2_ := Aside0.mk (Kd.R_lower (Kd.R_new' ho0 (Kd.R_lt (by (with_reducible repeat (first | apply Kd.R_alloc | apply Kd.R_drewN | apply Kd.R_drew)); exact HO_166000.out))) (below_size HB.out)); have n3_ := Aside0.mk (blk_below BK165.out hb); have n4_ := Aside0.mk (blk_below BK167.out hb); have n5_ := Aside0.mk (blk_below BK168.out hb); have n6_ := Aside0.mk (below_step HB.out hb); clear HO_5; clear HO_166000; clear BK165; clear BK167; clear BK168; clear HB; have HO_5 := n0_; have HO_166000 := n1_; have HO174 := n2_; have BK165 := n3_; have BK167 := n4_; have BK168 := n5_; have HB := n6_; clear n0_ n1_ n2_ n3_ n4_ n5_ n6_; (try clear hb); (try clear hb2); (try clear hk); (try clear hi); (try clear ho0)) | ((with_reducible refine gate_dst (N := 7) rfl ?_); refine box_event ?hg (N := 7) ?hd (cs := #[.int .i64 0, .int .i64 0, .int .i64 0, .slice none 0 0]) (t := 40) ?hr ?_; (case hd | hg => rfl); (case hr => first | (go_simp; done) | (go_simp; rfl)); intro gb176 hg w17 hbox hb; have n0_ := Aside0.mk (Kd.S_below (Kd.S_elderB (by (with_reducible repeat (first | apply Kd.S_alloc | apply Kd.S_drewN | apply Kd.S_drew)); exact HO_5.out) gb176 (Nat.le_of_eq hg.symm)) hb); have n1_ := Aside0.mk (Kd.R_below (by (with_reducible repeat (first | apply Kd.R_alloc | apply Kd.R_drewN | apply Kd.R_drew)); exact HO_166000.out) hb); have n2_ := Aside0.mk (Kd.R_below (by (with_reducible repeat (first | apply Kd.R_alloc | apply Kd.R_drewN | apply Kd.R_drew)); exact HO174.out) hb); have n3_ := Aside0.mk (blk_below BK165.out hb); have n4_ := Aside0.mk (blk_below BK167.out hb); have n5_ := Aside0.mk (blk_below BK168.out hb); have n6_ := Aside0.mk (below_step HB.out hb); have n7_ := Aside0.mk (hbox); have n8_ := Aside0.mk ((by rw [hg]; exact (below_size HB.out) : w.heap.size ≤ gb176)); have n9_ := Aside0.mk ((by rw [hg]; exact (below_size HB.out) : w.heap.size ≤ gb176)); have n10_ := Aside0.mk ((by rw [hg]; exact Nat.ne_of_lt (blk_lt BK165.out) : gb165 ≠ gb176)); have n11_ := Aside0.mk ((by rw [hg]; exact Nat.ne_of_gt (blk_lt BK165.out) : gb176 ≠ gb165)); have n12_ := Aside0.mk ((by rw [hg]; exact Nat.ne_of_lt (blk_lt BK167.out) : gb167 ≠ gb176)); have n13_ := Aside0.mk ((by rw [hg]; exact Nat.ne_of_gt (blk_lt BK167.out) : gb176 ≠ gb167)); have n14_ := Aside0.mk ((by rw [hg]; exact Nat.ne_of_lt (blk_lt BK168.out) : gb168 ≠ gb176)); have n15_ := Aside0.mk ((by rw [hg]; exact Nat.ne_of_gt (blk_lt BK168.out) : gb176 ≠ gb168)); clear HO_5; clear HO_166000; clear HO174; clear BK165; clear BK167; clear BK168; clear HB; have HO_5 := n0_; have HO_166000 := n1_; have HO174 := n2_; have BK165 := n3_; have BK167 := n4_; have BK168 := n5_; have HB := n6_; have BK176 := n7_; have GW176 := n8_; have GE176 := n9_; have NB165_176 := n10_; have NB176_165 := n11_; have NB167_176 := n12_; have NB176_167 := n13_; have NB168_176 := n14_; have NB176_168 := n15_; clear n0_ n1_ n2_ n3_ n4_ n5_ n6_ n7_ n8_ n9_ n10_ n11_ n12_ n13_ n14_ n15_; clear hb hbox hg; obtain ⟨Ao18, co18, eo18⟩ := Kd.R_slice HO174.out; subst eo18) | ((with_reducible refine gate_store (t := 40) (p := 7) rfl ?_); refine store_row (t := 40) (p := 7) (v := ?vo_w19) ?hgd ?ho ?hN gb176 0 #[.int .i64 0, .int .i64 0, .int .i64 0, .slice none 0 0] [.int .i64 t169, .int .i64 t170, .int .i64 t171, .slice Ao18 t172.length co18] #[.int .i64 t169, .int .i64 t170, .int .i64 t171, .slice Ao18 t172.length co18] ?hx ?hy BK176.out szi40 (Nat.le_of_ble_eq_true rfl) ?h1 ?hnew ?_; (case ho | hgd | hN | hx => rfl); (case hy => first | rfl | (go_simp; done) | (go_simp; rfl)); (case h1 | hnew => rfl); intro w19 hbox hg; replace HO_5 := Aside0.mk (Kd.S_grown HO_5.out hg (fun k_ hk e_ => (hk.2) (Option.some.inj e_))); replace HO_166000 := Aside0.mk (Kd.R_mono (Kd.R_grown (Kd.R_types HO_166000.out BK176.out (by decide)) hg (fun k_ hk e_ => hk.2 (Option.some.inj e_))) (fun k_ hk => hk.1)); replace HO174 := Aside0.mk (Kd.R_mono (Kd.R_grown (Kd.R_types HO174.out BK176.out (by decide)) hg (fun k_ hk e_ => hk.2 (Option.some.inj e_))) (fun k_ hk => hk.1)); replace BK165 := Aside0.mk (blk_grown BK165.out hg (nbi NB165_176)); replace BK167 := Aside0.mk (blk_grown BK167.out hg (nbi NB167_176)); replace BK168 := Aside0.mk (blk_grown BK168.out hg (nbi NB168_176)); replace HB := Aside0.mk (pw_below_grown HB.out (some gb176) (below_size HB.out) hg (fun k_ e_ => by cases e_; exact GE176.out)); replace BK176 := Aside0.mk (hbox); clear hbox hg; have hcz20_0 := tch5 BK165.out) | ((with_reducible refine gate_store (t := 3) (p := 58) rfl ?_); refine store_row (t := 3) (p := 58) (v := ?vo_w21) ?hgd ?ho ?hN gb165 4 #[.slice none 0 0, .bool false, .bool false, .bool true, .int .i64 x166004_1] [.int .i64 (wrap64 (x166004_1 + 1))] #[.slice none 0 0, .bool false, .bool false, .bool true, .int .i64 (wrap64 (x166004_1 + 1))] ?hx ?hy BK165.out szi3 (Nat.le_of_ble_eq_true rfl) ?h1 ?hnew ?_; (case ho | hgd | hN | hx => rfl); (case hy => first | rfl | (go_simp; done) | (go_simp; rfl)); (case h1 | hnew => rfl); intro w21 hbox hg; replace HO_5 := Aside0.mk (Kd.S_mono (Kd.S_grown (Kd.S_types HO_5.out BK165.out (by decide)) hg (fun k_ hk e_ => hk.2 (Option.some.inj e_))) (fun k_ hk => hk.1)); replace HO_166000 := Aside0.mk (Kd.R_mono (Kd.R_grown (Kd.R_types HO_166000.out BK165.out (by decide)) hg (fun k_ hk e_ => hk.2 (Option.some.inj e_))) (fun k_ hk => hk.1)); replace HO174 := Aside0.mk (Kd.R_mono (Kd.R_grown (Kd.R_types HO174.out BK165.out (by decide)) hg (fun k_ hk e_ => hk.2 (Option.some.inj e_))) (fun k_ hk => hk.1)); replace BK167 := Aside0.mk (blk_grown BK167.out hg (nbi NB167_165)); replace BK168 := Aside0.mk (blk_grown BK168.out hg (nbi NB168_165)); replace BK176 := Aside0.mk (blk_grown BK176.out hg (nbi NB176_165)); replace HB := Aside0.mk (pw_below_grown HB.out (some gb165) (below_size HB.out) hg (fun k_ e_ => by cases e_; exact GE165.out)); replace BK165 := Aside0.mk (hbox); clear hbox hg) | ((with_reducible refine gate_store (t := 40) (p := 2) rfl ?_); refine store_row (t := 40) (p := 2) (v := ?vo_w22) ?hgd ?ho ?hN gb168 0 #[.int .i64 0, .int .i64 0, .int .i64 0, .slice none 0 0] [.int .i64 0, .int .i64 0, .int .i64 0, .slice none 0 0] #[.int .i64 0, .int .i64 0, .int .i64 0, .slice none 0 0] ?hx ?hy BK168.out szi40 (Nat.le_of_ble_eq_true rfl) ?h1 ?hnew ?_; (case ho | hgd | hN | hx => rfl); (case hy => first | rfl | (go_simp; done) | (go_simp; rfl)); (case h1 | hnew => rfl); intro w22 hbox hg; replace HO_5 := Aside0.mk (Kd.S_grown HO_5.out hg (fun k_ hk e_ => (hk.1.1.2) (Option.some.inj e_))); replace HO_166000 := Aside0.mk (Kd.R_mono (Kd.R_grown (Kd.R_types HO_166000.out BK168.out (by decide)) hg (fun k_ hk e_ => hk.2 (Option.some.inj e_))) (fun k_ hk => hk.1)); replace HO174 := Aside0.mk (Kd.R_mono (Kd.R_grown (Kd.R_types HO174.out BK168.out (by decide)) hg (fun k_ hk e_ => hk.2 (Option.some.inj e_))) (fun k_ hk => hk.1)); replace BK165 := Aside0.mk (blk_grown BK165.out hg (nbi NB165_168)); replace BK167 := Aside0.mk (blk_grown BK167.out hg (nbi NB167_168)); replace BK176 := Aside0.mk (blk_grown BK176.out hg (nbi NB176_168)); replace HB := Aside0.mk (pw_below_grown HB.out (some gb168) (below_size HB.out) hg (fun k_ e_ => by cases e_; exact GE168.out)); replace BK168 := Aside0.mk (hbox); clear hbox hg))
         (try simp only [Exit.inBlock, Exit.then])
         refine bodyPost_ret (results_ct rfl _ _ gb168 40 #[.int .i64 0, .int .i64 0, .int .i64 0, .slice none 0 0] (0, 0) _ rfl BK168.out Try.underlying40 rfl (by kernel_rfl)) rfl ?_
         try go_wp2_with (first | ((with_reducible refine gate_store (t := 40) (p := 4) rfl ?_); refine store_row (t := 40) (p := 4) (v := ?vo_w23) ?hgd ?ho ?hN gb167 0 #[.int .i64 0, .int .i64 0, .int .i64 0, .slice none 0 0] [.int .i64 0, .int .i64 0, .int .i64 0, .slice none 0 0] #[.int .i64 0, .int .i64 0, .int .i64 0, .slice none 0 0] ?hx ?hy BK167.out szi40 (Nat.le_of_ble_eq_true rfl) ?h1 ?hnew ?_; (case ho | hgd | hN | hx => rfl); (case hy => first | rfl | (go_simp; done) | (go_simp; rfl)); (case h1 | hnew => rfl); intro w23 hbox hg; replace HO_5 := Aside0.mk (Kd.S_grown HO_5.out hg (fun k_ hk e_ => (hk.1.1.1.2) (Option.some.inj e_))); replace HO_166000 := Aside0.mk (Kd.R_mono (Kd.R_grown (Kd.R_types HO_166000.out BK167.out (by decide)) hg (fun k_ hk e_ => hk.2 (Option.some.inj e_))) (fun k_ hk => hk.1)); replace HO174 := Aside0.mk (Kd.R_mono (Kd.R_grown (Kd.R_types HO174.out BK167.out (by decide)) hg (fun k_ hk e_ => hk.2 (Option.some.inj e_))) (fun k_ hk => hk.1)); replace BK165 := Aside0.mk (blk_grown BK165.out hg (nbi NB165_167)); replace BK168 := Aside0.mk (blk_grown BK168.out hg (nbi NB168_167)); replace BK176 := Aside0.mk (blk_grown BK176.out hg (nbi NB176_167)); replace HB := Aside0.mk (pw_below_grown HB.out (some gb167) (below_size HB.out) hg (fun k_ e_ => by cases e_; exact GE167.out)); replace BK167 := Aside0.mk (hbox); clear hbox hg))
         (try simp only [Exit.inBlock, Exit.then])
         refine bodyPost_ret (results_ct rfl _ _ gb167 40 #[.int .i64 0, .int .i64 0, .int .i64 0, .slice none 0 0] (0, 0) _ rfl BK167.out Try.underlying40 rfl (by kernel_rfl)) rfl ?_
         try go_wp2_with (first | ((with_reducible refine gate_dst (N := 8) rfl ?_); refine box_event ?hg (N := 8) ?hd (cs := #[.int .i64 0, .int .i64 0, .int .i64 0, .slice none 0 0]) (t := 40) ?hr ?_; (case hd | hg => rfl); (case hr => first | (go_simp; done) | (go_simp; rfl)); intro gb177 hg w24 hbox hb; have n0_ := Aside0.mk (Kd.S_below (Kd.S_elderB (by (with_reducible repeat (first | apply Kd.S_alloc | apply Kd.S_drewN | apply Kd.S_drew)); exact HO_5.out) gb177 (Nat.le_of_eq hg.symm)) hb); have n1_ := Aside0.mk (Kd.R_below (by (with_reducible repeat (first | apply Kd.R_alloc | apply Kd.R_drewN | apply Kd.R_drew)); exact HO_166000.out) hb); have n2_ := Aside0.mk (Kd.R_below (by (with_reducible repeat (first | apply Kd.R_alloc | apply Kd.R_drewN | apply Kd.R_drew)); exact HO174.out) hb); have n3_ := Aside0.mk (blk_below BK165.out hb); have n4_ := Aside0.mk (blk_below BK167.out hb); have n5_ := Aside0.mk (blk_below BK168.out hb); have n6_ := Aside0.mk (blk_below BK176.out hb); have n7_ := Aside0.mk (below_step HB.out hb); have n8_ := Aside0.mk (hbox); have n9_ := Aside0.mk ((by rw [hg]; exact (below_size HB.out) : w.heap.size ≤ gb177)); have n10_ := Aside0.mk ((by rw [hg]; exact (below_size HB.out) : w.heap.size ≤ gb177)); have n11_ := Aside0.mk ((by rw [hg]; exact Nat.ne_of_lt (blk_lt BK165.out) : gb165 ≠ gb177)); have n12_ := Aside0.mk ((by rw [hg]; exact Nat.ne_of_lt (blk_lt BK167.out) : gb167 ≠ gb177)); have n13_ := Aside0.mk ((by rw [hg]; exact Nat.ne_of_lt (blk_lt BK168.out) : gb168 ≠ gb177)); have n14_ := Aside0.mk ((by rw [hg]; exact Nat.ne_of_lt (blk_lt BK176.out) : gb176 ≠ gb177)); clear HO_5; clear HO_166000; clear HO174; clear BK165; clear BK167; clear BK168; clear BK176; clear HB; have HO_5 := n0_; have HO_166000 := n1_; have HO174 := n2_; have BK165 := n3_; have BK167 := n4_; have BK168 := n5_; have BK176 := n6_; have HB := n7_; have BK177 := n8_; have GW177 := n9_; have GE177 := n10_; have NB165_177 := n11_; have NB167_177 := n12_; have NB168_177 := n13_; have NB176_177 := n14_; clear n0_ n1_ n2_ n3_ n4_ n5_ n6_ n7_ n8_ n9_ n10_ n11_ n12_ n13_ n14_; clear hb hbox hg) | ((with_reducible refine gate_store (t := 40) (p := 8) rfl ?_); refine store_row (t := 40) (p := 8) (v := ?vo_w25) ?hgd ?ho ?hN gb177 0 #[.int .i64 0, .int .i64 0, .int .i64 0, .slice none 0 0] [.int .i64 0, .int .i64 0, .int .i64 0, .slice none 0 0] #[.int .i64 0, .int .i64 0, .int .i64 0, .slice none 0 0] ?hx ?hy BK177.out szi40 (Nat.le_of_ble_eq_true rfl) ?h1 ?hnew ?_; (case ho | hgd | hN | hx => rfl); (case hy => first | rfl | (go_simp; done) | (go_simp; rfl)); (case h1 | hnew => rfl); intro w25 hbox hg; replace HO_5 := Aside0.mk (Kd.S_grown HO_5.out hg (fun k_ hk e_ => (hk.2) (Option.some.inj e_))); replace HO_166000 := Aside0.mk (Kd.R_mono (Kd.R_grown (Kd.R_types HO_166000.out BK177.out (by decide)) hg (fun k_ hk e_ => hk.2 (Option.some.inj e_))) (fun k_ hk => hk.1)); replace HO174 := Aside0.mk (Kd.R_mono (Kd.R_grown (Kd.R_types HO174.out BK177.out (by decide)) hg (fun k_ hk e_ => hk.2 (Option.some.inj e_))) (fun k_ hk => hk.1)); replace BK165 := Aside0.mk (blk_grown BK165.out hg (nbi NB165_177)); replace BK167 := Aside0.mk (blk_grown BK167.out hg (nbi NB167_177)); replace BK168 := Aside0.mk (blk_grown BK168.out hg (nbi NB168_177)); replace BK176 := Aside0.mk (blk_grown BK176.out hg (nbi NB176_177)); replace HB := Aside0.mk (pw_below_grown HB.out (some gb177) (below_size HB.out) hg (fun k_ e_ => by cases e_; exact GE177.out)); replace BK177 := Aside0.mk (hbox); clear hbox hg))
         go_roundg k1
         case measure => have := HK1.out; omega
         case rel => exact ⟨(x5_1), (wrap64 (x12_1 + 1)), (([] : List Int)), (false), (false), (true), (wrap64 (x166004_1 + 1)), (.slice none 0 0), (by first | rfl | (simp; done) | (simp [*]; done)), H', ⟨by have := HK1.out; omega⟩, ⟨by (with_reducible repeat (first | apply Kd.S_alloc | apply Kd.S_drewN | apply Kd.S_drew)); exact Kd.S_mono HO_5.out (fun _ hk => (by simp [Value.ownBlock]))⟩, ⟨by first | exact Kd.R_nil _ _ _ _ _ | exact Kd.N_nil _ _ _ _ _ | exact Kd.V_nil _ _ _ _ _ | exact Kd.Q_nil _ _ _ _ _ | exact Kd.S_nil _ _ _ _ _⟩, ⟨by exact BK165.out⟩, ⟨by exact HB.out⟩⟩
        ·rw [if_neg c8] at H
         have c8b0 : ((x166000_1.length : Int) == 0) = false := beq_eq_false_iff_ne.mpr c8
         have c8b1 : ((x166000_1.length : Int) != 0) = true := bne_iff_ne.mpr c8
         have c8b2 : ¬ (x166000_1 = []) := fun h_ => c8 (by rw [h_]; rfl)
         replace H := Option.bind_eq_some_iff.mp H
         obtain ⟨⟨t178, t179, t180, t181, t184⟩, A260, H⟩ := H
         replace H : (bus_Decode.l0 k1 x5_1 l0 (l0.length : Int) (wrap64 (x12_1 + 1)) ([] : List Int) false false true (wrap64 (x166004_1 + 1))) = some (r1, r2) := H
         have A26 := Aside0.mk A260
         clear A260
         have H' := Aside0.mk H
         clear H
         have p166 : 0 ≤ (x12_1 : Int) := of_decide_eq_true (by first | (with_reducible assumption) | assumption)
         have q166 : x12_1 < (l0.length : Int) := of_decide_eq_true (by first | (with_reducible assumption) | assumption)
         obtain ⟨ad166, e166, hx166_0⟩ := Kd.at_int HR0.out x12_1 p166 q166
         cases e166
         replace hx166_0 := (HB.out.cell (World.block_lt_of_cell? w _ hx166_0)).trans hx166_0
         replace p166 := eq_true p166
         replace q166 := eq_true q166
         try go_wp2_with (first | (go_at_call 42; go_enter Try.func42, Try.ntmps42) | ((with_reducible refine gate_dst (N := 4) rfl ?_); refine box_event ?hg (N := 4) ?hd (cs := #[.int .i64 0, .int .i64 0, .int .i64 0, .slice none 0 0]) (t := 40) ?hr ?_; (case hd | hg => rfl); (case hr => first | (go_simp; done) | (go_simp; rfl)); intro gb167 hg w27 hbox hb; have n0_ := Aside0.mk (Kd.S_below (Kd.S_elderB (by (with_reducible repeat (first | apply Kd.S_alloc | apply Kd.S_drewN | apply Kd.S_drew)); exact HO_5.out) gb167 (Nat.le_of_eq hg.symm)) hb); have n1_ := Aside0.mk (Kd.R_below (by (with_reducible repeat (first | apply Kd.R_alloc | apply Kd.R_drewN | apply Kd.R_drew)); exact HO_166000.out) hb); have n2_ := Aside0.mk (blk_below BK165.out hb); have n3_ := Aside0.mk (below_step HB.out hb); have n4_ := Aside0.mk (hbox); have n5_ := Aside0.mk ((by rw [hg]; exact (below_size HB.out) : w.heap.size ≤ gb167)); have n6_ := Aside0.mk ((by rw [hg]; exact (below_size HB.out) : w.heap.size ≤ gb167)); have n7_ := Aside0.mk ((by rw [hg]; exact Nat.ne_of_lt (blk_lt BK165.out) : gb165 ≠ gb167)); have n8_ := Aside0.mk ((by rw [hg]; exact Nat.ne_of_gt (blk_lt BK165.out) : gb167 ≠ gb165)); clear HO_5; clear HO_166000; clear BK165; clear HB; have HO_5 := n0_; have HO_166000 := n1_; have BK165 := n2_; have HB := n3_; have BK167 := n4_; have GW167 := n5_; have GE167 := n6_; have NB165_167 := n7_; have NB167_165 := n8_; clear n0_ n1_ n2_ n3_ n4_ n5_ n6_ n7_ n8_; clear hb hbox hg) | (go_at_call 50; go_enter Try.func50, Try.ntmps50) | ((with_reducible refine gate_dst (N := 2) rfl ?_); refine box_event ?hg (N := 2) ?hd (cs := #[.int .i64 0, .int .i64 0, .int .i64 0, .slice none 0 0]) (t := 40) ?hr ?_; (case hd | hg => rfl); (case hr => first | (go_simp; done) | (go_simp; rfl)); intro gb168 hg w28 hbox hb; have n0_ := Aside0.mk (Kd.S_below (Kd.S_elderB (by (with_reducible repeat (first | apply Kd.S_alloc | apply Kd.S_drewN | apply Kd.S_drew)); exact HO_5.out) gb168 (Nat.le_of_eq hg.symm)) hb); have n1_ := Aside0.mk (Kd.R_below (by (with_reducible repeat (first | apply Kd.R_alloc | apply Kd.R_drewN | apply Kd.R_drew)); exact HO_166000.out) hb); have n2_ := Aside0.mk (blk_below BK165.out hb); have n3_ := Aside0.mk (blk_below BK167.out hb); have n4_ := Aside0.mk (below_step HB.out hb); have n5_ := Aside0.mk (hbox); have n6_ := Aside0.mk ((by rw [hg]; exact (below_size HB.out) : w.heap.size ≤ gb168)); have n7_ := Aside0.mk ((by rw [hg]; exact (below_size HB.out) : w.heap.size ≤ gb168)); have n8_ := Aside0.mk ((by rw [hg]; exact Nat.ne_of_lt (blk_lt BK165.out) : gb165 ≠ gb168)); have n9_ := Aside0.mk ((by rw [hg]; exact Nat.ne_of_gt (blk_lt BK165.out) : gb168 ≠ gb165)); have n10_ := Aside0.mk ((by rw [hg]; exact Nat.ne_of_lt (blk_lt BK167.out) : gb167 ≠ gb168)); have n11_ := Aside0.mk ((by rw [hg]; exact Nat.ne_of_gt (blk_lt BK167.out) : gb168 ≠ gb167)); clear HO_5; clear HO_166000; clear BK165; clear BK167; clear HB; have HO_5 := n0_; have HO_166000 := n1_; have BK165 := n2_; have BK167 := n3_; have HB := n4_; have BK168 := n5_; have GW168 := n6_; have GE168 := n7_; have NB165_168 := n8_; have NB168_165 := n9_; have NB167_168 := n10_; have NB168_167 := n11_; clear n0_ n1_ n2_ n3_ n4_ n5_ n6_ n7_ n8_ n9_ n10_ n11_; clear hb hbox hg))
         replace HO_5 := Aside0.mk (Kd.S_drew HO_5.out)
         replace HO_166000 := Aside0.mk (Kd.R_drew HO_166000.out)
         replace BK165 := Aside0.mk (blk_drew BK165.out)
         replace BK167 := Aside0.mk (blk_drew BK167.out)
         replace BK168 := Aside0.mk (blk_drew BK168.out)
         replace HB := Aside0.mk (below_drew1 HB.out)
         obtain ⟨Ao30, co30, eo30⟩ := Kd.R_slice HO_166000.out
         (first | subst eo30 | (injection eo30 with f1_ f2_ f3_; have f4_ := f1_.symm; have f5_ := f3_.symm; clear f1_ f2_ f3_; subst f4_; subst f5_))
         refine start_ (n := 23) (S := fun w' => w'.cell? ⟨gb165, 0, none⟩ = some (.slice Ao30 x166000_1.length co30) ∧ w'.cell? ⟨gb165, 1, none⟩ = some (.bool x166001_1) ∧ w'.cell? ⟨gb165, 2, none⟩ = some (.bool true) ∧ w'.cell? ⟨gb165, 3, none⟩ = some (.bool x166003_1) ∧ w'.cell? ⟨gb165, 4, none⟩ = some (.int .i64 x166004_1)) (ds := []) #[false, false, false, false, false, false, false, false, false, false, false, false, false, false, false, false, false, false, false, false, false, false, false] (by kernel_rfl) rfl rfl ⟨(blk_cell BK165.out 0).trans rfl, (blk_cell BK165.out 1).trans rfl, (blk_cell BK165.out 2).trans rfl, (blk_cell BK165.out 3).trans rfl, (blk_cell BK165.out 4).trans rfl⟩ (fun hHeld => ?_)
         generalize w28.drew = w29 at HO_5 HO_166000 BK165 BK167 BK168 HB hHeld ⊢
         refine pure_ (i := 0) (N := some 9) (v := ?_) (a' := ?_) #[true, false, false, false, false, false, false, false, false, false, false, false, false, false, false, false, false, false, false, false, false, false, false] rfl rfl (by kernel_rfl) (fun _ _ _ h => h) (Or.inl ⟨by rfl, ?_⟩) ?_ ?_
         rotate_left
         ·intro w'
          go_simp
          with_reducible rfl
         rotate_left
         ·simp only [Act.put, List.setIfInBounds_toArray, List.set_cons_zero, List.set_cons_succ, i64_w, i32_w]
          rfl
         refine pure_ (i := 1) (N := some 10) (v := ?_) (a' := ?_) #[true, true, false, false, false, false, false, false, false, false, false, false, false, false, false, false, false, false, false, false, false, false, false] rfl rfl (by kernel_rfl) (fun _ _ _ h => h) (Or.inl ⟨by rfl, ?_⟩) ?_ ?_
         rotate_left
         ·intro w'
          go_simp
          with_reducible rfl
         rotate_left
         ·simp only [Act.put, List.setIfInBounds_toArray, List.set_cons_zero, List.set_cons_succ, i64_w, i32_w]
          rfl
         refine pure_ (i := 2) (N := some 11) (v := ?_) (a' := ?_) #[true, true, true, false, false, false, false, false, false, false, false, false, false, false, false, false, false, false, false, false, false, false, false] rfl rfl (by kernel_rfl) (fun _ _ _ h => h) (Or.inl ⟨by rfl, ?_⟩) ?_ ?_
         rotate_left
         ·intro w'
          go_simp
          with_reducible rfl
         rotate_left
         ·simp only [Act.put, List.setIfInBounds_toArray, List.set_cons_zero, List.set_cons_succ, i64_w, i32_w]
          rfl
         refine pure_ (i := 4) (N := some 13) (v := ?_) (a' := ?_) #[true, true, true, false, true, false, false, false, false, false, false, false, false, false, false, false, false, false, false, false, false, false, false] rfl rfl (by kernel_rfl) (fun _ _ _ h => h) (Or.inl ⟨by rfl, ?_⟩) ?_ ?_
         rotate_left
         ·intro w'
          go_simp
          with_reducible rfl
         rotate_left
         ·simp only [Act.put, List.setIfInBounds_toArray, List.set_cons_zero, List.set_cons_succ, i64_w, i32_w]
          rfl
         refine pure_ (i := 5) (N := some 14) (v := ?_) (a' := ?_) #[true, true, true, false, true, true, false, false, false, false, false, false, false, false, false, false, false, false, false, false, false, false, false] rfl rfl (by kernel_rfl) (fun _ _ _ h => h) (Or.inl ⟨by rfl, ?_⟩) ?_ ?_
         rotate_left
         ·intro w'
          go_simp
          with_reducible rfl
         rotate_left
         ·simp only [Act.put, List.setIfInBounds_toArray, List.set_cons_zero, List.set_cons_succ, i64_w, i32_w]
          rfl
         refine pure_ (i := 6) (N := some 15) (v := ?_) (a' := ?_) #[true, true, true, false, true, true, true, false, false, false, false, false, false, false, false, false, false, false, false, false, false, false, false] rfl rfl (by kernel_rfl) (fun _ _ _ h => h) (Or.inl ⟨by rfl, ?_⟩) ?_ ?_
         rotate_left
         ·intro w'
          go_simp
          with_reducible rfl
         rotate_left
         ·simp only [Act.put, List.setIfInBounds_toArray, List.set_cons_zero, List.set_cons_succ, i64_w, i32_w]
          rfl
         refine pure_ (i := 14) (N := some 23) (v := ?_) (a' := ?_) #[true, true, true, false, true, true, true, false, false, false, false, false, false, false, true, false, false, false, false, false, false, false, false] rfl rfl (by kernel_rfl) (fun _ _ _ h => h) (Or.inl ⟨by rfl, ?_⟩) ?_ ?_
         rotate_left
         ·intro w'
          go_simp
          with_reducible rfl
         rotate_left
         ·simp only [Act.put, List.setIfInBounds_toArray, List.set_cons_zero, List.set_cons_succ, i64_w, i32_w]
          rfl
         refine pure_ (i := 15) (N := some 24) (v := ?_) (a' := ?_) #[true, true, true, false, true, true, true, false, false, false, false, false, false, false, true, true, false, false, false, false, false, false, false] rfl rfl (by kernel_rfl) (fun _ _ _ h => h) (Or.inl ⟨by rfl, ?_⟩) ?_ ?_
         rotate_left
         ·intro w'
          go_simp
          with_reducible rfl
         rotate_left
         ·simp only [Act.put, List.setIfInBounds_toArray, List.set_cons_zero, List.set_cons_succ, i64_w, i32_w]
          rfl
         refine pure_ (i := 16) (N := some 25) (v := ?_) (a' := ?_) #[true, true, true, false, true, true, true, false, false, false, false, false, false, false, true, true, true, false, false, false, false, false, false] rfl rfl (by kernel_rfl) (fun _ _ _ h => h) (Or.inl ⟨by rfl, ?_⟩) ?_ ?_
         rotate_left
         ·intro w'
          go_simp
          with_reducible rfl
         rotate_left
         ·simp only [Act.put, List.setIfInBounds_toArray, List.set_cons_zero, List.set_cons_succ, i64_w, i32_w]
          rfl
         refine take_ (i := 3) (N := some 12) (v := ?_) (a' := ?_) #[true, true, true, true, true, true, true, false, false, false, false, false, false, false, true, true, true, false, false, false, false, false, false] rfl rfl (by kernel_rfl) (fun _ _ _ h => h) (Or.inl ⟨by rfl, ?_⟩) hHeld ?_ ?_
         rotate_left
         ·rintro w' ⟨s0, s1, s2, s3, s4⟩
          go_simp
          with_reducible rfl
         rotate_left
         ·simp only [Act.put, List.setIfInBounds_toArray, List.set_cons_zero, List.set_cons_succ, i64_w, i32_w]
          rfl
         refine take_ (i := 7) (N := some 16) (v := ?_) (a' := ?_) #[true, true, true, true, true, true, true, true, false, false, false, false, false, false, true, true, true, false, false, false, false, false, false] rfl rfl (by kernel_rfl) (fun _ _ _ h => h) (Or.inl ⟨by rfl, ?_⟩) hHeld ?_ ?_
         rotate_left
         ·rintro w' ⟨s0, s1, s2, s3, s4⟩
          go_simp
          with_reducible rfl
         rotate_left
         ·simp only [Act.put, List.setIfInBounds_toArray, List.set_cons_zero, List.set_cons_succ, i64_w, i32_w]
          rfl
         refine pure_ (i := 8) (N := some 17) (v := ?_) (a' := ?_) #[true, true, true, true, true, true, true, true, true, false, false, false, false, false, true, true, true, false, false, false, false, false, false] rfl rfl (by kernel_rfl) (fun _ _ _ h => h) (Or.inl ⟨by rfl, ?_⟩) ?_ ?_
         rotate_left
         ·intro w'
          go_simp
          with_reducible rfl
         rotate_left
         ·simp only [Act.put, List.setIfInBounds_toArray, List.set_cons_zero, List.set_cons_succ, i64_w, i32_w]
          rfl
         refine pure_ (i := 9) (N := some 18) (v := undef) (a' := ?_) #[true, true, true, true, true, true, true, true, true, true, false, false, false, false, true, true, true, false, false, false, false, false, false] rfl rfl (by kernel_rfl) (fun _ _ _ h => h) (Or.inr ⟨by rfl, rfl⟩) ?_ ?_
         rotate_left
         ·simp only [Act.put, List.setIfInBounds_toArray, List.set_cons_zero, List.set_cons_succ, i64_w, i32_w]
          rfl
         refine pure_ (i := 10) (N := some 19) (v := undef) (a' := ?_) #[true, true, true, true, true, true, true, true, true, true, true, false, false, false, true, true, true, false, false, false, false, false, false] rfl rfl (by kernel_rfl) (fun _ _ _ h => h) (Or.inr ⟨by rfl, rfl⟩) ?_ ?_
         rotate_left
         ·simp only [Act.put, List.setIfInBounds_toArray, List.set_cons_zero, List.set_cons_succ, i64_w, i32_w]
          rfl
         refine pure_ (i := 11) (N := some 20) (v := undef) (a' := ?_) #[true, true, true, true, true, true, true, true, true, true, true, true, false, false, true, true, true, false, false, false, false, false, false] rfl rfl (by kernel_rfl) (fun _ _ _ h => h) (Or.inr ⟨by rfl, rfl⟩) ?_ ?_
         rotate_left
         ·simp only [Act.put, List.setIfInBounds_toArray, List.set_cons_zero, List.set_cons_succ, i64_w, i32_w]
          rfl
         refine pure_ (i := 12) (N := some 21) (v := undef) (a' := ?_) #[true, true, true, true, true, true, true, true, true, true, true, true, true, false, true, true, true, false, false, false, false, false, false] rfl rfl (by kernel_rfl) (fun _ _ _ h => h) (Or.inr ⟨by rfl, rfl⟩) ?_ ?_
         rotate_left
         ·simp only [Act.put, List.setIfInBounds_toArray, List.set_cons_zero, List.set_cons_succ, i64_w, i32_w]
          rfl
         refine pure_ (i := 13) (N := some 22) (v := ?_) (a' := ?_) #[true, true, true, true, true, true, true, true, true, true, true, true, true, true, true, true, true, false, false, false, false, false, false] rfl rfl (by kernel_rfl) (fun _ _ _ h => h) (Or.inl ⟨by rfl, ?_⟩) ?_ ?_
         rotate_left
         ·intro w'
          go_simp
          with_reducible rfl
         rotate_left
         ·simp only [Act.put, List.setIfInBounds_toArray, List.set_cons_zero, List.set_cons_succ, i64_w, i32_w]
          rfl
         refine pure_ (i := 20) (N := some 4) (v := ?_) (a' := ?_) #[true, true, true, true, true, true, true, true, true, true, true, true, true, true, true, true, true, false, false, false, true, false, false] rfl rfl (by kernel_rfl) (fun _ _ _ h => h) (Or.inl ⟨by rfl, ?_⟩) ?_ ?_
         rotate_left
         ·intro w'
          go_simp
          with_reducible rfl
         rotate_left
         ·simp only [Act.put, List.setIfInBounds_toArray, List.set_cons_zero, List.set_cons_succ, i64_w, i32_w]
          rfl
         refine pure_ (i := 21) (N := some 5) (v := ?_) (a' := ?_) #[true, true, true, true, true, true, true, true, true, true, true, true, true, true, true, true, true, false, false, false, true, true, false] rfl rfl (by kernel_rfl) (fun _ _ _ h => h) (Or.inl ⟨by rfl, ?_⟩) ?_ ?_
         rotate_left
         ·intro w'
          go_simp
          with_reducible rfl
         rotate_left
         ·simp only [Act.put, List.setIfInBounds_toArray, List.set_cons_zero, List.set_cons_succ, i64_w, i32_w]
          rfl
         refine take_ (i := 17) (N := some 26) (v := ?_) (a' := ?_) #[true, true, true, true, true, true, true, true, true, true, true, true, true, true, true, true, true, true, false, false, true, true, false] rfl rfl (by kernel_rfl) (fun _ _ _ h => h) (Or.inl ⟨by rfl, ?_⟩) hHeld ?_ ?_
         rotate_left
         ·rintro w' ⟨s0, s1, s2, s3, s4⟩
          go_simp
          with_reducible rfl
         rotate_left
         ·simp only [Act.put, List.setIfInBounds_toArray, List.set_cons_zero, List.set_cons_succ, i64_w, i32_w]
          rfl
         refine pure_ (i := 18) (N := some 27) (v := ?_) (a' := ?_) #[true, true, true, true, true, true, true, true, true, true, true, true, true, true, true, true, true, true, true, false, true, true, false] rfl rfl (by kernel_rfl) (fun _ _ _ h => h) (Or.inl ⟨by rfl, ?_⟩) ?_ ?_
         rotate_left
         ·intro w'
          go_simp
          with_reducible rfl
         rotate_left
         ·simp only [Act.put, List.setIfInBounds_toArray, List.set_cons_zero, List.set_cons_succ, i64_w, i32_w]
          rfl
         refine pure_ (i := 19) (N := some 28) (v := ?_) (a' := ?_) #[true, true, true, true, true, true, true, true, true, true, true, true, true, true, true, true, true, true, true, true, true, true, false] rfl rfl (by kernel_rfl) (fun _ _ _ h => h) (Or.inl ⟨by rfl, ?_⟩) ?_ ?_
         rotate_left
         ·intro w'
          go_simp
          with_reducible rfl
         rotate_left
         ·simp only [Act.put, List.setIfInBounds_toArray, List.set_cons_zero, List.set_cons_succ, i64_w, i32_w]
          rfl
         refine pure_ (i := 22) (N := some 6) (v := ?_) (a' := ?_) #[true, true, true, true, true, true, true, true, true, true, true, true, true, true, true, true, true, true, true, true, true, true, true] rfl rfl (by kernel_rfl) (fun _ _ _ h => h) (Or.inl ⟨by rfl, ?_⟩) ?_ ?_
         rotate_left
         ·intro w'
          go_simp
          with_reducible rfl
         rotate_left
         ·simp only [Act.put, List.setIfInBounds_toArray, List.set_cons_zero, List.set_cons_succ, i64_w, i32_w]
          rfl
         refine done_ (by kernel_rfl) ?_
         have hcz31_0 := tch5 BK165.out
         try go_wp2_with (first | ((with_reducible refine gate_store (t := 78) (p := 35) rfl ?_); refine store_row (t := 78) (p := 35) (v := ?vo_w32) ?hgd ?ho ?hN gb165 0 #[.slice Ao30 x166000_1.length co30, .bool x166001_1, .bool true, .bool x166003_1, .int .i64 x166004_1] [.slice none 0 0, .bool false, .bool false, .bool true, .int .i64 x166004_1] #[.slice none 0 0, .bool false, .bool false, .bool true, .int .i64 x166004_1] ?hx ?hy BK165.out szi78 (Nat.le_of_ble_eq_true rfl) ?h1 ?hnew ?_; (case ho | hgd | hN | hx => rfl); (case hy => first | rfl | (go_simp; done) | (go_simp; rfl)); (case h1 | hnew => rfl); intro w32 hbox hg; replace HO_5 := Aside0.mk (Kd.S_mono (Kd.S_grown (Kd.S_types HO_5.out BK165.out (by decide)) hg (fun k_ hk e_ => hk.2 (Option.some.inj e_))) (fun k_ hk => hk.1)); replace HO_166000 := Aside0.mk (Kd.R_mono (Kd.R_grown (Kd.R_types HO_166000.out BK165.out (by decide)) hg (fun k_ hk e_ => hk.2 (Option.some.inj e_))) (fun k_ hk => hk.1)); replace BK167 := Aside0.mk (blk_grown BK167.out hg (nbi NB167_165)); replace BK168 := Aside0.mk (blk_grown BK168.out hg (nbi NB168_165)); replace HB := Aside0.mk (pw_below_grown HB.out (some gb165) (below_size HB.out) hg (fun k_ e_ => by cases e_; exact GE165.out)); replace BK165 := Aside0.mk (hbox); clear hbox hg) | ((with_reducible refine gate_callee (f := 58) rfl ?_); refine goesL_ (some 44) rfl rfl Try.func58 (by kernel_rfl) rfl #[.slice Ao30 x166000_1.length co30] rfl (by (try simp only [List.map_toArray, List.map_cons, List.map_nil]); first | done | rfl | (simp only [List.length_drop, List.length_take]; rfl)) ?_; (with_reducible refine (bus_Parse.calls k1 _ _ x166000_1 t178 t179 t180 t181 t184 _ ?side1 ?side2 A26.out).mono ?_); (case side1 => repeat (first | exact (Kd.R_reads' HO_166000.out).2.2 | (with_reducible refine Kd.C_alloc ?_ _) | (with_reducible refine Kd.C_drewN ?_ _) | (with_reducible refine Kd.C_drew ?_))); (case side2 => exact (Kd.R_reads' HO_166000.out).2.1); rintro e w33 ⟨v182, rfl, ho0, hb⟩; refine ⟨_, rfl, ?_⟩; have n0_ := Aside0.mk (Kd.S_elder' (by (with_reducible repeat (first | apply Kd.S_alloc | apply Kd.S_drewN | apply Kd.S_drew)); exact HO_5.out) (Kd.R_base ho0) hb); have n1_ := Aside0.mk (Kd.R_elder' (by (with_reducible repeat (first | apply Kd.R_alloc | apply Kd.R_drewN | apply Kd.R_drew)); exact HO_166000.out) (Kd.R_base ho0) hb); have n2_ := Aside0.mk (Kd.R_lower (Kd.R_new' ho0 (Kd.R_lt (by (with_reducible repeat (first | apply Kd.R_alloc | apply Kd.R_drewN | apply Kd.R_drew)); exact HO_166000.out))) (below_size HB.out)); have n3_ := Aside0.mk (blk_below BK165.out hb); have n4_ := Aside0.mk (blk_below BK167.out hb); have n5_ := Aside0.mk (blk_below BK168.out hb); have n6_ := Aside0.mk (below_step HB.out hb); clear HO_5; clear HO_166000; clear BK165; clear BK167; clear BK168; clear HB; have HO_5 := n0_; have HO_166000 := n1_; have HO183 := n2_; have BK165 := n3_; have BK167 := n4_; have BK168 := n5_; have HB := n6_; clear n0_ n1_ n2_ n3_ n4_ n5_ n6_; (try clear hb); (try clear hb2); (try clear hk); (try clear hi); (try clear ho0)) | ((with_reducible refine gate_dst (N := 7) rfl ?_); refine box_event ?hg (N := 7) ?hd (cs := #[.int .i64 0, .int .i64 0, .int .i64 0, .slice none 0 0]) (t := 40) ?hr ?_; (case hd | hg => rfl); (case hr => first | (go_simp; done) | (go_simp; rfl)); intro gb185 hg w34 hbox hb; have n0_ := Aside0.mk (Kd.S_below (Kd.S_elderB (by (with_reducible repeat (first | apply Kd.S_alloc | apply Kd.S_drewN | apply Kd.S_drew)); exact HO_5.out) gb185 (Nat.le_of_eq hg.symm)) hb); have n1_ := Aside0.mk (Kd.R_below (by (with_reducible repeat (first | apply Kd.R_alloc | apply Kd.R_drewN | apply Kd.R_drew)); exact HO_166000.out) hb); have n2_ := Aside0.mk (Kd.R_below (by (with_reducible repeat (first | apply Kd.R_alloc | apply Kd.R_drewN | apply Kd.R_drew)); exact HO183.out) hb); have n3_ := Aside0.mk (blk_below BK165.out hb); have n4_ := Aside0.mk (blk_below BK167.out hb); have n5_ := Aside0.mk (blk_below BK168.out hb); have n6_ := Aside0.mk (below_step HB.out hb); have n7_ := Aside0.mk (hbox); have n8_ := Aside0.mk ((by rw [hg]; exact (below_size HB.out) : w.heap.size ≤ gb185)); have n9_ := Aside0.mk ((by rw [hg]; exact (below_size HB.out) : w.heap.size ≤ gb185)); have n10_ := Aside0.mk ((by rw [hg]; exact Nat.ne_of_lt (blk_lt BK165.out) : gb165 ≠ gb185)); have n11_ := Aside0.mk ((by rw [hg]; exact Nat.ne_of_gt (blk_lt BK165.out) : gb185 ≠ gb165)); have n12_ := Aside0.mk ((by rw [hg]; exact Nat.ne_of_lt (blk_lt BK167.out) : gb167 ≠ gb185)); have n13_ := Aside0.mk ((by rw [hg]; exact Nat.ne_of_gt (blk_lt BK167.out) : gb185 ≠ gb167)); have n14_ := Aside0.mk ((by rw [hg]; exact Nat.ne_of_lt (blk_lt BK168.out) : gb168 ≠ gb185)); have n15_ := Aside0.mk ((by rw [hg]; exact Nat.ne_of_gt (blk_lt BK168.out) : gb185 ≠ gb168)); clear HO_5; clear HO_166000; clear HO183; clear BK165; clear BK167; clear BK168; clear HB; have HO_5 := n0_; have HO_166000 := n1_; have HO183 := n2_; have BK165 := n3_; have BK167 := n4_; have BK168 := n5_; have HB := n6_; have BK185 := n7_; have GW185 := n8_; have GE185 := n9_; have NB165_185 := n10_; have NB185_165 := n11_; have NB167_185 := n12_; have NB185_167 := n13_; have NB168_185 := n14_; have NB185_168 := n15_; clear n0_ n1_ n2_ n3_ n4_ n5_ n6_ n7_ n8_ n9_ n10_ n11_ n12_ n13_ n14_ n15_; clear hb hbox hg; obtain ⟨Ao35, co35, eo35⟩ := Kd.R_slice HO183.out; subst eo35) | ((with_reducible refine gate_store (t := 40) (p := 7) rfl ?_); refine store_row (t := 40) (p := 7) (v := ?vo_w36) ?hgd ?ho ?hN gb185 0 #[.int .i64 0, .int .i64 0, .int .i64 0, .slice none 0 0] [.int .i64 t178, .int .i64 t179, .int .i64 t180, .slice Ao35 t181.length co35] #[.int .i64 t178, .int .i64 t179, .int .i64 t180, .slice Ao35 t181.length co35] ?hx ?hy BK185.out szi40 (Nat.le_of_ble_eq_true rfl) ?h1 ?hnew ?_; (case ho | hgd | hN | hx => rfl); (case hy => first | rfl | (go_simp; done) | (go_simp; rfl)); (case h1 | hnew => rfl); intro w36 hbox hg; replace HO_5 := Aside0.mk (Kd.S_grown HO_5.out hg (fun k_ hk e_ => (hk.2) (Option.some.inj e_))); replace HO_166000 := Aside0.mk (Kd.R_mono (Kd.R_grown (Kd.R_types HO_166000.out BK185.out (by decide)) hg (fun k_ hk e_ => hk.2 (Option.some.inj e_))) (fun k_ hk => hk.1)); replace HO183 := Aside0.mk (Kd.R_mono (Kd.R_grown (Kd.R_types HO183.out BK185.out (by decide)) hg (fun k_ hk e_ => hk.2 (Option.some.inj e_))) (fun k_ hk => hk.1)); replace BK165 := Aside0.mk (blk_grown BK165.out hg (nbi NB165_185)); replace BK167 := Aside0.mk (blk_grown BK167.out hg (nbi NB167_185)); replace BK168 := Aside0.mk (blk_grown BK168.out hg (nbi NB168_185)); replace HB := Aside0.mk (pw_below_grown HB.out (some gb185) (below_size HB.out) hg (fun k_ e_ => by cases e_; exact GE185.out)); replace BK185 := Aside0.mk (hbox); clear hbox hg; have hcz37_0 := tch5 BK165.out) | ((with_reducible refine gate_store (t := 3) (p := 58) rfl ?_); refine store_row (t := 3) (p := 58) (v := ?vo_w38) ?hgd ?ho ?hN gb165 4 #[.slice none 0 0, .bool false, .bool false, .bool true, .int .i64 x166004_1] [.int .i64 (wrap64 (x166004_1 + 1))] #[.slice none 0 0, .bool false, .bool false, .bool true, .int .i64 (wrap64 (x166004_1 + 1))] ?hx ?hy BK165.out szi3 (Nat.le_of_ble_eq_true rfl) ?h1 ?hnew ?_; (case ho | hgd | hN | hx => rfl); (case hy => first | rfl | (go_simp; done) | (go_simp; rfl)); (case h1 | hnew => rfl); intro w38 hbox hg; replace HO_5 := Aside0.mk (Kd.S_mono (Kd.S_grown (Kd.S_types HO_5.out BK165.out (by decide)) hg (fun k_ hk e_ => hk.2 (Option.some.inj e_))) (fun k_ hk => hk.1)); replace HO_166000 := Aside0.mk (Kd.R_mono (Kd.R_grown (Kd.R_types HO_166000.out BK165.out (by decide)) hg (fun k_ hk e_ => hk.2 (Option.some.inj e_))) (fun k_ hk => hk.1)); replace HO183 := Aside0.mk (Kd.R_mono (Kd.R_grown (Kd.R_types HO183.out BK165.out (by decide)) hg (fun k_ hk e_ => hk.2 (Option.some.inj e_))) (fun k_ hk => hk.1)); replace BK167 := Aside0.mk (blk_grown BK167.out hg (nbi NB167_165)); replace BK168 := Aside0.mk (blk_grown BK168.out hg (nbi NB168_165)); replace BK185 := Aside0.mk (blk_grown BK185.out hg (nbi NB185_165)); replace HB := Aside0.mk (pw_below_grown HB.out (some gb165) (below_size HB.out) hg (fun k_ e_ => by cases e_; exact GE165.out)); replace BK165 := Aside0.mk (hbox); clear hbox hg) | ((with_reducible refine gate_store (t := 40) (p := 2) rfl ?_); refine store_row (t := 40) (p := 2) (v := ?vo_w39) ?hgd ?ho ?hN gb168 0 #[.int .i64 0, .int .i64 0, .int .i64 0, .slice none 0 0] [.int .i64 0, .int .i64 0, .int .i64 0, .slice none 0 0] #[.int .i64 0, .int .i64 0, .int .i64 0, .slice none 0 0] ?hx ?hy BK168.out szi40 (Nat.le_of_ble_eq_true rfl) ?h1 ?hnew ?_; (case ho | hgd | hN | hx => rfl); (case hy => first | rfl | (go_simp; done) | (go_simp; rfl)); (case h1 | hnew => rfl); intro w39 hbox hg; replace HO_5 := Aside0.mk (Kd.S_grown HO_5.out hg (fun k_ hk e_ => (hk.1.1.2) (Option.some.inj e_))); replace HO_166000 := Aside0.mk (Kd.R_mono (Kd.R_grown (Kd.R_types HO_166000.out BK168.out (by decide)) hg (fun k_ hk e_ => hk.2 (Option.some.inj e_))) (fun k_ hk => hk.1)); replace HO183 := Aside0.mk (Kd.R_mono (Kd.R_grown (Kd.R_types HO183.out BK168.out (by decide)) hg (fun k_ hk e_ => hk.2 (Option.some.inj e_))) (fun k_ hk => hk.1)); replace BK165 := Aside0.mk (blk_grown BK165.out hg (nbi NB165_168)); replace BK167 := Aside0.mk (blk_grown BK167.out hg (nbi NB167_168)); replace BK185 := Aside0.mk (blk_grown BK185.out hg (nbi NB185_168)); replace HB := Aside0.mk (pw_below_grown HB.out (some gb168) (below_size HB.out) hg (fun k_ e_ => by cases e_; exact GE168.out)); replace BK168 := Aside0.mk (hbox); clear hbox hg))
         (try simp only [Exit.inBlock, Exit.then])
         refine bodyPost_ret (results_ct rfl _ _ gb168 40 #[.int .i64 0, .int .i64 0, .int .i64 0, .slice none 0 0] (0, 0) _ rfl BK168.out Try.underlying40 rfl (by kernel_rfl)) rfl ?_
         try go_wp2_with (first | ((with_reducible refine gate_store (t := 40) (p := 4) rfl ?_); refine store_row (t := 40) (p := 4) (v := ?vo_w40) ?hgd ?ho ?hN gb167 0 #[.int .i64 0, .int .i64 0, .int .i64 0, .slice none 0 0] [.int .i64 0, .int .i64 0, .int .i64 0, .slice none 0 0] #[.int .i64 0, .int .i64 0, .int .i64 0, .slice none 0 0] ?hx ?hy BK167.out szi40 (Nat.le_of_ble_eq_true rfl) ?h1 ?hnew ?_; (case ho | hgd | hN | hx => rfl); (case hy => first | rfl | (go_simp; done) | (go_simp; rfl)); (case h1 | hnew => rfl); intro w40 hbox hg; replace HO_5 := Aside0.mk (Kd.S_grown HO_5.out hg (fun k_ hk e_ => (hk.1.1.1.2) (Option.some.inj e_))); replace HO_166000 := Aside0.mk (Kd.R_mono (Kd.R_grown (Kd.R_types HO_166000.out BK167.out (by decide)) hg (fun k_ hk e_ => hk.2 (Option.some.inj e_))) (fun k_ hk => hk.1)); replace HO183 := Aside0.mk (Kd.R_mono (Kd.R_grown (Kd.R_types HO183.out BK167.out (by decide)) hg (fun k_ hk e_ => hk.2 (Option.some.inj e_))) (fun k_ hk => hk.1)); replace BK165 := Aside0.mk (blk_grown BK165.out hg (nbi NB165_167)); replace BK168 := Aside0.mk (blk_grown BK168.out hg (nbi NB168_167)); replace BK185 := Aside0.mk (blk_grown BK185.out hg (nbi NB185_167)); replace HB := Aside0.mk (pw_below_grown HB.out (some gb167) (below_size HB.out) hg (fun k_ e_ => by cases e_; exact GE167.out)); replace BK167 := Aside0.mk (hbox); clear hbox hg))
         (try simp only [Exit.inBlock, Exit.then])
         refine bodyPost_ret (results_ct rfl _ _ gb167 40 #[.int .i64 0, .int .i64 0, .int .i64 0, .slice none 0 0] (0, 0) _ rfl BK167.out Try.underlying40 rfl (by kernel_rfl)) rfl ?_
         try go_wp2_with (first | ((with_reducible refine gate_dst (N := 8) rfl ?_); refine box_event ?hg (N := 8) ?hd (cs := #[.int .i64 0, .int .i64 0, .int .i64 0, .slice none 0 0]) (t := 40) ?hr ?_; (case hd | hg => rfl); (case hr => first | (go_simp; done) | (go_simp; rfl)); intro gb186 hg w41 hbox hb; have n0_ := Aside0.mk (Kd.S_below (Kd.S_elderB (by (with_reducible repeat (first | apply Kd.S_alloc | apply Kd.S_drewN | apply Kd.S_drew)); exact HO_5.out) gb186 (Nat.le_of_eq hg.symm)) hb); have n1_ := Aside0.mk (Kd.R_below (by (with_reducible repeat (first | apply Kd.R_alloc | apply Kd.R_drewN | apply Kd.R_drew)); exact HO_166000.out) hb); have n2_ := Aside0.mk (Kd.R_below (by (with_reducible repeat (first | apply Kd.R_alloc | apply Kd.R_drewN | apply Kd.R_drew)); exact HO183.out) hb); have n3_ := Aside0.mk (blk_below BK165.out hb); have n4_ := Aside0.mk (blk_below BK167.out hb); have n5_ := Aside0.mk (blk_below BK168.out hb); have n6_ := Aside0.mk (blk_below BK185.out hb); have n7_ := Aside0.mk (below_step HB.out hb); have n8_ := Aside0.mk (hbox); have n9_ := Aside0.mk ((by rw [hg]; exact (below_size HB.out) : w.heap.size ≤ gb186)); have n10_ := Aside0.mk ((by rw [hg]; exact (below_size HB.out) : w.heap.size ≤ gb186)); have n11_ := Aside0.mk ((by rw [hg]; exact Nat.ne_of_lt (blk_lt BK165.out) : gb165 ≠ gb186)); have n12_ := Aside0.mk ((by rw [hg]; exact Nat.ne_of_lt (blk_lt BK167.out) : gb167 ≠ gb186)); have n13_ := Aside0.mk ((by rw [hg]; exact Nat.ne_of_lt (blk_lt BK168.out) : gb168 ≠ gb186)); have n14_ := Aside0.mk ((by rw [hg]; exact Nat.ne_of_lt (blk_lt BK185.out) : gb185 ≠ gb186)); clear HO_5; clear HO_166000; clear HO183; clear BK165; clear BK167; clear BK168; clear BK185; clear HB; have HO_5 := n0_; have HO_166000 := n1_; have HO183 := n2_; have BK165 := n3_; have BK167 := n4_; have BK168 := n5_; have BK185 := n6_; have HB := n7_; have BK186 := n8_; have GW186 := n9_; have GE186 := n10_; have NB165_186 := n11_; have NB167_186 := n12_; have NB168_186 := n13_; have NB185_186 := n14_; clear n0_ n1_ n2_ n3_ n4_ n5_ n6_ n7_ n8_ n9_ n10_ n11_ n12_ n13_ n14_; clear hb hbox hg) | ((with_reducible refine gate_store (t := 40) (p := 8) rfl ?_); refine store_row (t := 40) (p := 8) (v := ?vo_w42) ?hgd ?ho ?hN gb186 0 #[.int .i64 0, .int .i64 0, .int .i64 0, .slice none 0 0] [.int .i64 0, .int .i64 0, .int .i64 0, .slice none 0 0] #[.int .i64 0, .int .i64 0, .int .i64 0, .slice none 0 0] ?hx ?hy BK186.out szi40 (Nat.le_of_ble_eq_true rfl) ?h1 ?hnew ?_; (case ho | hgd | hN | hx => rfl); (case hy => first | rfl | (go_simp; done) | (go_simp; rfl)); (case h1 | hnew => rfl); intro w42 hbox hg; replace HO_5 := Aside0.mk (Kd.S_grown HO_5.out hg (fun k_ hk e_ => (hk.2) (Option.some.inj e_))); replace HO_166000 := Aside0.mk (Kd.R_mono (Kd.R_grown (Kd.R_types HO_166000.out BK186.out (by decide)) hg (fun k_ hk e_ => hk.2 (Option.some.inj e_))) (fun k_ hk => hk.1)); replace HO183 := Aside0.mk (Kd.R_mono (Kd.R_grown (Kd.R_types HO183.out BK186.out (by decide)) hg (fun k_ hk e_ => hk.2 (Option.some.inj e_))) (fun k_ hk => hk.1)); replace BK165 := Aside0.mk (blk_grown BK165.out hg (nbi NB165_186)); replace BK167 := Aside0.mk (blk_grown BK167.out hg (nbi NB167_186)); replace BK168 := Aside0.mk (blk_grown BK168.out hg (nbi NB168_186)); replace BK185 := Aside0.mk (blk_grown BK185.out hg (nbi NB185_186)); replace HB := Aside0.mk (pw_below_grown HB.out (some gb186) (below_size HB.out) hg (fun k_ e_ => by cases e_; exact GE186.out)); replace BK186 := Aside0.mk (hbox); clear hbox hg))
         go_roundg k1
         case measure => have := HK1.out; omega
         case rel => exact ⟨(x5_1), (wrap64 (x12_1 + 1)), (([] : List Int)), (false), (false), (true), (wrap64 (x166004_1 + 1)), (.slice none 0 0), (by first | rfl | (simp; done) | (simp [*]; done)), H', ⟨by have := HK1.out; omega⟩, ⟨by (with_reducible repeat (first | apply Kd.S_alloc | apply Kd.S_drewN | apply Kd.S_drew)); exact Kd.S_mono HO_5.out (fun _ hk => (by simp [Value.ownBlock]))⟩, ⟨by first | exact Kd.R_nil _ _ _ _ _ | exact Kd.N_nil _ _ _ _ _ | exact Kd.V_nil _ _ _ _ _ | exact Kd.Q_nil _ _ _ _ _ | exact Kd.S_nil _ _ _ _ _⟩, ⟨by exact BK165.out⟩, ⟨by exact HB.out⟩⟩
       ·replace c7 := Bool.eq_false_iff.mpr c7
        subst c7
        have H1 : (if (x166000_1.length : Int) = 0 then (if x166001_1 = true then ((bus_Parse.f k1 x166000_1).bind fun bt187 => (bus_Decode.l0 k1 x5_1 l0 (l0.length : Int) (wrap64 (x12_1 + 1)) ([] : List Int) false false true (wrap64 (x166004_1 + 1)))) else (bus_Decode.l0 k1 x5_1 l0 (l0.length : Int) (wrap64 (x12_1 + 1)) ([] : List Int) false false true x166004_1)) else ((bus_Parse.f k1 x166000_1).bind fun bt197 => (if x166001_1 = true then (bus_Decode.l0 k1 x5_1 l0 (l0.length : Int) (wrap64 (x12_1 + 1)) ([] : List Int) false false true (wrap64 (x166004_1 + 1))) else (if bt197.2.2.2.2 = 0 then (if x5_1.length < 2932031007402 then (bus_Decode.l0 k1 (x5_1 ++ [(⟨bt197.1, bt197.2.1, bt197.2.2.1, bt197.2.2.2.1⟩ : S40)]) l0 (l0.length : Int) (wrap64 (x12_1 + 1)) ([] : List Int) false false true x166004_1) else (none)) else (bus_Decode.l0 k1 x5_1 l0 (l0.length : Int) (wrap64 (x12_1 + 1)) ([] : List Int) false false true (wrap64 (x166004_1 + 1))))))) = some (r1, r2) := by rw [if_neg (show ¬ (false = true) by decide)] at H; exact H
        clear H
        have H := H1
        clear H1
        by_cases c43 : (x166000_1.length : Int) = 0
        ·rw [if_pos c43] at H
         have c43b0 : ((x166000_1.length : Int) == 0) = true := beq_iff_eq.mpr c43
         have c43b1 : ((x166000_1.length : Int) != 0) = false := bne_eq_false_iff_eq.mpr c43
         clear c43
         have HC44 := Aside0.mk H
         clear H
         have p166 : 0 ≤ (x12_1 : Int) := of_decide_eq_true (by first | (with_reducible assumption) | assumption)
         have q166 : x12_1 < (l0.length : Int) := of_decide_eq_true (by first | (with_reducible assumption) | assumption)
         obtain ⟨ad166, e166, hx166_0⟩ := Kd.at_int HR0.out x12_1 p166 q166
         cases e166
         replace hx166_0 := (HB.out.cell (World.block_lt_of_cell? w _ hx166_0)).trans hx166_0
         replace p166 := eq_true p166
         replace q166 := eq_true q166
         try go_wp2_with (first | (go_at_call 42; go_enter Try.func42, Try.ntmps42) | ((with_reducible refine gate_dst (N := 4) rfl ?_); refine box_event ?hg (N := 4) ?hd (cs := #[.int .i64 0, .int .i64 0, .int .i64 0, .slice none 0 0]) (t := 40) ?hr ?_; (case hd | hg => rfl); (case hr => first | (go_simp; done) | (go_simp; rfl)); intro gb167 hg w45 hbox hb; have n0_ := Aside0.mk (Kd.S_below (Kd.S_elderB (by (with_reducible repeat (first | apply Kd.S_alloc | apply Kd.S_drewN | apply Kd.S_drew)); exact HO_5.out) gb167 (Nat.le_of_eq hg.symm)) hb); have n1_ := Aside0.mk (Kd.R_below (by (with_reducible repeat (first | apply Kd.R_alloc | apply Kd.R_drewN | apply Kd.R_drew)); exact HO_166000.out) hb); have n2_ := Aside0.mk (blk_below BK165.out hb); have n3_ := Aside0.mk (below_step HB.out hb); have n4_ := Aside0.mk (hbox); have n5_ := Aside0.mk ((by rw [hg]; exact (below_size HB.out) : w.heap.size ≤ gb167)); have n6_ := Aside0.mk ((by rw [hg]; exact (below_size HB.out) : w.heap.size ≤ gb167)); have n7_ := Aside0.mk ((by rw [hg]; exact Nat.ne_of_lt (blk_lt BK165.out) : gb165 ≠ gb167)); have n8_ := Aside0.mk ((by rw [hg]; exact Nat.ne_of_gt (blk_lt BK165.out) : gb167 ≠ gb165)); clear HO_5; clear HO_166000; clear BK165; clear HB; have HO_5 := n0_; have HO_166000 := n1_; have BK165 := n2_; have HB := n3_; have BK167 := n4_; have GW167 := n5_; have GE167 := n6_; have NB165_167 := n7_; have NB167_165 := n8_; clear n0_ n1_ n2_ n3_ n4_ n5_ n6_ n7_ n8_; clear hb hbox hg) | (go_at_call 50; go_enter Try.func50, Try.ntmps50) | ((with_reducible refine gate_dst (N := 2) rfl ?_); refine box_event ?hg (N := 2) ?hd (cs := #[.int .i64 0, .int .i64 0, .int .i64 0, .slice none 0 0]) (t := 40) ?hr ?_; (case hd | hg => rfl); (case hr => first | (go_simp; done) | (go_simp; rfl)); intro gb168 hg w46 hbox hb; have n0_ := Aside0.mk (Kd.S_below (Kd.S_elderB (by (with_reducible repeat (first | apply Kd.S_alloc | apply Kd.S_drewN | apply Kd.S_drew)); exact HO_5.out) gb168 (Nat.le_of_eq hg.symm)) hb); have n1_ := Aside0.mk (Kd.R_below (by (with_reducible repeat (first | apply Kd.R_alloc | apply Kd.R_drewN | apply Kd.R_drew)); exact HO_166000.out) hb); have n2_ := Aside0.mk (blk_below BK165.out hb); have n3_ := Aside0.mk (blk_below BK167.out hb); have n4_ := Aside0.mk (below_step HB.out hb); have n5_ := Aside0.mk (hbox); have n6_ := Aside0.mk ((by rw [hg]; exact (below_size HB.out) : w.heap.size ≤ gb168)); have n7_ := Aside0.mk ((by rw [hg]; exact (below_size HB.out) : w.heap.size ≤ gb168)); have n8_ := Aside0.mk ((by rw [hg]; exact Nat.ne_of_lt (blk_lt BK165.out) : gb165 ≠ gb168)); have n9_ := Aside0.mk ((by rw [hg]; exact Nat.ne_of_gt (blk_lt BK165.out) : gb168 ≠ gb165)); have n10_ := Aside0.mk ((by rw [hg]; exact Nat.ne_of_lt (blk_lt BK167.out) : gb167 ≠ gb168)); have n11_ := Aside0.mk ((by rw [hg]; exact Nat.ne_of_gt (blk_lt BK167.out) : gb168 ≠ gb167)); clear HO_5; clear HO_166000; clear BK165; clear BK167; clear HB; have HO_5 := n0_; have HO_166000 := n1_; have BK165 := n2_; have BK167 := n3_; have HB := n4_; have BK168 := n5_; have GW168 := n6_; have GE168 := n7_; have NB165_168 := n8_; have NB168_165 := n9_; have NB167_168 := n10_; have NB168_167 := n11_; clear n0_ n1_ n2_ n3_ n4_ n5_ n6_ n7_ n8_ n9_ n10_ n11_; clear hb hbox hg))
         replace HO_5 := Aside0.mk (Kd.S_drew HO_5.out)
         replace HO_166000 := Aside0.mk (Kd.R_drew HO_166000.out)
         replace BK165 := Aside0.mk (blk_drew BK165.out)
         replace BK167 := Aside0.mk (blk_drew BK167.out)
         replace BK168 := Aside0.mk (blk_drew BK168.out)
         replace HB := Aside0.mk (below_drew1 HB.out)
         obtain ⟨Ao48, co48, eo48⟩ := Kd.R_slice HO_166000.out
         (first | subst eo48 | (injection eo48 with f1_ f2_ f3_; have f4_ := f1_.symm; have f5_ := f3_.symm; clear f1_ f2_ f3_; subst f4_; subst f5_))
         refine start_ (n := 23) (S := fun w' => w'.cell? ⟨gb165, 0, none⟩ = some (.slice Ao48 x166000_1.length co48) ∧ w'.cell? ⟨gb165, 1, none⟩ = some (.bool x166001_1) ∧ w'.cell? ⟨gb165, 2, none⟩ = some (.bool false) ∧ w'.cell? ⟨gb165, 3, none⟩ = some (.bool x166003_1) ∧ w'.cell? ⟨gb165, 4, none⟩ = some (.int .i64 x166004_1)) (ds := []) #[false, false, false, false, false, false, false, false, false, false, false, false, false, false, false, false, false, false, false, false, false, false, false] (by kernel_rfl) rfl rfl ⟨(blk_cell BK165.out 0).trans rfl, (blk_cell BK165.out 1).trans rfl, (blk_cell BK165.out 2).trans rfl, (blk_cell BK165.out 3).trans rfl, (blk_cell BK165.out 4).trans rfl⟩ (fun hHeld => ?_)
         generalize w46.drew = w47 at HO_5 HO_166000 BK165 BK167 BK168 HB hHeld ⊢
         refine pure_ (i := 0) (N := some 9) (v := ?_) (a' := ?_) #[true, false, false, false, false, false, false, false, false, false, false, false, false, false, false, false, false, false, false, false, false, false, false] rfl rfl (by kernel_rfl) (fun _ _ _ h => h) (Or.inl ⟨by rfl, ?_⟩) ?_ ?_
         rotate_left
         ·intro w'
          go_simp
          with_reducible rfl
         rotate_left
         ·simp only [Act.put, List.setIfInBounds_toArray, List.set_cons_zero, List.set_cons_succ, i64_w, i32_w]
          rfl
         refine pure_ (i := 1) (N := some 10) (v := ?_) (a' := ?_) #[true, true, false, false, false, false, false, false, false, false, false, false, false, false, false, false, false, false, false, false, false, false, false] rfl rfl (by kernel_rfl) (fun _ _ _ h => h) (Or.inl ⟨by rfl, ?_⟩) ?_ ?_
         rotate_left
         ·intro w'
          go_simp
          with_reducible rfl
         rotate_left
         ·simp only [Act.put, List.setIfInBounds_toArray, List.set_cons_zero, List.set_cons_succ, i64_w, i32_w]
          rfl
         refine pure_ (i := 2) (N := some 11) (v := ?_) (a' := ?_) #[true, true, true, false, false, false, false, false, false, false, false, false, false, false, false, false, false, false, false, false, false, false, false] rfl rfl (by kernel_rfl) (fun _ _ _ h => h) (Or.inl ⟨by rfl, ?_⟩) ?_ ?_
         rotate_left
         ·intro w'
          go_simp
          with_reducible rfl
         rotate_left
         ·simp only [Act.put, List.setIfInBounds_toArray, List.set_cons_zero, List.set_cons_succ, i64_w, i32_w]
          rfl
         refine pure_ (i := 4) (N := some 13) (v := ?_) (a' := ?_) #[true, true, true, false, true, false, false, false, false, false, false, false, false, false, false, false, false, false, false, false, false, false, false] rfl rfl (by kernel_rfl) (fun _ _ _ h => h) (Or.inl ⟨by rfl, ?_⟩) ?_ ?_
         rotate_left
         ·intro w'
          go_simp
          with_reducible rfl
         rotate_left
         ·simp only [Act.put, List.setIfInBounds_toArray, List.set_cons_zero, List.set_cons_succ, i64_w, i32_w]
          rfl
         refine pure_ (i := 5) (N := some 14) (v := ?_) (a' := ?_) #[true, true, true, false, true, true, false, false, false, false, false, false, false, false, false, false, false, false, false, false, false, false, false] rfl rfl (by kernel_rfl) (fun _ _ _ h => h) (Or.inl ⟨by rfl, ?_⟩) ?_ ?_
         rotate_left
         ·intro w'
          go_simp
          with_reducible rfl
         rotate_left
         ·simp only [Act.put, List.setIfInBounds_toArray, List.set_cons_zero, List.set_cons_succ, i64_w, i32_w]
          rfl
         refine pure_ (i := 6) (N := some 15) (v := ?_) (a' := ?_) #[true, true, true, false, true, true, true, false, false, false, false, false, false, false, false, false, false, false, false, false, false, false, false] rfl rfl (by kernel_rfl) (fun _ _ _ h => h) (Or.inl ⟨by rfl, ?_⟩) ?_ ?_
         rotate_left
         ·intro w'
          go_simp
          with_reducible rfl
         rotate_left
         ·simp only [Act.put, List.setIfInBounds_toArray, List.set_cons_zero, List.set_cons_succ, i64_w, i32_w]
          rfl
         refine pure_ (i := 14) (N := some 23) (v := ?_) (a' := ?_) #[true, true, true, false, true, true, true, false, false, false, false, false, false, false, true, false, false, false, false, false, false, false, false] rfl rfl (by kernel_rfl) (fun _ _ _ h => h) (Or.inl ⟨by rfl, ?_⟩) ?_ ?_
         rotate_left
         ·intro w'
          go_simp
          with_reducible rfl
         rotate_left
         ·simp only [Act.put, List.setIfInBounds_toArray, List.set_cons_zero, List.set_cons_succ, i64_w, i32_w]
          rfl
         refine pure_ (i := 15) (N := some 24) (v := ?_) (a' := ?_) #[true, true, true, false, true, true, true, false, false, false, false, false, false, false, true, true, false, false, false, false, false, false, false] rfl rfl (by kernel_rfl) (fun _ _ _ h => h) (Or.inl ⟨by rfl, ?_⟩) ?_ ?_
         rotate_left
         ·intro w'
          go_simp
          with_reducible rfl
         rotate_left
         ·simp only [Act.put, List.setIfInBounds_toArray, List.set_cons_zero, List.set_cons_succ, i64_w, i32_w]
          rfl
         refine pure_ (i := 16) (N := some 25) (v := ?_) (a' := ?_) #[true, true, true, false, true, true, true, false, false, false, false, false, false, false, true, true, true, false, false, false, false, false, false] rfl rfl (by kernel_rfl) (fun _ _ _ h => h) (Or.inl ⟨by rfl, ?_⟩) ?_ ?_
         rotate_left
         ·intro w'
          go_simp
          with_reducible rfl
         rotate_left
         ·simp only [Act.put, List.setIfInBounds_toArray, List.set_cons_zero, List.set_cons_succ, i64_w, i32_w]
          rfl
         refine take_ (i := 3) (N := some 12) (v := ?_) (a' := ?_) #[true, true, true, true, true, true, true, false, false, false, false, false, false, false, true, true, true, false, false, false, false, false, false] rfl rfl (by kernel_rfl) (fun _ _ _ h => h) (Or.inl ⟨by rfl, ?_⟩) hHeld ?_ ?_
         rotate_left
         ·rintro w' ⟨s0, s1, s2, s3, s4⟩
          go_simp
          with_reducible rfl
         rotate_left
         ·simp only [Act.put, List.setIfInBounds_toArray, List.set_cons_zero, List.set_cons_succ, i64_w, i32_w]
          rfl
         refine take_ (i := 7) (N := some 16) (v := ?_) (a' := ?_) #[true, true, true, true, true, true, true, true, false, false, false, false, false, false, true, true, true, false, false, false, false, false, false] rfl rfl (by kernel_rfl) (fun _ _ _ h => h) (Or.inl ⟨by rfl, ?_⟩) hHeld ?_ ?_
         rotate_left
         ·rintro w' ⟨s0, s1, s2, s3, s4⟩
          go_simp
          with_reducible rfl
         rotate_left
         ·simp only [Act.put, List.setIfInBounds_toArray, List.set_cons_zero, List.set_cons_succ, i64_w, i32_w]
          rfl
         refine pure_ (i := 8) (N := some 17) (v := ?_) (a' := ?_) #[true, true, true, true, true, true, true, true, true, false, false, false, false, false, true, true, true, false, false, false, false, false, false] rfl rfl (by kernel_rfl) (fun _ _ _ h => h) (Or.inl ⟨by rfl, ?_⟩) ?_ ?_
         rotate_left
         ·intro w'
          go_simp
          with_reducible rfl
         rotate_left
         ·simp only [Act.put, List.setIfInBounds_toArray, List.set_cons_zero, List.set_cons_succ, i64_w, i32_w]
          rfl
         refine pure_ (i := 9) (N := some 18) (v := ?_) (a' := ?_) #[true, true, true, true, true, true, true, true, true, true, false, false, false, false, true, true, true, false, false, false, false, false, false] rfl rfl (by kernel_rfl) (fun _ _ _ h => h) (Or.inl ⟨by rfl, ?_⟩) ?_ ?_
         rotate_left
         ·intro w'
          go_simp
          with_reducible rfl
         rotate_left
         ·simp only [Act.put, List.setIfInBounds_toArray, List.set_cons_zero, List.set_cons_succ, i64_w, i32_w]
          rfl
         refine pure_ (i := 10) (N := some 19) (v := ?_) (a' := ?_) #[true, true, true, true, true, true, true, true, true, true, true, false, false, false, true, true, true, false, false, false, false, false, false] rfl rfl (by kernel_rfl) (fun _ _ _ h => h) (Or.inl ⟨by rfl, ?_⟩) ?_ ?_
         rotate_left
         ·intro w'
          go_simp
          with_reducible rfl
         rotate_left
         ·simp only [Act.put, List.setIfInBounds_toArray, List.set_cons_zero, List.set_cons_succ, i64_w, i32_w]
          rfl
         refine pure_ (i := 11) (N := some 20) (v := ?_) (a' := ?_) #[true, true, true, true, true, true, true, true, true, true, true, true, false, false, true, true, true, false, false, false, false, false, false] rfl rfl (by kernel_rfl) (fun _ _ _ h => h) (Or.inl ⟨by rfl, ?_⟩) ?_ ?_
         rotate_left
         ·intro w'
          go_simp
          with_reducible rfl
         rotate_left
         ·simp only [Act.put, List.setIfInBounds_toArray, List.set_cons_zero, List.set_cons_succ, i64_w, i32_w]
          rfl
         refine pure_ (i := 20) (N := some 4) (v := ?_) (a' := ?_) #[true, true, true, true, true, true, true, true, true, true, true, true, false, false, true, true, true, false, false, false, true, false, false] rfl rfl (by kernel_rfl) (fun _ _ _ h => h) (Or.inl ⟨by rfl, ?_⟩) ?_ ?_
         rotate_left
         ·intro w'
          go_simp
          with_reducible rfl
         rotate_left
         ·simp only [Act.put, List.setIfInBounds_toArray, List.set_cons_zero, List.set_cons_succ, i64_w, i32_w]
          rfl
         refine take_ (i := 12) (N := some 21) (v := ?_) (a' := ?_) #[true, true, true, true, true, true, true, true, true, true, true, true, true, false, true, true, true, false, false, false, true, false, false] rfl rfl (by kernel_rfl) (fun _ _ _ h => h) (Or.inl ⟨by rfl, ?_⟩) hHeld ?_ ?_
         rotate_left
         ·rintro w' ⟨s0, s1, s2, s3, s4⟩
          go_simp
          with_reducible rfl
         rotate_left
         ·simp only [Act.put, List.setIfInBounds_toArray, List.set_cons_zero, List.set_cons_succ, i64_w, i32_w]
          rfl
         refine pure_ (i := 13) (N := some 22) (v := ?_) (a' := ?_) #[true, true, true, true, true, true, true, true, true, true, true, true, true, true, true, true, true, false, false, false, true, false, false] rfl rfl (by kernel_rfl) (fun _ _ _ h => h) (Or.inl ⟨by rfl, ?_⟩) ?_ ?_
         rotate_left
         ·intro w'
          go_simp
          with_reducible rfl
         rotate_left
         ·simp only [Act.put, List.setIfInBounds_toArray, List.set_cons_zero, List.set_cons_succ, i64_w, i32_w]
          rfl
         refine pure_ (i := 21) (N := some 5) (v := ?_) (a' := ?_) #[true, true, true, true, true, true, true, true, true, true, true, true, true, true, true, true, true, false, false, false, true, true, false] rfl rfl (by kernel_rfl) (fun _ _ _ h => h) (Or.inl ⟨by rfl, ?_⟩) ?_ ?_
         rotate_left
         ·intro w'
          go_simp
          with_reducible rfl
         rotate_left
         ·simp only [Act.put, List.setIfInBounds_toArray, List.set_cons_zero, List.set_cons_succ, i64_w, i32_w]
          rfl
         refine take_ (i := 17) (N := some 26) (v := ?_) (a' := ?_) #[true, true, true, true, true, true, true, true, true, true, true, true, true, true, true, true, true, true, false, false, true, true, false] rfl rfl (by kernel_rfl) (fun _ _ _ h => h) (Or.inl ⟨by rfl, ?_⟩) hHeld ?_ ?_
         rotate_left
         ·rintro w' ⟨s0, s1, s2, s3, s4⟩
          go_simp
          with_reducible rfl
         rotate_left
         ·simp only [Act.put, List.setIfInBounds_toArray, List.set_cons_zero, List.set_cons_succ, i64_w, i32_w]
          rfl
         refine pure_ (i := 18) (N := some 27) (v := ?_) (a' := ?_) #[true, true, true, true, true, true, true, true, true, true, true, true, true, true, true, true, true, true, true, false, true, true, false] rfl rfl (by kernel_rfl) (fun _ _ _ h => h) (Or.inl ⟨by rfl, ?_⟩) ?_ ?_
         rotate_left
         ·intro w'
          go_simp
          with_reducible rfl
         rotate_left
         ·simp only [Act.put, List.setIfInBounds_toArray, List.set_cons_zero, List.set_cons_succ, i64_w, i32_w]
          rfl
         refine pure_ (i := 19) (N := some 28) (v := ?_) (a' := ?_) #[true, true, true, true, true, true, true, true, true, true, true, true, true, true, true, true, true, true, true, true, true, true, false] rfl rfl (by kernel_rfl) (fun _ _ _ h => h) (Or.inl ⟨by rfl, ?_⟩) ?_ ?_
         rotate_left
         ·intro w'
          go_simp
          with_reducible rfl
         rotate_left
         ·simp only [Act.put, List.setIfInBounds_toArray, List.set_cons_zero, List.set_cons_succ, i64_w, i32_w]
          rfl
         refine pure_ (i := 22) (N := some 6) (v := ?_) (a' := ?_) #[true, true, true, true, true, true, true, true, true, true, true, true, true, true, true, true, true, true, true, true, true, true, true] rfl rfl (by kernel_rfl) (fun _ _ _ h => h) (Or.inl ⟨by rfl, ?_⟩) ?_ ?_
         rotate_left
         ·intro w'
          go_simp
          with_reducible rfl
         rotate_left
         ·simp only [Act.put, List.setIfInBounds_toArray, List.set_cons_zero, List.set_cons_succ, i64_w, i32_w]
          rfl
         refine done_ (by kernel_rfl) ?_
         have hcz49_0 := tch5 BK165.out
         go_upto_if 40 with (first | ((with_reducible refine gate_store (t := 78) (p := 35) rfl ?_); refine store_row (t := 78) (p := 35) (v := ?vo_w50) ?hgd ?ho ?hN gb165 0 #[.slice Ao48 x166000_1.length co48, .bool x166001_1, .bool false, .bool x166003_1, .int .i64 x166004_1] [.slice none 0 0, .bool false, .bool false, .bool true, .int .i64 x166004_1] #[.slice none 0 0, .bool false, .bool false, .bool true, .int .i64 x166004_1] ?hx ?hy BK165.out szi78 (Nat.le_of_ble_eq_true rfl) ?h1 ?hnew ?_; (case ho | hgd | hN | hx => rfl); (case hy => first | rfl | (go_simp; done) | (go_simp; rfl)); (case h1 | hnew => rfl); intro w50 hbox hg; replace HO_5 := Aside0.mk (Kd.S_mono (Kd.S_grown (Kd.S_types HO_5.out BK165.out (by decide)) hg (fun k_ hk e_ => hk.2 (Option.some.inj e_))) (fun k_ hk => hk.1)); replace HO_166000 := Aside0.mk (Kd.R_mono (Kd.R_grown (Kd.R_types HO_166000.out BK165.out (by decide)) hg (fun k_ hk e_ => hk.2 (Option.some.inj e_))) (fun k_ hk => hk.1)); replace BK167 := Aside0.mk (blk_grown BK167.out hg (nbi NB167_165)); replace BK168 := Aside0.mk (blk_grown BK168.out hg (nbi NB168_165)); replace HB := Aside0.mk (pw_below_grown HB.out (some gb165) (below_size HB.out) hg (fun k_ e_ => by cases e_; exact GE165.out)); replace BK165 := Aside0.mk (hbox); clear hbox hg))
         have H := HC44.out
         clear HC44
         by_cases c51 : x166001_1 = true
         ·subst c51
          have H1 : ((bus_Parse.f k1 x166000_1).bind fun bt187 => (bus_Decode.l0 k1 x5_1 l0 (l0.length : Int) (wrap64 (x12_1 + 1)) ([] : List Int) false false true (wrap64 (x166004_1 + 1)))) = some (r1, r2) := by rw [if_pos rfl] at H; exact H
          clear H
          have H := H1
          clear H1
          replace H := Option.bind_eq_some_iff.mp H
          obtain ⟨⟨t187, t188, t189, t190, t193⟩, A520, H⟩ := H
          replace H : (bus_Decode.l0 k1 x5_1 l0 (l0.length : Int) (wrap64 (x12_1 + 1)) ([] : List Int) false false true (wrap64 (x166004_1 + 1))) = some (r1, r2) := H
          have A52 := Aside0.mk A520
          clear A520
          have H' := Aside0.mk H
          clear H
          try go_wp2_with (first | ((with_reducible refine gate_callee (f := 58) rfl ?_); refine goesL_ (some 44) rfl rfl Try.func58 (by kernel_rfl) rfl #[.slice Ao48 x166000_1.length co48] rfl (by (try simp only [List.map_toArray, List.map_cons, List.map_nil]); first | done | rfl | (simp only [List.length_drop, List.length_take]; rfl)) ?_; (with_reducible refine (bus_Parse.calls k1 _ _ x166000_1 t187 t188 t189 t190 t193 _ ?side1 ?side2 A52.out).mono ?_); (case side1 => repeat (first | exact (Kd.R_reads' HO_166000.out).2.2 | (with_reducible refine Kd.C_alloc ?_ _) | (with_reducible refine Kd.C_drewN ?_ _) | (with_reducible refine Kd.C_drew ?_))); (case side2 => exact (Kd.R_reads' HO_166000.out).2.1); rintro e w53 ⟨v191, rfl, ho0, hb⟩; refine ⟨_, rfl, ?_⟩; have n0_ := Aside0.mk (Kd.S_elder' (by (with_reducible repeat (first | apply Kd.S_alloc | apply Kd.S_drewN | apply Kd.S_drew)); exact HO_5.out) (Kd.R_base ho0) hb); have n1_ := Aside0.mk (Kd.R_elder' (by (with_reducible repeat (first | apply Kd.R_alloc | apply Kd.R_drewN | apply Kd.R_drew)); exact HO_166000.out) (Kd.R_base ho0) hb); have n2_ := Aside0.mk (Kd.R_lower (Kd.R_new' ho0 (Kd.R_lt (by (with_reducible repeat (first | apply Kd.R_alloc | apply Kd.R_drewN | apply Kd.R_drew)); exact HO_166000.out))) (below_size HB.out)); have n3_ := Aside0.mk (blk_below BK165.out hb); have n4_ := Aside0.mk (blk_below BK167.out hb); have n5_ := Aside0.mk (blk_below BK168.out hb); have n6_ := Aside0.mk (below_step HB.out hb); clear HO_5; clear HO_166000; clear BK165; clear BK167; clear BK168; clear HB; have HO_5 := n0_; have HO_166000 := n1_; have HO192 := n2_; have BK165 := n3_; have BK167 := n4_; have BK168 := n5_; have HB := n6_; clear n0_ n1_ n2_ n3_ n4_ n5_ n6_; (try clear hb); (try clear hb2); (try clear hk); (try clear hi); (try clear ho0)) | ((with_reducible refine gate_dst (N := 7) rfl ?_); refine box_event ?hg (N := 7) ?hd (cs := #[.int .i64 0, .int .i64 0, .int .i64 0, .slice none 0 0]) (t := 40) ?hr ?_; (case hd | hg => rfl); (case hr => first | (go_simp; done) | (go_simp; rfl)); intro gb194 hg w54 hbox hb; have n0_ := Aside0.mk (Kd.S_below (Kd.S_elderB (by (with_reducible repeat (first | apply Kd.S_alloc | apply Kd.S_drewN | apply Kd.S_drew)); exact HO_5.out) gb194 (Nat.le_of_eq hg.symm)) hb); have n1_ := Aside0.mk (Kd.R_below (by (with_reducible repeat (first | apply Kd.R_alloc | apply Kd.R_drewN | apply Kd.R_drew)); exact HO_166000.out) hb); have n2_ := Aside0.mk (Kd.R_below (by (with_reducible repeat (first | apply Kd.R_alloc | apply Kd.R_drewN | apply Kd.R_drew)); exact HO192.out) hb); have n3_ := Aside0.mk (blk_below BK165.out hb); have n4_ := Aside0.mk (blk_below BK167.out hb); have n5_ := Aside0.mk (blk_below BK168.out hb); have n6_ := Aside0.mk (below_step HB.out hb); have n7_ := Aside0.mk (hbox); have n8_ := Aside0.mk ((by rw [hg]; exact (below_size HB.out) : w.heap.size ≤ gb194)); have n9_ := Aside0.mk ((by rw [hg]; exact (below_size HB.out) : w.heap.size ≤ gb194)); have n10_ := Aside0.mk ((by rw [hg]; exact Nat.ne_of_lt (blk_lt BK165.out) : gb165 ≠ gb194)); have n11_ := Aside0.mk ((by rw [hg]; exact Nat.ne_of_gt (blk_lt BK165.out) : gb194 ≠ gb165)); have n12_ := Aside0.mk ((by rw [hg]; exact Nat.ne_of_lt (blk_lt BK167.out) : gb167 ≠ gb194)); have n13_ := Aside0.mk ((by rw [hg]; exact Nat.ne_of_gt (blk_lt BK167.out) : gb194 ≠ gb167)); have n14_ := Aside0.mk ((by rw [hg]; exact Nat.ne_of_lt (blk_lt BK168.out) : gb168 ≠ gb194)); have n15_ := Aside0.mk ((by rw [hg]; exact Nat.ne_of_gt (blk_lt BK168.out) : gb194 ≠ gb168)); clear HO_5; clear HO_166000; clear HO192; clear BK165; clear BK167; clear BK168; clear HB; have HO_5 := n0_; have HO_166000 := n1_; have HO192 := n2_; have BK165 := n3_; have BK167 := n4_; have BK168 := n5_; have HB := n6_; have BK194 := n7_; have GW194 := n8_; have GE194 := n9_; have NB165_194 := n10_; have NB194_165 := n11_; have NB167_194 := n12_; have NB194_167 := n13_; have NB168_194 := n14_; have NB194_168 := n15_; clear n0_ n1_ n2_ n3_ n4_ n5_ n6_ n7_ n8_ n9_ n10_ n11_ n12_ n13_ n14_ n15_; clear hb hbox hg; obtain ⟨Ao55, co55, eo55⟩ := Kd.R_slice HO192.out; subst eo55) | ((with_reducible refine gate_store (t := 40) (p := 7) rfl ?_); refine store_row (t := 40) (p := 7) (v := ?vo_w56) ?hgd ?ho ?hN gb194 0 #[.int .i64 0, .int .i64 0, .int .i64 0, .slice none 0 0] [.int .i64 t187, .int .i64 t188, .int .i64 t189, .slice Ao55 t190.length co55] #[.int .i64 t187, .int .i64 t188, .int .i64 t189, .slice Ao55 t190.length co55] ?hx ?hy BK194.out szi40 (Nat.le_of_ble_eq_true rfl) ?h1 ?hnew ?_; (case ho | hgd | hN | hx => rfl); (case hy => first | rfl | (go_simp; done) | (go_simp; rfl)); (case h1 | hnew => rfl); intro w56 hbox hg; replace HO_5 := Aside0.mk (Kd.S_grown HO_5.out hg (fun k_ hk e_ => (hk.2) (Option.some.inj e_))); replace HO_166000 := Aside0.mk (Kd.R_mono (Kd.R_grown (Kd.R_types HO_166000.out BK194.out (by decide)) hg (fun k_ hk e_ => hk.2 (Option.some.inj e_))) (fun k_ hk => hk.1)); replace HO192 := Aside0.mk (Kd.R_mono (Kd.R_grown (Kd.R_types HO192.out BK194.out (by decide)) hg (fun k_ hk e_ => hk.2 (Option.some.inj e_))) (fun k_ hk => hk.1)); replace BK165 := Aside0.mk (blk_grown BK165.out hg (nbi NB165_194)); replace BK167 := Aside0.mk (blk_grown BK167.out hg (nbi NB167_194)); replace BK168 := Aside0.mk (blk_grown BK168.out hg (nbi NB168_194)); replace HB := Aside0.mk (pw_below_grown HB.out (some gb194) (below_size HB.out) hg (fun k_ e_ => by cases e_; exact GE194.out)); replace BK194 := Aside0.mk (hbox); clear hbox hg; have hcz57_0 := tch5 BK165.out) | ((with_reducible refine gate_store (t := 3) (p := 58) rfl ?_); refine store_row (t := 3) (p := 58) (v := ?vo_w58) ?hgd ?ho ?hN gb165 4 #[.slice none 0 0, .bool false, .bool false, .bool true, .int .i64 x166004_1] [.int .i64 (wrap64 (x166004_1 + 1))] #[.slice none 0 0, .bool false, .bool false, .bool true, .int .i64 (wrap64 (x166004_1 + 1))] ?hx ?hy BK165.out szi3 (Nat.le_of_ble_eq_true rfl) ?h1 ?hnew ?_; (case ho | hgd | hN | hx => rfl); (case hy => first | rfl | (go_simp; done) | (go_simp; rfl)); (case h1 | hnew => rfl); intro w58 hbox hg; replace HO_5 := Aside0.mk (Kd.S_mono (Kd.S_grown (Kd.S_types HO_5.out BK165.out (by decide)) hg (fun k_ hk e_ => hk.2 (Option.some.inj e_))) (fun k_ hk => hk.1)); replace HO_166000 := Aside0.mk (Kd.R_mono (Kd.R_grown (Kd.R_types HO_166000.out BK165.out (by decide)) hg (fun k_ hk e_ => hk.2 (Option.some.inj e_))) (fun k_ hk => hk.1)); replace HO192 := Aside0.mk (Kd.R_mono (Kd.R_grown (Kd.R_types HO192.out BK165.out (by decide)) hg (fun k_ hk e_ => hk.2 (Option.some.inj e_))) (fun k_ hk => hk.1)); replace BK167 := Aside0.mk (blk_grown BK167.out hg (nbi NB167_165)); replace BK168 := Aside0.mk (blk_grown BK168.out hg (nbi NB168_165)); replace BK194 := Aside0.mk (blk_grown BK194.out hg (nbi NB194_165)); replace HB := Aside0.mk (pw_below_grown HB.out (some gb165) (below_size HB.out) hg (fun k_ e_ => by cases e_; exact GE165.out)); replace BK165 := Aside0.mk (hbox); clear hbox hg) | ((with_reducible refine gate_store (t := 40) (p := 2) rfl ?_); refine store_row (t := 40) (p := 2) (v := ?vo_w59) ?hgd ?ho ?hN gb168 0 #[.int .i64 0, .int .i64 0, .int .i64 0, .slice none 0 0] [.int .i64 0, .int .i64 0, .int .i64 0, .slice none 0 0] #[.int .i64 0, .int .i64 0, .int .i64 0, .slice none 0 0] ?hx ?hy BK168.out szi40 (Nat.le_of_ble_eq_true rfl) ?h1 ?hnew ?_; (case ho | hgd | hN | hx => rfl); (case hy => first | rfl | (go_simp; done) | (go_simp; rfl)); (case h1 | hnew => rfl); intro w59 hbox hg; replace HO_5 := Aside0.mk (Kd.S_grown HO_5.out hg (fun k_ hk e_ => (hk.1.1.2) (Option.some.inj e_))); replace HO_166000 := Aside0.mk (Kd.R_mono (Kd.R_grown (Kd.R_types HO_166000.out BK168.out (by decide)) hg (fun k_ hk e_ => hk.2 (Option.some.inj e_))) (fun k_ hk => hk.1)); replace HO192 := Aside0.mk (Kd.R_mono (Kd.R_grown (Kd.R_types HO192.out BK168.out (by decide)) hg (fun k_ hk e_ => hk.2 (Option.some.inj e_))) (fun k_ hk => hk.1)); replace BK165 := Aside0.mk (blk_grown BK165.out hg (nbi NB165_168)); replace BK167 := Aside0.mk (blk_grown BK167.out hg (nbi NB167_168)); replace BK194 := Aside0.mk (blk_grown BK194.out hg (nbi NB194_168)); replace HB := Aside0.mk (pw_below_grown HB.out (some gb168) (below_size HB.out) hg (fun k_ e_ => by cases e_; exact GE168.out)); replace BK168 := Aside0.mk (hbox); clear hbox hg))
          (try simp only [Exit.inBlock, Exit.then])
          refine bodyPost_ret (results_ct rfl _ _ gb168 40 #[.int .i64 0, .int .i64 0, .int .i64 0, .slice none 0 0] (0, 0) _ rfl BK168.out Try.underlying40 rfl (by kernel_rfl)) rfl ?_
          try go_wp2_with (first | ((with_reducible refine gate_store (t := 40) (p := 4) rfl ?_); refine store_row (t := 40) (p := 4) (v := ?vo_w60) ?hgd ?ho ?hN gb167 0 #[.int .i64 0, .int .i64 0, .int .i64 0, .slice none 0 0] [.int .i64 0, .int .i64 0, .int .i64 0, .slice none 0 0] #[.int .i64 0, .int .i64 0, .int .i64 0, .slice none 0 0] ?hx ?hy BK167.out szi40 (Nat.le_of_ble_eq_true rfl) ?h1 ?hnew ?_; (case ho | hgd | hN | hx => rfl); (case hy => first | rfl | (go_simp; done) | (go_simp; rfl)); (case h1 | hnew => rfl); intro w60 hbox hg; replace HO_5 := Aside0.mk (Kd.S_grown HO_5.out hg (fun k_ hk e_ => (hk.1.1.1.2) (Option.some.inj e_))); replace HO_166000 := Aside0.mk (Kd.R_mono (Kd.R_grown (Kd.R_types HO_166000.out BK167.out (by decide)) hg (fun k_ hk e_ => hk.2 (Option.some.inj e_))) (fun k_ hk => hk.1)); replace HO192 := Aside0.mk (Kd.R_mono (Kd.R_grown (Kd.R_types HO192.out BK167.out (by decide)) hg (fun k_ hk e_ => hk.2 (Option.some.inj e_))) (fun k_ hk => hk.1)); replace BK165 := Aside0.mk (blk_grown BK165.out hg (nbi NB165_167)); replace BK168 := Aside0.mk (blk_grown BK168.out hg (nbi NB168_167)); replace BK194 := Aside0.mk (blk_grown BK194.out hg (nbi NB194_167)); replace HB := Aside0.mk (pw_below_grown HB.out (some gb167) (below_size HB.out) hg (fun k_ e_ => by cases e_; exact GE167.out)); replace BK167 := Aside0.mk (hbox); clear hbox hg))
          (try simp only [Exit.inBlock, Exit.then])
          refine bodyPost_ret (results_ct rfl _ _ gb167 40 #[.int .i64 0, .int .i64 0, .int .i64 0, .slice none 0 0] (0, 0) _ rfl BK167.out Try.underlying40 rfl (by kernel_rfl)) rfl ?_
          try go_wp2_with (first | ((with_reducible refine gate_dst (N := 8) rfl ?_); refine box_event ?hg (N := 8) ?hd (cs := #[.int .i64 0, .int .i64 0, .int .i64 0, .slice none 0 0]) (t := 40) ?hr ?_; (case hd | hg => rfl); (case hr => first | (go_simp; done) | (go_simp; rfl)); intro gb195 hg w61 hbox hb; have n0_ := Aside0.mk (Kd.S_below (Kd.S_elderB (by (with_reducible repeat (first | apply Kd.S_alloc | apply Kd.S_drewN | apply Kd.S_drew)); exact HO_5.out) gb195 (Nat.le_of_eq hg.symm)) hb); have n1_ := Aside0.mk (Kd.R_below (by (with_reducible repeat (first | apply Kd.R_alloc | apply Kd.R_drewN | apply Kd.R_drew)); exact HO_166000.out) hb); have n2_ := Aside0.mk (Kd.R_below (by (with_reducible repeat (first | apply Kd.R_alloc | apply Kd.R_drewN | apply Kd.R_drew)); exact HO192.out) hb); have n3_ := Aside0.mk (blk_below BK165.out hb); have n4_ := Aside0.mk (blk_below BK167.out hb); have n5_ := Aside0.mk (blk_below BK168.out hb); have n6_ := Aside0.mk (blk_below BK194.out hb); have n7_ := Aside0.mk (below_step HB.out hb); have n8_ := Aside0.mk (hbox); have n9_ := Aside0.mk ((by rw [hg]; exact (below_size HB.out) : w.heap.size ≤ gb195)); have n10_ := Aside0.mk ((by rw [hg]; exact (below_size HB.out) : w.heap.size ≤ gb195)); have n11_ := Aside0.mk ((by rw [hg]; exact Nat.ne_of_lt (blk_lt BK165.out) : gb165 ≠ gb195)); have n12_ := Aside0.mk ((by rw [hg]; exact Nat.ne_of_lt (blk_lt BK167.out) : gb167 ≠ gb195)); have n13_ := Aside0.mk ((by rw [hg]; exact Nat.ne_of_lt (blk_lt BK168.out) : gb168 ≠ gb195)); have n14_ := Aside0.mk ((by rw [hg]; exact Nat.ne_of_lt (blk_lt BK194.out) : gb194 ≠ gb195)); clear HO_5; clear HO_166000; clear HO192; clear BK165; clear BK167; clear BK168; clear BK194; clear HB; have HO_5 := n0_; have HO_166000 := n1_; have HO192 := n2_; have BK165 := n3_; have BK167 := n4_; have BK168 := n5_; have BK194 := n6_; have HB := n7_; have BK195 := n8_; have GW195 := n9_; have GE195 := n10_; have NB165_195 := n11_; have NB167_195 := n12_; have NB168_195 := n13_; have NB194_195 := n14_; clear n0_ n1_ n2_ n3_ n4_ n5_ n6_ n7_ n8_ n9_ n10_ n11_ n12_ n13_ n14_; clear hb hbox hg) | ((with_reducible refine gate_store (t := 40) (p := 8) rfl ?_); refine store_row (t := 40) (p := 8) (v := ?vo_w62) ?hgd ?ho ?hN gb195 0 #[.int .i64 0, .int .i64 0, .int .i64 0, .slice none 0 0] [.int .i64 0, .int .i64 0, .int .i64 0, .slice none 0 0] #[.int .i64 0, .int .i64 0, .int .i64 0, .slice none 0 0] ?hx ?hy BK195.out szi40 (Nat.le_of_ble_eq_true rfl) ?h1 ?hnew ?_; (case ho | hgd | hN | hx => rfl); (case hy => first | rfl | (go_simp; done) | (go_simp; rfl)); (case h1 | hnew => rfl); intro w62 hbox hg; replace HO_5 := Aside0.mk (Kd.S_grown HO_5.out hg (fun k_ hk e_ => (hk.2) (Option.some.inj e_))); replace HO_166000 := Aside0.mk (Kd.R_mono (Kd.R_grown (Kd.R_types HO_166000.out BK195.out (by decide)) hg (fun k_ hk e_ => hk.2 (Option.some.inj e_))) (fun k_ hk => hk.1)); replace HO192 := Aside0.mk (Kd.R_mono (Kd.R_grown (Kd.R_types HO192.out BK195.out (by decide)) hg (fun k_ hk e_ => hk.2 (Option.some.inj e_))) (fun k_ hk => hk.1)); replace BK165 := Aside0.mk (blk_grown BK165.out hg (nbi NB165_195)); replace BK167 := Aside0.mk (blk_grown BK167.out hg (nbi NB167_195)); replace BK168 := Aside0.mk (blk_grown BK168.out hg (nbi NB168_195)); replace BK194 := Aside0.mk (blk_grown BK194.out hg (nbi NB194_195)); replace HB := Aside0.mk (pw_below_grown HB.out (some gb195) (below_size HB.out) hg (fun k_ e_ => by cases e_; exact GE195.out)); replace BK195 := Aside0.mk (hbox); clear hbox hg))
          go_roundg k1
          case measure => have := HK1.out; omega
          case rel => exact ⟨(x5_1), (wrap64 (x12_1 + 1)), (([] : List Int)), (false), (false), (true), (wrap64 (x166004_1 + 1)), (.slice none 0 0), (by first | rfl | (simp; done) | (simp [*]; done)), H', ⟨by have := HK1.out; omega⟩, ⟨by (with_reducible repeat (first | apply Kd.S_alloc | apply Kd.S_drewN | apply Kd.S_drew)); exact Kd.S_mono HO_5.out (fun _ hk => (by simp [Value.ownBlock]))⟩, ⟨by first | exact Kd.R_nil _ _ _ _ _ | exact Kd.N_nil _ _ _ _ _ | exact Kd.V_nil _ _ _ _ _ | exact Kd.Q_nil _ _ _ _ _ | exact Kd.S_nil _ _ _ _ _⟩, ⟨by exact BK165.out⟩, ⟨by exact HB.out⟩⟩
         ·replace c51 := Bool.eq_false_iff.mpr c51
          subst c51
          have H1 : (bus_Decode.l0 k1 x5_1 l0 (l0.length : Int) (wrap64 (x12_1 + 1)) ([] : List Int) false false true x166004_1) = some (r1, r2) := by rw [if_neg (show ¬ (false = true) by decide)] at H; exact H
          clear H
          have H := H1
          clear H1
          have H' := Aside0.mk H
          clear H
          try go_wp2_with (first | ((with_reducible refine gate_store (t := 40) (p := 2) rfl ?_); refine store_row (t := 40) (p := 2) (v := ?vo_w63) ?hgd ?ho ?hN gb168 0 #[.int .i64 0, .int .i64 0, .int .i64 0, .slice none 0 0] [.int .i64 0, .int .i64 0, .int .i64 0, .slice none 0 0] #[.int .i64 0, .int .i64 0, .int .i64 0, .slice none 0 0] ?hx ?hy BK168.out szi40 (Nat.le_of_ble_eq_true rfl) ?h1 ?hnew ?_; (case ho | hgd | hN | hx => rfl); (case hy => first | rfl | (go_simp; done) | (go_simp; rfl)); (case h1 | hnew => rfl); intro w63 hbox hg; replace HO_5 := Aside0.mk (Kd.S_grown HO_5.out hg (fun k_ hk e_ => (hk.2) (Option.some.inj e_))); replace HO_166000 := Aside0.mk (Kd.R_mono (Kd.R_grown (Kd.R_types HO_166000.out BK168.out (by decide)) hg (fun k_ hk e_ => hk.2 (Option.some.inj e_))) (fun k_ hk => hk.1)); replace BK165 := Aside0.mk (blk_grown BK165.out hg (nbi NB165_168)); replace BK167 := Aside0.mk (blk_grown BK167.out hg (nbi NB167_168)); replace HB := Aside0.mk (pw_below_grown HB.out (some gb168) (below_size HB.out) hg (fun k_ e_ => by cases e_; exact GE168.out)); replace BK168 := Aside0.mk (hbox); clear hbox hg))
          (try simp only [Exit.inBlock, Exit.then])
          refine bodyPost_ret (results_ct rfl _ _ gb168 40 #[.int .i64 0, .int .i64 0, .int .i64 0, .slice none 0 0] (0, 0) _ rfl BK168.out Try.underlying40 rfl (by kernel_rfl)) rfl ?_
          try go_wp2_with (first | ((with_reducible refine gate_store (t := 40) (p := 4) rfl ?_); refine store_row (t := 40) (p := 4) (v := ?vo_w64) ?hgd ?ho ?hN gb167 0 #[.int .i64 0, .int .i64 0, .int .i64 0, .slice none 0 0] [.int .i64 0, .int .i64 0, .int .i64 0, .slice none 0 0] #[.int .i64 0, .int .i64 0, .int .i64 0, .slice none 0 0] ?hx ?hy BK167.out szi40 (Nat.le_of_ble_eq_true rfl) ?h1 ?hnew ?_; (case ho | hgd | hN | hx => rfl); (case hy => first | rfl | (go_simp; done) | (go_simp; rfl)); (case h1 | hnew => rfl); intro w64 hbox hg; replace HO_5 := Aside0.mk (Kd.S_grown HO_5.out hg (fun k_ hk e_ => (hk.1.2) (Option.some.inj e_))); replace HO_166000 := Aside0.mk (Kd.R_mono (Kd.R_grown (Kd.R_types HO_166000.out BK167.out (by decide)) hg (fun k_ hk e_ => hk.2 (Option.some.inj e_))) (fun k_ hk => hk.1)); replace BK165 := Aside0.mk (blk_grown BK165.out hg (nbi NB165_167)); replace BK168 := Aside0.mk (blk_grown BK168.out hg (nbi NB168_167)); replace HB := Aside0.mk (pw_below_grown HB.out (some gb167) (below_size HB.out) hg (fun k_ e_ => by cases e_; exact GE167.out)); replace BK167 := Aside0.mk (hbox); clear hbox hg))
          (try simp only [Exit.inBlock, Exit.then])
          refine bodyPost_ret (results_ct rfl _ _ gb167 40 #[.int .i64 0, .int .i64 0, .int .i64 0, .slice none 0 0] (0, 0) _ rfl BK167.out Try.underlying40 rfl (by kernel_rfl)) rfl ?_
          try go_wp2_with (first | ((with_reducible refine gate_dst (N := 8) rfl ?_); refine box_event ?hg (N := 8) ?hd (cs := #[.int .i64 0, .int .i64 0, .int .i64 0, .slice none 0 0]) (t := 40) ?hr ?_; (case hd | hg => rfl); (case hr => first | (go_simp; done) | (go_simp; rfl)); intro gb196 hg w65 hbox hb; have n0_ := Aside0.mk (Kd.S_below (Kd.S_elderB (by (with_reducible repeat (first | apply Kd.S_alloc | apply Kd.S_drewN | apply Kd.S_drew)); exact HO_5.out) gb196 (Nat.le_of_eq hg.symm)) hb); have n1_ := Aside0.mk (Kd.R_below (by (with_reducible repeat (first | apply Kd.R_alloc | apply Kd.R_drewN | apply Kd.R_drew)); exact HO_166000.out) hb); have n2_ := Aside0.mk (blk_below BK165.out hb); have n3_ := Aside0.mk (blk_below BK167.out hb); have n4_ := Aside0.mk (blk_below BK168.out hb); have n5_ := Aside0.mk (below_step HB.out hb); have n6_ := Aside0.mk (hbox); have n7_ := Aside0.mk ((by rw [hg]; exact (below_size HB.out) : w.heap.size ≤ gb196)); have n8_ := Aside0.mk ((by rw [hg]; exact (below_size HB.out) : w.heap.size ≤ gb196)); have n9_ := Aside0.mk ((by rw [hg]; exact Nat.ne_of_lt (blk_lt BK165.out) : gb165 ≠ gb196)); have n10_ := Aside0.mk ((by rw [hg]; exact Nat.ne_of_lt (blk_lt BK167.out) : gb167 ≠ gb196)); have n11_ := Aside0.mk ((by rw [hg]; exact Nat.ne_of_lt (blk_lt BK168.out) : gb168 ≠ gb196)); clear HO_5; clear HO_166000; clear BK165; clear BK167; clear BK168; clear HB; have HO_5 := n0_; have HO_166000 := n1_; have BK165 := n2_; have BK167 := n3_; have BK168 := n4_; have HB := n5_; have BK196 := n6_; have GW196 := n7_; have GE196 := n8_; have NB165_196 := n9_; have NB167_196 := n10_; have NB168_196 := n11_; clear n0_ n1_ n2_ n3_ n4_ n5_ n6_ n7_ n8_ n9_ n10_ n11_; clear hb hbox hg) | ((with_reducible refine gate_store (t := 40) (p := 8) rfl ?_); refine store_row (t := 40) (p := 8) (v := ?vo_w66) ?hgd ?ho ?hN gb196 0 #[.int .i64 0, .int .i64 0, .int .i64 0, .slice none 0 0] [.int .i64 0, .int .i64 0, .int .i64 0, .slice none 0 0] #[.int .i64 0, .int .i64 0, .int .i64 0, .slice none 0 0] ?hx ?hy BK196.out szi40 (Nat.le_of_ble_eq_true rfl) ?h1 ?hnew ?_; (case ho | hgd | hN | hx => rfl); (case hy => first | rfl | (go_simp; done) | (go_simp; rfl)); (case h1 | hnew => rfl); intro w66 hbox hg; replace HO_5 := Aside0.mk (Kd.S_grown HO_5.out hg (fun k_ hk e_ => (hk.2) (Option.some.inj e_))); replace HO_166000 := Aside0.mk (Kd.R_mono (Kd.R_grown (Kd.R_types HO_166000.out BK196.out (by decide)) hg (fun k_ hk e_ => hk.2 (Option.some.inj e_))) (fun k_ hk => hk.1)); replace BK165 := Aside0.mk (blk_grown BK165.out hg (nbi NB165_196)); replace BK167 := Aside0.mk (blk_grown BK167.out hg (nbi NB167_196)); replace BK168 := Aside0.mk (blk_grown BK168.out hg (nbi NB168_196)); replace HB := Aside0.mk (pw_below_grown HB.out (some gb196) (below_size HB.out) hg (fun k_ e_ => by cases e_; exact GE196.out)); replace BK196 := Aside0.mk (hbox); clear hbox hg))
          go_roundg k1
          case measure => have := HK1.out; omega
          case rel => exact ⟨(x5_1), (wrap64 (x12_1 + 1)), (([] : List Int)), (false), (false), (true), (x166004_1), (.slice none 0 0), (by first | rfl | (simp; done) | (simp [*]; done)), H', ⟨by have := HK1.out; omega⟩, ⟨by (with_reducible repeat (first | apply Kd.S_alloc | apply Kd.S_drewN | apply Kd.S_drew)); exact Kd.S_mono HO_5.out (fun _ hk => (by simp [Value.ownBlock]))⟩, ⟨by first | exact Kd.R_nil _ _ _ _ _ | exact Kd.N_nil _ _ _ _ _ | exact Kd.V_nil _ _ _ _ _ | exact Kd.Q_nil _ _ _ _ _ | exact Kd.S_nil _ _ _ _ _⟩, ⟨by exact BK165.out⟩, ⟨by exact HB.out⟩⟩
        ·rw [if_neg c43] at H
         have c43b0 : ((x166000_1.length : Int) == 0) = false := beq_eq_false_iff_ne.mpr c43
         have c43b1 : ((x166000_1.length : Int) != 0) = true := bne_iff_ne.mpr c43
         have c43b2 : ¬ (x166000_1 = []) := fun h_ => c43 (by rw [h_]; rfl)
         replace H := Option.bind_eq_some_iff.mp H
         obtain ⟨⟨t197, t198, t199, t200, t203⟩, A670, H⟩ := H
         replace H : (if x166001_1 = true then (bus_Decode.l0 k1 x5_1 l0 (l0.length : Int) (wrap64 (x12_1 + 1)) ([] : List Int) false false true (wrap64 (x166004_1 + 1))) else (if t203 = 0 then (if x5_1.length < 2932031007402 then (bus_Decode.l0 k1 (x5_1 ++ [(⟨t197, t198, t199, t200⟩ : S40)]) l0 (l0.length : Int) (wrap64 (x12_1 + 1)) ([] : List Int) false false true x166004_1) else (none)) else (bus_Decode.l0 k1 x5_1 l0 (l0.length : Int) (wrap64 (x12_1 + 1)) ([] : List Int) false false true (wrap64 (x166004_1 + 1))))) = some (r1, r2) := H
         have A67 := Aside0.mk A670
         clear A670
         by_cases c68 : x166001_1 = true
         ·subst c68
          have H1 : (bus_Decode.l0 k1 x5_1 l0 (l0.length : Int) (wrap64 (x12_1 + 1)) ([] : List Int) false false true (wrap64 (x166004_1 + 1))) = some (r1, r2) := by rw [if_pos rfl] at H; exact H
          clear H
          have H := H1
          clear H1
          have H' := Aside0.mk H
          clear H
          have p166 : 0 ≤ (x12_1 : Int) := of_decide_eq_true (by first | (with_reducible assumption) | assumption)
          have q166 : x12_1 < (l0.length : Int) := of_decide_eq_true (by first | (with_reducible assumption) | assumption)
          obtain ⟨ad166, e166, hx166_0⟩ := Kd.at_int HR0.out x12_1 p166 q166
          cases e166
          replace hx166_0 := (HB.out.cell (World.block_lt_of_cell? w _ hx166_0)).trans hx166_0
          replace p166 := eq_true p166
          replace q166 := eq_true q166
          try go_wp2_with (first | (go_at_call 42; go_enter Try.func42, Try.ntmps42) | ((with_reducible refine gate_dst (N := 4) rfl ?_); refine box_event ?hg (N := 4) ?hd (cs := #[.int .i64 0, .int .i64 0, .int .i64 0, .slice none 0 0]) (t := 40) ?hr ?_; (case hd | hg => rfl); (case hr => first | (go_simp; done) | (go_simp; rfl)); intro gb167 hg w69 hbox hb; have n0_ := Aside0.mk (Kd.S_below (Kd.S_elderB (by (with_reducible repeat (first | apply Kd.S_alloc | apply Kd.S_drewN | apply Kd.S_drew)); exact HO_5.out) gb167 (Nat.le_of_eq hg.symm)) hb); have n1_ := Aside0.mk (Kd.R_below (by (with_reducible repeat (first | apply Kd.R_alloc | apply Kd.R_drewN | apply Kd.R_drew)); exact HO_166000.out) hb); have n2_ := Aside0.mk (blk_below BK165.out hb); have n3_ := Aside0.mk (below_step HB.out hb); have n4_ := Aside0.mk (hbox); have n5_ := Aside0.mk ((by rw [hg]; exact (below_size HB.out) : w.heap.size ≤ gb167)); have n6_ := Aside0.mk ((by rw [hg]; exact (below_size HB.out) : w.heap.size ≤ gb167)); have n7_ := Aside0.mk ((by rw [hg]; exact Nat.ne_of_lt (blk_lt BK165.out) : gb165 ≠ gb167)); have n8_ := Aside0.mk ((by rw [hg]; exact Nat.ne_of_gt (blk_lt BK165.out) : gb167 ≠ gb165)); clear HO_5; clear HO_166000; clear BK165; clear HB; have HO_5 := n0_; have HO_166000 := n1_; have BK165 := n2_; have HB := n3_; have BK167 := n4_; have GW167 := n5_; have GE167 := n6_; have NB165_167 := n7_; have NB167_165 := n8_; clear n0_ n1_ n2_ n3_ n4_ n5_ n6_ n7_ n8_; clear hb hbox hg) | (go_at_call 50; go_enter Try.func50, Try.ntmps50) | ((with_reducible refine gate_dst (N := 2) rfl ?_); refine box_event ?hg (N := 2) ?hd (cs := #[.int .i64 0, .int .i64 0, .int .i64 0, .slice none 0 0]) (t := 40) ?hr ?_; (case hd | hg => rfl); (case hr => first | (go_simp; done) | (go_simp; rfl)); intro gb168 hg w70 hbox hb; have n0_ := Aside0.mk (Kd.S_below (Kd.S_elderB (by (with_reducible repeat (first | apply Kd.S_alloc | apply Kd.S_drewN | apply Kd.S_drew)); exact HO_5.out) gb168 (Nat.le_of_eq hg.symm)) hb); have n1_ := Aside0.mk (Kd.R_below (by (with_reducible repeat (first | apply Kd.R_alloc | apply Kd.R_drewN | apply Kd.R_drew)); exact HO_166000.out) hb); have n2_ := Aside0.mk (blk_below BK165.out hb); have n3_ := Aside0.mk (blk_below BK167.out hb); have n4_ := Aside0.mk (below_step HB.out hb); have n5_ := Aside0.mk (hbox); have n6_ := Aside0.mk ((by rw [hg]; exact (below_size HB.out) : w.heap.size ≤ gb168)); have n7_ := Aside0.mk ((by rw [hg]; exact (below_size HB.out) : w.heap.size ≤ gb168)); have n8_ := Aside0.mk ((by rw [hg]; exact Nat.ne_of_lt (blk_lt BK165.out) : gb165 ≠ gb168)); have n9_ := Aside0.mk ((by rw [hg]; exact Nat.ne_of_gt (blk_lt BK165.out) : gb168 ≠ gb165)); have n10_ := Aside0.mk ((by rw [hg]; exact Nat.ne_of_lt (blk_lt BK167.out) : gb167 ≠ gb168)); have n11_ := Aside0.mk ((by rw [hg]; exact Nat.ne_of_gt (blk_lt BK167.out) : gb168 ≠ gb167)); clear HO_5; clear HO_166000; clear BK165; clear BK167; clear HB; have HO_5 := n0_; have HO_166000 := n1_; have BK165 := n2_; have BK167 := n3_; have HB := n4_; have BK168 := n5_; have GW168 := n6_; have GE168 := n7_; have NB165_168 := n8_; have NB168_165 := n9_; have NB167_168 := n10_; have NB168_167 := n11_; clear n0_ n1_ n2_ n3_ n4_ n5_ n6_ n7_ n8_ n9_ n10_ n11_; clear hb hbox hg))
          replace HO_5 := Aside0.mk (Kd.S_drew HO_5.out)
          replace HO_166000 := Aside0.mk (Kd.R_drew HO_166000.out)
          replace BK165 := Aside0.mk (blk_drew BK165.out)
          replace BK167 := Aside0.mk (blk_drew BK167.out)
          replace BK168 := Aside0.mk (blk_drew BK168.out)
          replace HB := Aside0.mk (below_drew1 HB.out)
          obtain ⟨Ao72, co72, eo72⟩ := Kd.R_slice HO_166000.out
          (first | subst eo72 | (injection eo72 with f1_ f2_ f3_; have f4_ := f1_.symm; have f5_ := f3_.symm; clear f1_ f2_ f3_; subst f4_; subst f5_))
          refine start_ (n := 23) (S := fun w' => w'.cell? ⟨gb165, 0, none⟩ = some (.slice Ao72 x166000_1.length co72) ∧ w'.cell? ⟨gb165, 1, none⟩ = some (.bool true) ∧ w'.cell? ⟨gb165, 2, none⟩ = some (.bool false) ∧ w'.cell? ⟨gb165, 3, none⟩ = some (.bool x166003_1) ∧ w'.cell? ⟨gb165, 4, none⟩ = some (.int .i64 x166004_1)) (ds := []) #[false, false, false, false, false, false, false, false, false, false, false, false, false, false, false, false, false, false, false, false, false, false, false] (by kernel_rfl) rfl rfl ⟨(blk_cell BK165.out 0).trans rfl, (blk_cell BK165.out 1).trans rfl, (blk_cell BK165.out 2).trans rfl, (blk_cell BK165.out 3).trans rfl, (blk_cell BK165.out 4).trans rfl⟩ (fun hHeld => ?_)
          generalize w70.drew = w71 at HO_5 HO_166000 BK165 BK167 BK168 HB hHeld ⊢
          refine pure_ (i := 0) (N := some 9) (v := ?_) (a' := ?_) #[true, false, false, false, false, false, false, false, false, false, false, false, false, false, false, false, false, false, false, false, false, false, false] rfl rfl (by kernel_rfl) (fun _ _ _ h => h) (Or.inl ⟨by rfl, ?_⟩) ?_ ?_
          rotate_left
          ·intro w'
           go_simp
           with_reducible rfl
          rotate_left
          ·simp only [Act.put, List.setIfInBounds_toArray, List.set_cons_zero, List.set_cons_succ, i64_w, i32_w]
           rfl
          refine pure_ (i := 1) (N := some 10) (v := ?_) (a' := ?_) #[true, true, false, false, false, false, false, false, false, false, false, false, false, false, false, false, false, false, false, false, false, false, false] rfl rfl (by kernel_rfl) (fun _ _ _ h => h) (Or.inl ⟨by rfl, ?_⟩) ?_ ?_
          rotate_left
          ·intro w'
           go_simp
           with_reducible rfl
          rotate_left
          ·simp only [Act.put, List.setIfInBounds_toArray, List.set_cons_zero, List.set_cons_succ, i64_w, i32_w]
           rfl
          refine pure_ (i := 2) (N := some 11) (v := ?_) (a' := ?_) #[true, true, true, false, false, false, false, false, false, false, false, false, false, false, false, false, false, false, false, false, false, false, false] rfl rfl (by kernel_rfl) (fun _ _ _ h => h) (Or.inl ⟨by rfl, ?_⟩) ?_ ?_
          rotate_left
          ·intro w'
           go_simp
           with_reducible rfl
          rotate_left
          ·simp only [Act.put, List.setIfInBounds_toArray, List.set_cons_zero, List.set_cons_succ, i64_w, i32_w]
           rfl
          refine pure_ (i := 4) (N := some 13) (v := ?_) (a' := ?_) #[true, true, true, false, true, false, false, false, false, false, false, false, false, false, false, false, false, false, false, false, false, false, false] rfl rfl (by kernel_rfl) (fun _ _ _ h => h) (Or.inl ⟨by rfl, ?_⟩) ?_ ?_
          rotate_left
          ·intro w'
           go_simp
           with_reducible rfl
          rotate_left
          ·simp only [Act.put, List.setIfInBounds_toArray, List.set_cons_zero, List.set_cons_succ, i64_w, i32_w]
           rfl
          refine pure_ (i := 5) (N := some 14) (v := ?_) (a' := ?_) #[true, true, true, false, true, true, false, false, false, false, false, false, false, false, false, false, false, false, false, false, false, false, false] rfl rfl (by kernel_rfl) (fun _ _ _ h => h) (Or.inl ⟨by rfl, ?_⟩) ?_ ?_
          rotate_left
          ·intro w'
           go_simp
           with_reducible rfl
          rotate_left
          ·simp only [Act.put, List.setIfInBounds_toArray, List.set_cons_zero, List.set_cons_succ, i64_w, i32_w]
           rfl
          refine pure_ (i := 6) (N := some 15) (v := ?_) (a' := ?_) #[true, true, true, false, true, true, true, false, false, false, false, false, false, false, false, false, false, false, false, false, false, false, false] rfl rfl (by kernel_rfl) (fun _ _ _ h => h) (Or.inl ⟨by rfl, ?_⟩) ?_ ?_
          rotate_left
          ·intro w'
           go_simp
           with_reducible rfl
          rotate_left
          ·simp only [Act.put, List.setIfInBounds_toArray, List.set_cons_zero, List.set_cons_succ, i64_w, i32_w]
           rfl
          refine pure_ (i := 14) (N := some 23) (v := ?_) (a' := ?_) #[true, true, true, false, true, true, true, false, false, false, false, false, false, false, true, false, false, false, false, false, false, false, false] rfl rfl (by kernel_rfl) (fun _ _ _ h => h) (Or.inl ⟨by rfl, ?_⟩) ?_ ?_
          rotate_left
          ·intro w'
           go_simp
           with_reducible rfl
          rotate_left
          ·simp only [Act.put, List.setIfInBounds_toArray, List.set_cons_zero, List.set_cons_succ, i64_w, i32_w]
           rfl
          refine pure_ (i := 15) (N := some 24) (v := ?_) (a' := ?_) #[true, true, true, false, true, true, true, false, false, false, false, false, false, false, true, true, false, false, false, false, false, false, false] rfl rfl (by kernel_rfl) (fun _ _ _ h => h) (Or.inl ⟨by rfl, ?_⟩) ?_ ?_
          rotate_left
          ·intro w'
           go_simp
           with_reducible rfl
          rotate_left
          ·simp only [Act.put, List.setIfInBounds_toArray, List.set_cons_zero, List.set_cons_succ, i64_w, i32_w]
           rfl
          refine pure_ (i := 16) (N := some 25) (v := ?_) (a' := ?_) #[true, true, true, false, true, true, true, false, false, false, false, false, false, false, true, true, true, false, false, false, false, false, false] rfl rfl (by kernel_rfl) (fun _ _ _ h => h) (Or.inl ⟨by rfl, ?_⟩) ?_ ?_
          rotate_left
          ·intro w'
           go_simp
           with_reducible rfl
          rotate_left
          ·simp only [Act.put, List.setIfInBounds_toArray, List.set_cons_zero, List.set_cons_succ, i64_w, i32_w]
           rfl
          refine take_ (i := 3) (N := some 12) (v := ?_) (a' := ?_) #[true, true, true, true, true, true, true, false, false, false, false, false, false, false, true, true, true, false, false, false, false, false, false] rfl rfl (by kernel_rfl) (fun _ _ _ h => h) (Or.inl ⟨by rfl, ?_⟩) hHeld ?_ ?_
          rotate_left
          ·rintro w' ⟨s0, s1, s2, s3, s4⟩
           go_simp
           with_reducible rfl
          rotate_left
          ·simp only [Act.put, List.setIfInBounds_toArray, List.set_cons_zero, List.set_cons_succ, i64_w, i32_w]
           rfl
          refine take_ (i := 7) (N := some 16) (v := ?_) (a' := ?_) #[true, true, true, true, true, true, true, true, false, false, false, false, false, false, true, true, true, false, false, false, false, false, false] rfl rfl (by kernel_rfl) (fun _ _ _ h => h) (Or.inl ⟨by rfl, ?_⟩) hHeld ?_ ?_
          rotate_left
          ·rintro w' ⟨s0, s1, s2, s3, s4⟩
           go_simp
           with_reducible rfl
          rotate_left
          ·simp only [Act.put, List.setIfInBounds_toArray, List.set_cons_zero, List.set_cons_succ, i64_w, i32_w]
           rfl
          refine pure_ (i := 8) (N := some 17) (v := ?_) (a' := ?_) #[true, true, true, true, true, true, true, true, true, false, false, false, false, false, true, true, true, false, false, false, false, false, false] rfl rfl (by kernel_rfl) (fun _ _ _ h => h) (Or.inl ⟨by rfl, ?_⟩) ?_ ?_
          rotate_left
          ·intro w'
           go_simp
           with_reducible rfl
          rotate_left
          ·simp only [Act.put, List.setIfInBounds_toArray, List.set_cons_zero, List.set_cons_succ, i64_w, i32_w]
           rfl
          refine pure_ (i := 9) (N := some 18) (v := ?_) (a' := ?_) #[true, true, true, true, true, true, true, true, true, true, false, false, false, false, true, true, true, false, false, false, false, false, false] rfl rfl (by kernel_rfl) (fun _ _ _ h => h) (Or.inl ⟨by rfl, ?_⟩) ?_ ?_
          rotate_left
          ·intro w'
           go_simp
           with_reducible rfl
          rotate_left
          ·simp only [Act.put, List.setIfInBounds_toArray, List.set_cons_zero, List.set_cons_succ, i64_w, i32_w]
           rfl
          refine pure_ (i := 10) (N := some 19) (v := ?_) (a' := ?_) #[true, true, true, true, true, true, true, true, true, true, true, false, false, false, true, true, true, false, false, false, false, false, false] rfl rfl (by kernel_rfl) (fun _ _ _ h => h) (Or.inl ⟨by rfl, ?_⟩) ?_ ?_
          rotate_left
          ·intro w'
           go_simp
           with_reducible rfl
          rotate_left
          ·simp only [Act.put, List.setIfInBounds_toArray, List.set_cons_zero, List.set_cons_succ, i64_w, i32_w]
           rfl
          refine pure_ (i := 11) (N := some 20) (v := ?_) (a' := ?_) #[true, true, true, true, true, true, true, true, true, true, true, true, false, false, true, true, true, false, false, false, false, false, false] rfl rfl (by kernel_rfl) (fun _ _ _ h => h) (Or.inl ⟨by rfl, ?_⟩) ?_ ?_
          rotate_left
          ·intro w'
           go_simp
           with_reducible rfl
          rotate_left
          ·simp only [Act.put, List.setIfInBounds_toArray, List.set_cons_zero, List.set_cons_succ, i64_w, i32_w]
           rfl
          refine pure_ (i := 20) (N := some 4) (v := ?_) (a' := ?_) #[true, true, true, true, true, true, true, true, true, true, true, true, false, false, true, true, true, false, false, false, true, false, false] rfl rfl (by kernel_rfl) (fun _ _ _ h => h) (Or.inl ⟨by rfl, ?_⟩) ?_ ?_
          rotate_left
          ·intro w'
           go_simp
           with_reducible rfl
          rotate_left
          ·simp only [Act.put, List.setIfInBounds_toArray, List.set_cons_zero, List.set_cons_succ, i64_w, i32_w]
           rfl
          refine take_ (i := 12) (N := some 21) (v := ?_) (a' := ?_) #[true, true, true, true, true, true, true, true, true, true, true, true, true, false, true, true, true, false, false, false, true, false, false] rfl rfl (by kernel_rfl) (fun _ _ _ h => h) (Or.inl ⟨by rfl, ?_⟩) hHeld ?_ ?_
          rotate_left
          ·rintro w' ⟨s0, s1, s2, s3, s4⟩
           go_simp
           with_reducible rfl
          rotate_left
          ·simp only [Act.put, List.setIfInBounds_toArray, List.set_cons_zero, List.set_cons_succ, i64_w, i32_w]
           rfl
          refine pure_ (i := 13) (N := some 22) (v := ?_) (a' := ?_) #[true, true, true, true, true, true, true, true, true, true, true, true, true, true, true, true, true, false, false, false, true, false, false] rfl rfl (by kernel_rfl) (fun _ _ _ h => h) (Or.inl ⟨by rfl, ?_⟩) ?_ ?_
          rotate_left
          ·intro w'
           go_simp
           with_reducible rfl
          rotate_left
          ·simp only [Act.put, List.setIfInBounds_toArray, List.set_cons_zero, List.set_cons_succ, i64_w, i32_w]
           rfl
          refine pure_ (i := 21) (N := some 5) (v := ?_) (a' := ?_) #[true, true, true, true, true, true, true, true, true, true, true, true, true, true, true, true, true, false, false, false, true, true, false] rfl rfl (by kernel_rfl) (fun _ _ _ h => h) (Or.inl ⟨by rfl, ?_⟩) ?_ ?_
          rotate_left
          ·intro w'
           go_simp
           with_reducible rfl
          rotate_left
          ·simp only [Act.put, List.setIfInBounds_toArray, List.set_cons_zero, List.set_cons_succ, i64_w, i32_w]
           rfl
          refine take_ (i := 17) (N := some 26) (v := ?_) (a' := ?_) #[true, true, true, true, true, true, true, true, true, true, true, true, true, true, true, true, true, true, false, false, true, true, false] rfl rfl (by kernel_rfl) (fun _ _ _ h => h) (Or.inl ⟨by rfl, ?_⟩) hHeld ?_ ?_
          rotate_left
          ·rintro w' ⟨s0, s1, s2, s3, s4⟩
           go_simp
           with_reducible rfl
          rotate_left
          ·simp only [Act.put, List.setIfInBounds_toArray, List.set_cons_zero, List.set_cons_succ, i64_w, i32_w]
           rfl
          refine pure_ (i := 18) (N := some 27) (v := ?_) (a' := ?_) #[true, true, true, true, true, true, true, true, true, true, true, true, true, true, true, true, true, true, true, false, true, true, false] rfl rfl (by kernel_rfl) (fun _ _ _ h => h) (Or.inl ⟨by rfl, ?_⟩) ?_ ?_
          rotate_left
          ·intro w'
           go_simp
           with_reducible rfl
          rotate_left
          ·simp only [Act.put, List.setIfInBounds_toArray, List.set_cons_zero, List.set_cons_succ, i64_w, i32_w]
           rfl
          refine pure_ (i := 19) (N := some 28) (v := ?_) (a' := ?_) #[true, true, true, true, true, true, true, true, true, true, true, true, true, true, true, true, true, true, true, true, true, true, false] rfl rfl (by kernel_rfl) (fun _ _ _ h => h) (Or.inl ⟨by rfl, ?_⟩) ?_ ?_
          rotate_left
          ·intro w'
           go_simp
           with_reducible rfl
          rotate_left
          ·simp only [Act.put, List.setIfInBounds_toArray, List.set_cons_zero, List.set_cons_succ, i64_w, i32_w]
           rfl
          refine pure_ (i := 22) (N := some 6) (v := ?_) (a' := ?_) #[true, true, true, true, true, true, true, true, true, true, true, true, true, true, true, true, true, true, true, true, true, true, true] rfl rfl (by kernel_rfl) (fun _ _ _ h => h) (Or.inl ⟨by rfl, ?_⟩) ?_ ?_
          rotate_left
          ·intro w'
           go_simp
           with_reducible rfl
          rotate_left
          ·simp only [Act.put, List.setIfInBounds_toArray, List.set_cons_zero, List.set_cons_succ, i64_w, i32_w]
           rfl
          refine done_ (by kernel_rfl) ?_
          have hcz73_0 := tch5 BK165.out
          try go_wp2_with (first | ((with_reducible refine gate_store (t := 78) (p := 35) rfl ?_); refine store_row (t := 78) (p := 35) (v := ?vo_w74) ?hgd ?ho ?hN gb165 0 #[.slice Ao72 x166000_1.length co72, .bool true, .bool false, .bool x166003_1, .int .i64 x166004_1] [.slice none 0 0, .bool false, .bool false, .bool true, .int .i64 x166004_1] #[.slice none 0 0, .bool false, .bool false, .bool true, .int .i64 x166004_1] ?hx ?hy BK165.out szi78 (Nat.le_of_ble_eq_true rfl) ?h1 ?hnew ?_; (case ho | hgd | hN | hx => rfl); (case hy => first | rfl | (go_simp; done) | (go_simp; rfl)); (case h1 | hnew => rfl); intro w74 hbox hg; replace HO_5 := Aside0.mk (Kd.S_mono (Kd.S_grown (Kd.S_types HO_5.out BK165.out (by decide)) hg (fun k_ hk e_ => hk.2 (Option.some.inj e_))) (fun k_ hk => hk.1)); replace HO_166000 := Aside0.mk (Kd.R_mono (Kd.R_grown (Kd.R_types HO_166000.out BK165.out (by decide)) hg (fun k_ hk e_ => hk.2 (Option.some.inj e_))) (fun k_ hk => hk.1)); replace BK167 := Aside0.mk (blk_grown BK167.out hg (nbi NB167_165)); replace BK168 := Aside0.mk (blk_grown BK168.out hg (nbi NB168_165)); replace HB := Aside0.mk (pw_below_grown HB.out (some gb165) (below_size HB.out) hg (fun k_ e_ => by cases e_; exact GE165.out)); replace BK165 := Aside0.mk (hbox); clear hbox hg) | ((with_reducible refine gate_callee (f := 58) rfl ?_); refine goesL_ (some 44) rfl rfl Try.func58 (by kernel_rfl) rfl #[.slice Ao72 x166000_1.length co72] rfl (by (try simp only [List.map_toArray, List.map_cons, List.map_nil]); first | done | rfl | (simp only [List.length_drop, List.length_take]; rfl)) ?_; (with_reducible refine (bus_Parse.calls k1 _ _ x166000_1 t197 t198 t199 t200 t203 _ ?side1 ?side2 A67.out).mono ?_); (case side1 => repeat (first | exact (Kd.R_reads' HO_166000.out).2.2 | (with_reducible refine Kd.C_alloc ?_ _) | (with_reducible refine Kd.C_drewN ?_ _) | (with_reducible refine Kd.C_drew ?_))); (case side2 => exact (Kd.R_reads' HO_166000.out).2.1); rintro e w75 ⟨v201, rfl, ho0, hb⟩; refine ⟨_, rfl, ?_⟩; have n0_ := Aside0.mk (Kd.S_elder' (by (with_reducible repeat (first | apply Kd.S_alloc | apply Kd.S_drewN | apply Kd.S_drew)); exact HO_5.out) (Kd.R_base ho0) hb); have n1_ := Aside0.mk (Kd.R_elder' (by (with_reducible repeat (first | apply Kd.R_alloc | apply Kd.R_drewN | apply Kd.R_drew)); exact HO_166000.out) (Kd.R_base ho0) hb); have n2_ := Aside0.mk (Kd.R_lower (Kd.R_new' ho0 (Kd.R_lt (by (with_reducible repeat (first | apply Kd.R_alloc | apply Kd.R_drewN | apply Kd.R_drew)); exact HO_166000.out))) (below_size HB.out)); have n3_ := Aside0.mk (blk_below BK165.out hb); have n4_ := Aside0.mk (blk_below BK167.out hb); have n5_ := Aside0.mk (blk_below BK168.out hb); have n6_ := Aside0.mk (below_step HB.out hb); clear HO_5; clear HO_166000; clear BK165; clear BK167; clear BK168; clear HB; have HO_5 := n0_; have HO_166000 := n1_; have HO202 := n2_; have BK165 := n3_; have BK167 := n4_; have BK168 := n5_; have HB := n6_; clear n0_ n1_ n2_ n3_ n4_ n5_ n6_; (try clear hb); (try clear hb2); (try clear hk); (try clear hi); (try clear ho0)) | ((with_reducible refine gate_dst (N := 7) rfl ?_); refine box_event ?hg (N := 7) ?hd (cs := #[.int .i64 0, .int .i64 0, .int .i64 0, .slice none 0 0]) (t := 40) ?hr ?_; (case hd | hg => rfl); (case hr => first | (go_simp; done) | (go_simp; rfl)); intro gb204 hg w76 hbox hb; have n0_ := Aside0.mk (Kd.S_below (Kd.S_elderB (by (with_reducible repeat (first | apply Kd.S_alloc | apply Kd.S_drewN | apply Kd.S_drew)); exact HO_5.out) gb204 (Nat.le_of_eq hg.symm)) hb); have n1_ := Aside0.mk (Kd.R_below (by (with_reducible repeat (first | apply Kd.R_alloc | apply Kd.R_drewN | apply Kd.R_drew)); exact HO_166000.out) hb); have n2_ := Aside0.mk (Kd.R_below (by (with_reducible repeat (first | apply Kd.R_alloc | apply Kd.R_drewN | apply Kd.R_drew)); exact HO202.out) hb); have n3_ := Aside0.mk (blk_below BK165.out hb); have n4_ := Aside0.mk (blk_below BK167.out hb); have n5_ := Aside0.mk (blk_below BK168.out hb); have n6_ := Aside0.mk (below_step HB.out hb); have n7_ := Aside0.mk (hbox); have n8_ := Aside0.mk ((by rw [hg]; exact (below_size HB.out) : w.heap.size ≤ gb204)); have n9_ := Aside0.mk ((by rw [hg]; exact (below_size HB.out) : w.heap.size ≤ gb204)); have n10_ := Aside0.mk ((by rw [hg]; exact Nat.ne_of_lt (blk_lt BK165.out) : gb165 ≠ gb204)); have n11_ := Aside0.mk ((by rw [hg]; exact Nat.ne_of_gt (blk_lt BK165.out) : gb204 ≠ gb165)); have n12_ := Aside0.mk ((by rw [hg]; exact Nat.ne_of_lt (blk_lt BK167.out) : gb167 ≠ gb204)); have n13_ := Aside0.mk ((by rw [hg]; exact Nat.ne_of_gt (blk_lt BK167.out) : gb204 ≠ gb167)); have n14_ := Aside0.mk ((by rw [hg]; exact Nat.ne_of_lt (blk_lt BK168.out) : gb168 ≠ gb204)); have n15_ := Aside0.mk ((by rw [hg]; exact Nat.ne_of_gt (blk_lt BK168.out) : gb204 ≠ gb168)); clear HO_5; clear HO_166000; clear HO202; clear BK165; clear BK167; clear BK168; clear HB; have HO_5 := n0_; have HO_166000 := n1_; have HO202 := n2_; have BK165 := n3_; have BK167 := n4_; have BK168 := n5_; have HB := n6_; have BK204 := n7_; have GW204 := n8_; have GE204 := n9_; have NB165_204 := n10_; have NB204_165 := n11_; have NB167_204 := n12_; have NB204_167 := n13_; have NB168_204 := n14_; have NB204_168 := n15_; clear n0_ n1_ n2_ n3_ n4_ n5_ n6_ n7_ n8_ n9_ n10_ n11_ n12_ n13_ n14_ n15_; clear hb hbox hg; obtain ⟨Ao77, co77, eo77⟩ := Kd.R_slice HO202.out; subst eo77) | ((with_reducible refine gate_store (t := 40) (p := 7) rfl ?_); refine store_row (t := 40) (p := 7) (v := ?vo_w78) ?hgd ?ho ?hN gb204 0 #[.int .i64 0, .int .i64 0, .int .i64 0, .slice none 0 0] [.int .i64 t197, .int .i64 t198, .int .i64 t199, .slice Ao77 t200.length co77] #[.int .i64 t197, .int .i64 t198, .int .i64 t199, .slice Ao77 t200.length co77] ?hx ?hy BK204.out szi40 (Nat.le_of_ble_eq_true rfl) ?h1 ?hnew ?_; (case ho | hgd | hN | hx => rfl); (case hy => first | rfl | (go_simp; done) | (go_simp; rfl)); (case h1 | hnew => rfl); intro w78 hbox hg; replace HO_5 := Aside0.mk (Kd.S_grown HO_5.out hg (fun k_ hk e_ => (hk.2) (Option.some.inj e_))); replace HO_166000 := Aside0.mk (Kd.R_mono (Kd.R_grown (Kd.R_types HO_166000.out BK204.out (by decide)) hg (fun k_ hk e_ => hk.2 (Option.some.inj e_))) (fun k_ hk => hk.1)); replace HO202 := Aside0.mk (Kd.R_mono (Kd.R_grown (Kd.R_types HO202.out BK204.out (by decide)) hg (fun k_ hk e_ => hk.2 (Option.some.inj e_))) (fun k_ hk => hk.1)); replace BK165 := Aside0.mk (blk_grown BK165.out hg (nbi NB165_204)); replace BK167 := Aside0.mk (blk_grown BK167.out hg (nbi NB167_204)); replace BK168 := Aside0.mk (blk_grown BK168.out hg (nbi NB168_204)); replace HB := Aside0.mk (pw_below_grown HB.out (some gb204) (below_size HB.out) hg (fun k_ e_ => by cases e_; exact GE204.out)); replace BK204 := Aside0.mk (hbox); clear hbox hg; have hcz79_0 := tch5 BK165.out) | ((with_reducible refine gate_store (t := 3) (p := 58) rfl ?_); refine store_row (t := 3) (p := 58) (v := ?vo_w80) ?hgd ?ho ?hN gb165 4 #[.slice none 0 0, .bool false, .bool false, .bool true, .int .i64 x166004_1] [.int .i64 (wrap64 (x166004_1 + 1))] #[.slice none 0 0, .bool false, .bool false, .bool true, .int .i64 (wrap64 (x166004_1 + 1))] ?hx ?hy BK165.out szi3 (Nat.le_of_ble_eq_true rfl) ?h1 ?hnew ?_; (case ho | hgd | hN | hx => rfl); (case hy => first | rfl | (go_simp; done) | (go_simp; rfl)); (case h1 | hnew => rfl); intro w80 hbox hg; replace HO_5 := Aside0.mk (Kd.S_mono (Kd.S_grown (Kd.S_types HO_5.out BK165.out (by decide)) hg (fun k_ hk e_ => hk.2 (Option.some.inj e_))) (fun k_ hk => hk.1)); replace HO_166000 := Aside0.mk (Kd.R_mono (Kd.R_grown (Kd.R_types HO_166000.out BK165.out (by decide)) hg (fun k_ hk e_ => hk.2 (Option.some.inj e_))) (fun k_ hk => hk.1)); replace HO202 := Aside0.mk (Kd.R_mono (Kd.R_grown (Kd.R_types HO202.out BK165.out (by decide)) hg (fun k_ hk e_ => hk.2 (Option.some.inj e_))) (fun k_ hk => hk.1)); replace BK167 := Aside0.mk (blk_grown BK167.out hg (nbi NB167_165)); replace BK168 := Aside0.mk (blk_grown BK168.out hg (nbi NB168_165)); replace BK204 := Aside0.mk (blk_grown BK204.out hg (nbi NB204_165)); replace HB := Aside0.mk (pw_below_grown HB.out (some gb165) (below_size HB.out) hg (fun k_ e_ => by cases e_; exact GE165.out)); replace BK165 := Aside0.mk (hbox); clear hbox hg) | ((with_reducible refine gate_store (t := 40) (p := 2) rfl ?_); refine store_row (t := 40) (p := 2) (v := ?vo_w81) ?hgd ?ho ?hN gb168 0 #[.int .i64 0, .int .i64 0, .int .i64 0, .slice none 0 0] [.int .i64 0, .int .i64 0, .int .i64 0, .slice none 0 0] #[.int .i64 0, .int .i64 0, .int .i64 0, .slice none 0 0] ?hx ?hy BK168.out szi40 (Nat.le_of_ble_eq_true rfl) ?h1 ?hnew ?_; (case ho | hgd | hN | hx => rfl); (case hy => first | rfl | (go_simp; done) | (go_simp; rfl)); (case h1 | hnew => rfl); intro w81 hbox hg; replace HO_5 := Aside0.mk (Kd.S_grown HO_5.out hg (fun k_ hk e_ => (hk.1.1.2) (Option.some.inj e_))); replace HO_166000 := Aside0.mk (Kd.R_mono (Kd.R_grown (Kd.R_types HO_166000.out BK168.out (by decide)) hg (fun k_ hk e_ => hk.2 (Option.some.inj e_))) (fun k_ hk => hk.1)); replace HO202 := Aside0.mk (Kd.R_mono (Kd.R_grown (Kd.R_types HO202.out BK168.out (by decide)) hg (fun k_ hk e_ => hk.2 (Option.some.inj e_))) (fun k_ hk => hk.1)); replace BK165 := Aside0.mk (blk_grown BK165.out hg (nbi NB165_168)); replace BK167 := Aside0.mk (blk_grown BK167.out hg (nbi NB167_168)); replace BK204 := Aside0.mk (blk_grown BK204.out hg (nbi NB204_168)); replace HB := Aside0.mk (pw_below_grown HB.out (some gb168) (below_size HB.out) hg (fun k_ e_ => by cases e_; exact GE168.out)); replace BK168 := Aside0.mk (hbox); clear hbox hg))
          (try simp only [Exit.inBlock, Exit.then])
          refine bodyPost_ret (results_ct rfl _ _ gb168 40 #[.int .i64 0, .int .i64 0, .int .i64 0, .slice none 0 0] (0, 0) _ rfl BK168.out Try.underlying40 rfl (by kernel_rfl)) rfl ?_
          try go_wp2_with (first | ((with_reducible refine gate_store (t := 40) (p := 4) rfl ?_); refine store_row (t := 40) (p := 4) (v := ?vo_w82) ?hgd ?ho ?hN gb167 0 #[.int .i64 0, .int .i64 0, .int .i64 0, .slice none 0 0] [.int .i64 0, .int .i64 0, .int .i64 0, .slice none 0 0] #[.int .i64 0, .int .i64 0, .int .i64 0, .slice none 0 0] ?hx ?hy BK167.out szi40 (Nat.le_of_ble_eq_true rfl) ?h1 ?hnew ?_; (case ho | hgd | hN | hx => rfl); (case hy => first | rfl | (go_simp; done) | (go_simp; rfl)); (case h1 | hnew => rfl); intro w82 hbox hg; replace HO_5 := Aside0.mk (Kd.S_grown HO_5.out hg (fun k_ hk e_ => (hk.1.1.1.2) (Option.some.inj e_))); replace HO_166000 := Aside0.mk (Kd.R_mono (Kd.R_grown (Kd.R_types HO_166000.out BK167.out (by decide)) hg (fun k_ hk e_ => hk.2 (Option.some.inj e_))) (fun k_ hk => hk.1)); replace HO202 := Aside0.mk (Kd.R_mono (Kd.R_grown (Kd.R_types HO202.out BK167.out (by decide)) hg (fun k_ hk e_ => hk.2 (Option.some.inj e_))) (fun k_ hk => hk.1)); replace BK165 := Aside0.mk (blk_grown BK165.out hg (nbi NB165_167)); replace BK168 := Aside0.mk (blk_grown BK168.out hg (nbi NB168_167)); replace BK204 := Aside0.mk (blk_grown BK204.out hg (nbi NB204_167)); replace HB := Aside0.mk (pw_below_grown HB.out (some gb167) (below_size HB.out) hg (fun k_ e_ => by cases e_; exact GE167.out)); replace BK167 := Aside0.mk (hbox); clear hbox hg))
          (try simp only [Exit.inBlock, Exit.then])
          refine bodyPost_ret (results_ct rfl _ _ gb167 40 #[.int .i64 0, .int .i64 0, .int .i64 0, .slice none 0 0] (0, 0) _ rfl BK167.out Try.underlying40 rfl (by kernel_rfl)) rfl ?_
          try go_wp2_with (first | ((with_reducible refine gate_dst (N := 8) rfl ?_); refine box_event ?hg (N := 8) ?hd (cs := #[.int .i64 0, .int .i64 0, .int .i64 0, .slice none 0 0]) (t := 40) ?hr ?_; (case hd | hg => rfl); (case hr => first | (go_simp; done) | (go_simp; rfl)); intro gb205 hg w83 hbox hb; have n0_ := Aside0.mk (Kd.S_below (Kd.S_elderB (by (with_reducible repeat (first | apply Kd.S_alloc | apply Kd.S_drewN | apply Kd.S_drew)); exact HO_5.out) gb205 (Nat.le_of_eq hg.symm)) hb); have n1_ := Aside0.mk (Kd.R_below (by (with_reducible repeat (first | apply Kd.R_alloc | apply Kd.R_drewN | apply Kd.R_drew)); exact HO_166000.out) hb); have n2_ := Aside0.mk (Kd.R_below (by (with_reducible repeat (first | apply Kd.R_alloc | apply Kd.R_drewN | apply Kd.R_drew)); exact HO202.out) hb); have n3_ := Aside0.mk (blk_below BK165.out hb); have n4_ := Aside0.mk (blk_below BK167.out hb); have n5_ := Aside0.mk (blk_below BK168.out hb); have n6_ := Aside0.mk (blk_below BK204.out hb); have n7_ := Aside0.mk (below_step HB.out hb); have n8_ := Aside0.mk (hbox); have n9_ := Aside0.mk ((by rw [hg]; exact (below_size HB.out) : w.heap.size ≤ gb205)); have n10_ := Aside0.mk ((by rw [hg]; exact (below_size HB.out) : w.heap.size ≤ gb205)); have n11_ := Aside0.mk ((by rw [hg]; exact Nat.ne_of_lt (blk_lt BK165.out) : gb165 ≠ gb205)); have n12_ := Aside0.mk ((by rw [hg]; exact Nat.ne_of_lt (blk_lt BK167.out) : gb167 ≠ gb205)); have n13_ := Aside0.mk ((by rw [hg]; exact Nat.ne_of_lt (blk_lt BK168.out) : gb168 ≠ gb205)); have n14_ := Aside0.mk ((by rw [hg]; exact Nat.ne_of_lt (blk_lt BK204.out) : gb204 ≠ gb205)); clear HO_5; clear HO_166000; clear HO202; clear BK165; clear BK167; clear BK168; clear BK204; clear HB; have HO_5 := n0_; have HO_166000 := n1_; have HO202 := n2_; have BK165 := n3_; have BK167 := n4_; have BK168 := n5_; have BK204 := n6_; have HB := n7_; have BK205 := n8_; have GW205 := n9_; have GE205 := n10_; have NB165_205 := n11_; have NB167_205 := n12_; have NB168_205 := n13_; have NB204_205 := n14_; clear n0_ n1_ n2_ n3_ n4_ n5_ n6_ n7_ n8_ n9_ n10_ n11_ n12_ n13_ n14_; clear hb hbox hg) | ((with_reducible refine gate_store (t := 40) (p := 8) rfl ?_); refine store_row (t := 40) (p := 8) (v := ?vo_w84) ?hgd ?ho ?hN gb205 0 #[.int .i64 0, .int .i64 0, .int .i64 0, .slice none 0 0] [.int .i64 0, .int .i64 0, .int .i64 0, .slice none 0 0] #[.int .i64 0, .int .i64 0, .int .i64 0, .slice none 0 0] ?hx ?hy BK205.out szi40 (Nat.le_of_ble_eq_true rfl) ?h1 ?hnew ?_; (case ho | hgd | hN | hx => rfl); (case hy => first | rfl | (go_simp; done) | (go_simp; rfl)); (case h1 | hnew => rfl); intro w84 hbox hg; replace HO_5 := Aside0.mk (Kd.S_grown HO_5.out hg (fun k_ hk e_ => (hk.2) (Option.some.inj e_))); replace HO_166000 := Aside0.mk (Kd.R_mono (Kd.R_grown (Kd.R_types HO_166000.out BK205.out (by decide)) hg (fun k_ hk e_ => hk.2 (Option.some.inj e_))) (fun k_ hk => hk.1)); replace HO202 := Aside0.mk (Kd.R_mono (Kd.R_grown (Kd.R_types HO202.out BK205.out (by decide)) hg (fun k_ hk e_ => hk.2 (Option.some.inj e_))) (fun k_ hk => hk.1)); replace BK165 := Aside0.mk (blk_grown BK165.out hg (nbi NB165_205)); replace BK167 := Aside0.mk (blk_grown BK167.out hg (nbi NB167_205)); replace BK168 := Aside0.mk (blk_grown BK168.out hg (nbi NB168_205)); replace BK204 := Aside0.mk (blk_grown BK204.out hg (nbi NB204_205)); replace HB := Aside0.mk (pw_below_grown HB.out (some gb205) (below_size HB.out) hg (fun k_ e_ => by cases e_; exact GE205.out)); replace BK205 := Aside0.mk (hbox); clear hbox hg))
          go_roundg k1
          case measure => have := HK1.out; omega
          case rel => exact ⟨(x5_1), (wrap64 (x12_1 + 1)), (([] : List Int)), (false), (false), (true), (wrap64 (x166004_1 + 1)), (.slice none 0 0), (by first | rfl | (simp; done) | (simp [*]; done)), H', ⟨by have := HK1.out; omega⟩, ⟨by (with_reducible repeat (first | apply Kd.S_alloc | apply Kd.S_drewN | apply Kd.S_drew)); exact Kd.S_mono HO_5.out (fun _ hk => (by simp [Value.ownBlock]))⟩, ⟨by first | exact Kd.R_nil _ _ _ _ _ | exact Kd.N_nil _ _ _ _ _ | exact Kd.V_nil _ _ _ _ _ | exact Kd.Q_nil _ _ _ _ _ | exact Kd.S_nil _ _ _ _ _⟩, ⟨by exact BK165.out⟩, ⟨by exact HB.out⟩⟩
         ·replace c68 := Bool.eq_false_iff.mpr c68
          subst c68
          have H1 : (if t203 = 0 then (if x5_1.length < 2932031007402 then (bus_Decode.l0 k1 (x5_1 ++ [(⟨t197, t198, t199, t200⟩ : S40)]) l0 (l0.length : Int) (wrap64 (x12_1 + 1)) ([] : List Int) false false true x166004_1) else (none)) else (bus_Decode.l0 k1 x5_1 l0 (l0.length : Int) (wrap64 (x12_1 + 1)) ([] : List Int) false false true (wrap64 (x166004_1 + 1)))) = some (r1, r2) := by rw [if_neg (show ¬ (false = true) by decide)] at H; exact H
          clear H
          have H := H1
          clear H1
          have HC85 := Aside0.mk H
          clear H
          have p166 : 0 ≤ (x12_1 : Int) := of_decide_eq_true (by first | (with_reducible assumption) | assumption)
          have q166 : x12_1 < (l0.length : Int) := of_decide_eq_true (by first | (with_reducible assumption) | assumption)
          obtain ⟨ad166, e166, hx166_0⟩ := Kd.at_int HR0.out x12_1 p166 q166
          cases e166
          replace hx166_0 := (HB.out.cell (World.block_lt_of_cell? w _ hx166_0)).trans hx166_0
          replace p166 := eq_true p166
          replace q166 := eq_true q166
          try go_wp2_with (first | (go_at_call 42; go_enter Try.func42, Try.ntmps42) | ((with_reducible refine gate_dst (N := 4) rfl ?_); refine box_event ?hg (N := 4) ?hd (cs := #[.int .i64 0, .int .i64 0, .int .i64 0, .slice none 0 0]) (t := 40) ?hr ?_; (case hd | hg => rfl); (case hr => first | (go_simp; done) | (go_simp; rfl)); intro gb167 hg w86 hbox hb; have n0_ := Aside0.mk (Kd.S_below (Kd.S_elderB (by (with_reducible repeat (first | apply Kd.S_alloc | apply Kd.S_drewN | apply Kd.S_drew)); exact HO_5.out) gb167 (Nat.le_of_eq hg.symm)) hb); have n1_ := Aside0.mk (Kd.R_below (by (with_reducible repeat (first | apply Kd.R_alloc | apply Kd.R_drewN | apply Kd.R_drew)); exact HO_166000.out) hb); have n2_ := Aside0.mk (blk_below BK165.out hb); have n3_ := Aside0.mk (below_step HB.out hb); have n4_ := Aside0.mk (hbox); have n5_ := Aside0.mk ((by rw [hg]; exact (below_size HB.out) : w.heap.size ≤ gb167)); have n6_ := Aside0.mk ((by rw [hg]; exact (below_size HB.out) : w.heap.size ≤ gb167)); have n7_ := Aside0.mk ((by rw [hg]; exact Nat.ne_of_lt (blk_lt BK165.out) : gb165 ≠ gb167)); have n8_ := Aside0.mk ((by rw [hg]; exact Nat.ne_of_gt (blk_lt BK165.out) : gb167 ≠ gb165)); clear HO_5; clear HO_166000; clear BK165; clear HB; have HO_5 := n0_; have HO_166000 := n1_; have BK165 := n2_; have HB := n3_; have BK167 := n4_; have GW167 := n5_; have GE167 := n6_; have NB165_167 := n7_; have NB167_165 := n8_; clear n0_ n1_ n2_ n3_ n4_ n5_ n6_ n7_ n8_; clear hb hbox hg) | (go_at_call 50; go_enter Try.func50, Try.ntmps50) | ((with_reducible refine gate_dst (N := 2) rfl ?_); refine box_event ?hg (N := 2) ?hd (cs := #[.int .i64 0, .int .i64 0, .int .i64 0, .slice none 0 0]) (t := 40) ?hr ?_; (case hd | hg => rfl); (case hr => first | (go_simp; done) | (go_simp; rfl)); intro gb168 hg w87 hbox hb; have n0_ := Aside0.mk (Kd.S_below (Kd.S_elderB (by (with_reducible repeat (first | apply Kd.S_alloc | apply Kd.S_drewN | apply Kd.S_drew)); exact HO_5.out) gb168 (Nat.le_of_eq hg.symm)) hb); have n1_ := Aside0.mk (Kd.R_below (by (with_reducible repeat (first | apply Kd.R_alloc | apply Kd.R_drewN | apply Kd.R_drew)); exact HO_166000.out) hb); have n2_ := Aside0.mk (blk_below BK165.out hb); have n3_ := Aside0.mk (blk_below BK167.out hb); have n4_ := Aside0.mk (below_step HB.out hb); have n5_ := Aside0.mk (hbox); have n6_ := Aside0.mk ((by rw [hg]; exact (below_size HB.out) : w.heap.size ≤ gb168)); have n7_ := Aside0.mk ((by rw [hg]; exact (below_size HB.out) : w.heap.size ≤ gb168)); have n8_ := Aside0.mk ((by rw [hg]; exact Nat.ne_of_lt (blk_lt BK165.out) : gb165 ≠ gb168)); have n9_ := Aside0.mk ((by rw [hg]; exact Nat.ne_of_gt (blk_lt BK165.out) : gb168 ≠ gb165)); have n10_ := Aside0.mk ((by rw [hg]; exact Nat.ne_of_lt (blk_lt BK167.out) : gb167 ≠ gb168)); have n11_ := Aside0.mk ((by rw [hg]; exact Nat.ne_of_gt (blk_lt BK167.out) : gb168 ≠ gb167)); clear HO_5; clear HO_166000; clear BK165; clear BK167; clear HB; have HO_5 := n0_; have HO_166000 := n1_; have BK165 := n2_; have BK167 := n3_; have HB := n4_; have BK168 := n5_; have GW168 := n6_; have GE168 := n7_; have NB165_168 := n8_; have NB168_165 := n9_; have NB167_168 := n10_; have NB168_167 := n11_; clear n0_ n1_ n2_ n3_ n4_ n5_ n6_ n7_ n8_ n9_ n10_ n11_; clear hb hbox hg))
          replace HO_5 := Aside0.mk (Kd.S_drew HO_5.out)
          replace HO_166000 := Aside0.mk (Kd.R_drew HO_166000.out)
          replace BK165 := Aside0.mk (blk_drew BK165.out)
          replace BK167 := Aside0.mk (blk_drew BK167.out)
          replace BK168 := Aside0.mk (blk_drew BK168.out)
          replace HB := Aside0.mk (below_drew1 HB.out)
          obtain ⟨Ao89, co89, eo89⟩ := Kd.R_slice HO_166000.out
          (first | subst eo89 | (injection eo89 with f1_ f2_ f3_; have f4_ := f1_.symm; have f5_ := f3_.symm; clear f1_ f2_ f3_; subst f4_; subst f5_))
          refine start_ (n := 23) (S := fun w' => w'.cell? ⟨gb165, 0, none⟩ = some (.slice Ao89 x166000_1.length co89) ∧ w'.cell? ⟨gb165, 1, none⟩ = some (.bool false) ∧ w'.cell? ⟨gb165, 2, none⟩ = some (.bool false) ∧ w'.cell? ⟨gb165, 3, none⟩ = some (.bool x166003_1) ∧ w'.cell? ⟨gb165, 4, none⟩ = some (.int .i64 x166004_1)) (ds := []) #[false, false, false, false, false, false, false, false, false, false, false, false, false, false, false, false, false, false, false, false, false, false, false] (by kernel_rfl) rfl rfl ⟨(blk_cell BK165.out 0).trans rfl, (blk_cell BK165.out 1).trans rfl, (blk_cell BK165.out 2).trans rfl, (blk_cell BK165.out 3).trans rfl, (blk_cell BK165.out 4).trans rfl⟩ (fun hHeld => ?_)
          generalize w87.drew = w88 at HO_5 HO_166000 BK165 BK167 BK168 HB hHeld ⊢
          refine pure_ (i := 0) (N := some 9) (v := ?_) (a' := ?_) #[true, false, false, false, false, false, false, false, false, false, false, false, false, false, false, false, false, false, false, false, false, false, false] rfl rfl (by kernel_rfl) (fun _ _ _ h => h) (Or.inl ⟨by rfl, ?_⟩) ?_ ?_
          rotate_left
          ·intro w'
           go_simp
           with_reducible rfl
          rotate_left
          ·simp only [Act.put, List.setIfInBounds_toArray, List.set_cons_zero, List.set_cons_succ, i64_w, i32_w]
           rfl
          refine pure_ (i := 1) (N := some 10) (v := ?_) (a' := ?_) #[true, true, false, false, false, false, false, false, false, false, false, false, false, false, false, false, false, false, false, false, false, false, false] rfl rfl (by kernel_rfl) (fun _ _ _ h => h) (Or.inl ⟨by rfl, ?_⟩) ?_ ?_
          rotate_left
          ·intro w'
           go_simp
           with_reducible rfl
          rotate_left
          ·simp only [Act.put, List.setIfInBounds_toArray, List.set_cons_zero, List.set_cons_succ, i64_w, i32_w]
           rfl
          refine pure_ (i := 2) (N := some 11) (v := ?_) (a' := ?_) #[true, true, true, false, false, false, false, false, false, false, false, false, false, false, false, false, false, false, false, false, false, false, false] rfl rfl (by kernel_rfl) (fun _ _ _ h => h) (Or.inl ⟨by rfl, ?_⟩) ?_ ?_
          rotate_left
          ·intro w'
           go_simp
           with_reducible rfl
          rotate_left
          ·simp only [Act.put, List.setIfInBounds_toArray, List.set_cons_zero, List.set_cons_succ, i64_w, i32_w]
           rfl
          refine pure_ (i := 4) (N := some 13) (v := ?_) (a' := ?_) #[true, true, true, false, true, false, false, false, false, false, false, false, false, false, false, false, false, false, false, false, false, false, false] rfl rfl (by kernel_rfl) (fun _ _ _ h => h) (Or.inl ⟨by rfl, ?_⟩) ?_ ?_
          rotate_left
          ·intro w'
           go_simp
           with_reducible rfl
          rotate_left
          ·simp only [Act.put, List.setIfInBounds_toArray, List.set_cons_zero, List.set_cons_succ, i64_w, i32_w]
           rfl
          refine pure_ (i := 5) (N := some 14) (v := ?_) (a' := ?_) #[true, true, true, false, true, true, false, false, false, false, false, false, false, false, false, false, false, false, false, false, false, false, false] rfl rfl (by kernel_rfl) (fun _ _ _ h => h) (Or.inl ⟨by rfl, ?_⟩) ?_ ?_
          rotate_left
          ·intro w'
           go_simp
           with_reducible rfl
          rotate_left
          ·simp only [Act.put, List.setIfInBounds_toArray, List.set_cons_zero, List.set_cons_succ, i64_w, i32_w]
           rfl
          refine pure_ (i := 6) (N := some 15) (v := ?_) (a' := ?_) #[true, true, true, false, true, true, true, false, false, false, false, false, false, false, false, false, false, false, false, false, false, false, false] rfl rfl (by kernel_rfl) (fun _ _ _ h => h) (Or.inl ⟨by rfl, ?_⟩) ?_ ?_
          rotate_left
          ·intro w'
           go_simp
           with_reducible rfl
          rotate_left
          ·simp only [Act.put, List.setIfInBounds_toArray, List.set_cons_zero, List.set_cons_succ, i64_w, i32_w]
           rfl
          refine pure_ (i := 14) (N := some 23) (v := ?_) (a' := ?_) #[true, true, true, false, true, true, true, false, false, false, false, false, false, false, true, false, false, false, false, false, false, false, false] rfl rfl (by kernel_rfl) (fun _ _ _ h => h) (Or.inl ⟨by rfl, ?_⟩) ?_ ?_
          rotate_left
          ·intro w'
           go_simp
           with_reducible rfl
          rotate_left
          ·simp only [Act.put, List.setIfInBounds_toArray, List.set_cons_zero, List.set_cons_succ, i64_w, i32_w]
           rfl
          refine pure_ (i := 15) (N := some 24) (v := ?_) (a' := ?_) #[true, true, true, false, true, true, true, false, false, false, false, false, false, false, true, true, false, false, false, false, false, false, false] rfl rfl (by kernel_rfl) (fun _ _ _ h => h) (Or.inl ⟨by rfl, ?_⟩) ?_ ?_
          rotate_left
          ·intro w'
           go_simp
           with_reducible rfl
          rotate_left
          ·simp only [Act.put, List.setIfInBounds_toArray, List.set_cons_zero, List.set_cons_succ, i64_w, i32_w]
           rfl
          refine pure_ (i := 16) (N := some 25) (v := ?_) (a' := ?_) #[true, true, true, false, true, true, true, false, false, false, false, false, false, false, true, true, true, false, false, false, false, false, false] rfl rfl (by kernel_rfl) (fun _ _ _ h => h) (Or.inl ⟨by rfl, ?_⟩) ?_ ?_
          rotate_left
          ·intro w'
           go_simp
           with_reducible rfl
          rotate_left
          ·simp only [Act.put, List.setIfInBounds_toArray, List.set_cons_zero, List.set_cons_succ, i64_w, i32_w]
           rfl
          refine take_ (i := 3) (N := some 12) (v := ?_) (a' := ?_) #[true, true, true, true, true, true, true, false, false, false, false, false, false, false, true, true, true, false, false, false, false, false, false] rfl rfl (by kernel_rfl) (fun _ _ _ h => h) (Or.inl ⟨by rfl, ?_⟩) hHeld ?_ ?_
          rotate_left
          ·rintro w' ⟨s0, s1, s2, s3, s4⟩
           go_simp
           with_reducible rfl
          rotate_left
          ·simp only [Act.put, List.setIfInBounds_toArray, List.set_cons_zero, List.set_cons_succ, i64_w, i32_w]
           rfl
          refine take_ (i := 7) (N := some 16) (v := ?_) (a' := ?_) #[true, true, true, true, true, true, true, true, false, false, false, false, false, false, true, true, true, false, false, false, false, false, false] rfl rfl (by kernel_rfl) (fun _ _ _ h => h) (Or.inl ⟨by rfl, ?_⟩) hHeld ?_ ?_
          rotate_left
          ·rintro w' ⟨s0, s1, s2, s3, s4⟩
           go_simp
           with_reducible rfl
          rotate_left
          ·simp only [Act.put, List.setIfInBounds_toArray, List.set_cons_zero, List.set_cons_succ, i64_w, i32_w]
           rfl
          refine pure_ (i := 8) (N := some 17) (v := ?_) (a' := ?_) #[true, true, true, true, true, true, true, true, true, false, false, false, false, false, true, true, true, false, false, false, false, false, false] rfl rfl (by kernel_rfl) (fun _ _ _ h => h) (Or.inl ⟨by rfl, ?_⟩) ?_ ?_
          rotate_left
          ·intro w'
           go_simp
           with_reducible rfl
          rotate_left
          ·simp only [Act.put, List.setIfInBounds_toArray, List.set_cons_zero, List.set_cons_succ, i64_w, i32_w]
           rfl
          refine pure_ (i := 9) (N := some 18) (v := ?_) (a' := ?_) #[true, true, true, true, true, true, true, true, true, true, false, false, false, false, true, true, true, false, false, false, false, false, false] rfl rfl (by kernel_rfl) (fun _ _ _ h => h) (Or.inl ⟨by rfl, ?_⟩) ?_ ?_
          rotate_left
          ·intro w'
           go_simp
           with_reducible rfl
          rotate_left
          ·simp only [Act.put, List.setIfInBounds_toArray, List.set_cons_zero, List.set_cons_succ, i64_w, i32_w]
           rfl
          refine pure_ (i := 10) (N := some 19) (v := ?_) (a' := ?_) #[true, true, true, true, true, true, true, true, true, true, true, false, false, false, true, true, true, false, false, false, false, false, false] rfl rfl (by kernel_rfl) (fun _ _ _ h => h) (Or.inl ⟨by rfl, ?_⟩) ?_ ?_
          rotate_left
          ·intro w'
           go_simp
           with_reducible rfl
          rotate_left
          ·simp only [Act.put, List.setIfInBounds_toArray, List.set_cons_zero, List.set_cons_succ, i64_w, i32_w]
           rfl
          refine pure_ (i := 11) (N := some 20) (v := ?_) (a' := ?_) #[true, true, true, true, true, true, true, true, true, true, true, true, false, false, true, true, true, false, false, false, false, false, false] rfl rfl (by kernel_rfl) (fun _ _ _ h => h) (Or.inl ⟨by rfl, ?_⟩) ?_ ?_
          rotate_left
          ·intro w'
           go_simp
           with_reducible rfl
          rotate_left
          ·simp only [Act.put, List.setIfInBounds_toArray, List.set_cons_zero, List.set_cons_succ, i64_w, i32_w]
           rfl
          refine pure_ (i := 20) (N := some 4) (v := ?_) (a' := ?_) #[true, true, true, true, true, true, true, true, true, true, true, true, false, false, true, true, true, false, false, false, true, false, false] rfl rfl (by kernel_rfl) (fun _ _ _ h => h) (Or.inl ⟨by rfl, ?_⟩) ?_ ?_
          rotate_left
          ·intro w'
           go_simp
           with_reducible rfl
          rotate_left
          ·simp only [Act.put, List.setIfInBounds_toArray, List.set_cons_zero, List.set_cons_succ, i64_w, i32_w]
           rfl
          refine take_ (i := 12) (N := some 21) (v := ?_) (a' := ?_) #[true, true, true, true, true, true, true, true, true, true, true, true, true, false, true, true, true, false, false, false, true, false, false] rfl rfl (by kernel_rfl) (fun _ _ _ h => h) (Or.inl ⟨by rfl, ?_⟩) hHeld ?_ ?_
          rotate_left
          ·rintro w' ⟨s0, s1, s2, s3, s4⟩
           go_simp
           with_reducible rfl
          rotate_left
          ·simp only [Act.put, List.setIfInBounds_toArray, List.set_cons_zero, List.set_cons_succ, i64_w, i32_w]
           rfl
          refine pure_ (i := 13) (N := some 22) (v := ?_) (a' := ?_) #[true, true, true, true, true, true, true, true, true, true, true, true, true, true, true, true, true, false, false, false, true, false, false] rfl rfl (by kernel_rfl) (fun _ _ _ h => h) (Or.inl ⟨by rfl, ?_⟩) ?_ ?_
          rotate_left
          ·intro w'
           go_simp
           with_reducible rfl
          rotate_left
          ·simp only [Act.put, List.setIfInBounds_toArray, List.set_cons_zero, List.set_cons_succ, i64_w, i32_w]
           rfl
          refine pure_ (i := 21) (N := some 5) (v := ?_) (a' := ?_) #[true, true, true, true, true, true, true, true, true, true, true, true, true, true, true, true, true, false, false, false, true, true, false] rfl rfl (by kernel_rfl) (fun _ _ _ h => h) (Or.inl ⟨by rfl, ?_⟩) ?_ ?_
          rotate_left
          ·intro w'
           go_simp
           with_reducible rfl
          rotate_left
          ·simp only [Act.put, List.setIfInBounds_toArray, List.set_cons_zero, List.set_cons_succ, i64_w, i32_w]
           rfl
          refine take_ (i := 17) (N := some 26) (v := ?_) (a' := ?_) #[true, true, true, true, true, true, true, true, true, true, true, true, true, true, true, true, true, true, false, false, true, true, false] rfl rfl (by kernel_rfl) (fun _ _ _ h => h) (Or.inl ⟨by rfl, ?_⟩) hHeld ?_ ?_
          rotate_left
          ·rintro w' ⟨s0, s1, s2, s3, s4⟩
           go_simp
           with_reducible rfl
          rotate_left
          ·simp only [Act.put, List.setIfInBounds_toArray, List.set_cons_zero, List.set_cons_succ, i64_w, i32_w]
           rfl
          refine pure_ (i := 18) (N := some 27) (v := ?_) (a' := ?_) #[true, true, true, true, true, true, true, true, true, true, true, true, true, true, true, true, true, true, true, false, true, true, false] rfl rfl (by kernel_rfl) (fun _ _ _ h => h) (Or.inl ⟨by rfl, ?_⟩) ?_ ?_
          rotate_left
          ·intro w'
           go_simp
           with_reducible rfl
          rotate_left
          ·simp only [Act.put, List.setIfInBounds_toArray, List.set_cons_zero, List.set_cons_succ, i64_w, i32_w]
           rfl
          refine pure_ (i := 19) (N := some 28) (v := ?_) (a' := ?_) #[true, true, true, true, true, true, true, true, true, true, true, true, true, true, true, true, true, true, true, true, true, true, false] rfl rfl (by kernel_rfl) (fun _ _ _ h => h) (Or.inl ⟨by rfl, ?_⟩) ?_ ?_
          rotate_left
          ·intro w'
           go_simp
           with_reducible rfl
          rotate_left
          ·simp only [Act.put, List.setIfInBounds_toArray, List.set_cons_zero, List.set_cons_succ, i64_w, i32_w]
           rfl
          refine pure_ (i := 22) (N := some 6) (v := ?_) (a' := ?_) #[true, true, true, true, true, true, true, true, true, true, true, true, true, true, true, true, true, true, true, true, true, true, true] rfl rfl (by kernel_rfl) (fun _ _ _ h => h) (Or.inl ⟨by rfl, ?_⟩) ?_ ?_
          rotate_left
          ·intro w'
           go_simp
           with_reducible rfl
          rotate_left
          ·simp only [Act.put, List.setIfInBounds_toArray, List.set_cons_zero, List.set_cons_succ, i64_w, i32_w]
           rfl
          refine done_ (by kernel_rfl) ?_
          have hcz90_0 := tch5 BK165.out
          go_upto_if 51 with (first | ((with_reducible refine gate_store (t := 78) (p := 35) rfl ?_); refine store_row (t := 78) (p := 35) (v := ?vo_w91) ?hgd ?ho ?hN gb165 0 #[.slice Ao89 x166000_1.length co89, .bool false, .bool false, .bool x166003_1, .int .i64 x166004_1] [.slice none 0 0, .bool false, .bool false, .bool true, .int .i64 x166004_1] #[.slice none 0 0, .bool false, .bool false, .bool true, .int .i64 x166004_1] ?hx ?hy BK165.out szi78 (Nat.le_of_ble_eq_true rfl) ?h1 ?hnew ?_; (case ho | hgd | hN | hx => rfl); (case hy => first | rfl | (go_simp; done) | (go_simp; rfl)); (case h1 | hnew => rfl); intro w91 hbox hg; replace HO_5 := Aside0.mk (Kd.S_mono (Kd.S_grown (Kd.S_types HO_5.out BK165.out (by decide)) hg (fun k_ hk e_ => hk.2 (Option.some.inj e_))) (fun k_ hk => hk.1)); replace HO_166000 := Aside0.mk (Kd.R_mono (Kd.R_grown (Kd.R_types HO_166000.out BK165.out (by decide)) hg (fun k_ hk e_ => hk.2 (Option.some.inj e_))) (fun k_ hk => hk.1)); replace BK167 := Aside0.mk (blk_grown BK167.out hg (nbi NB167_165)); replace BK168 := Aside0.mk (blk_grown BK168.out hg (nbi NB168_165)); replace HB := Aside0.mk (pw_below_grown HB.out (some gb165) (below_size HB.out) hg (fun k_ e_ => by cases e_; exact GE165.out)); replace BK165 := Aside0.mk (hbox); clear hbox hg) | ((with_reducible refine gate_callee (f := 58) rfl ?_); refine goesL_ (some 44) rfl rfl Try.func58 (by kernel_rfl) rfl #[.slice Ao89 x166000_1.length co89] rfl (by (try simp only [List.map_toArray, List.map_cons, List.map_nil]); first | done | rfl | (simp only [List.length_drop, List.length_take]; rfl)) ?_; (with_reducible refine (bus_Parse.calls k1 _ _ x166000_1 t197 t198 t199 t200 t203 _ ?side1 ?side2 A67.out).mono ?_); (case side1 => repeat (first | exact (Kd.R_reads' HO_166000.out).2.2 | (with_reducible refine Kd.C_alloc ?_ _) | (with_reducible refine Kd.C_drewN ?_ _) | (with_reducible refine Kd.C_drew ?_))); (case side2 => exact (Kd.R_reads' HO_166000.out).2.1); rintro e w92 ⟨v201, rfl, ho0, hb⟩; refine ⟨_, rfl, ?_⟩; have n0_ := Aside0.mk (Kd.S_elder' (by (with_reducible repeat (first | apply Kd.S_alloc | apply Kd.S_drewN | apply Kd.S_drew)); exact HO_5.out) (Kd.R_base ho0) hb); have n1_ := Aside0.mk (Kd.R_elder' (by (with_reducible repeat (first | apply Kd.R_alloc | apply Kd.R_drewN | apply Kd.R_drew)); exact HO_166000.out) (Kd.R_base ho0) hb); have n2_ := Aside0.mk (Kd.R_lower (Kd.R_new' ho0 (Kd.R_lt (by (with_reducible repeat (first | apply Kd.R_alloc | apply Kd.R_drewN | apply Kd.R_drew)); exact HO_166000.out))) (below_size HB.out)); have n3_ := Aside0.mk (blk_below BK165.out hb); have n4_ := Aside0.mk (blk_below BK167.out hb); have n5_ := Aside0.mk (blk_below BK168.out hb); have n6_ := Aside0.mk (below_step HB.out hb); clear HO_5; clear HO_166000; clear BK165; clear BK167; clear BK168; clear HB; have HO_5 := n0_; have HO_166000 := n1_; have HO202 := n2_; have BK165 := n3_; have BK167 := n4_; have BK168 := n5_; have HB := n6_; clear n0_ n1_ n2_ n3_ n4_ n5_ n6_; (try clear hb); (try clear hb2); (try clear hk); (try clear hi); (try clear ho0)) | ((with_reducible refine gate_dst (N := 7) rfl ?_); refine box_event ?hg (N := 7) ?hd (cs := #[.int .i64 0, .int .i64 0, .int .i64 0, .slice none 0 0]) (t := 40) ?hr ?_; (case hd | hg => rfl); (case hr => first | (go_simp; done) | (go_simp; rfl)); intro gb204 hg w93 hbox hb; have n0_ := Aside0.mk (Kd.S_below (Kd.S_elderB (by (with_reducible repeat (first | apply Kd.S_alloc | apply Kd.S_drewN | apply Kd.S_drew)); exact HO_5.out) gb204 (Nat.le_of_eq hg.symm)) hb); have n1_ := Aside0.mk (Kd.R_below (by (with_reducible repeat (first | apply Kd.R_alloc | apply Kd.R_drewN | apply Kd.R_drew)); exact HO_166000.out) hb); have n2_ := Aside0.mk (Kd.R_below (by (with_reducible repeat (first | apply Kd.R_alloc | apply Kd.R_drewN | apply Kd.R_drew)); exact HO202.out) hb); have n3_ := Aside0.mk (blk_below BK165.out hb); have n4_ := Aside0.mk (blk_below BK167.out hb); have n5_ := Aside0.mk (blk_below BK168.out hb); have n6_ := Aside0.mk (below_step HB.out hb); have n7_ := Aside0.mk (hbox); have n8_ := Aside0.mk ((by rw [hg]; exact (below_size HB.out) : w.heap.size ≤ gb204)); have n9_ := Aside0.mk ((by rw [hg]; exact (below_size HB.out) : w.heap.size ≤ gb204)); have n10_ := Aside0.mk ((by rw [hg]; exact Nat.ne_of_lt (blk_lt BK165.out) : gb165 ≠ gb204)); have n11_ := Aside0.mk ((by rw [hg]; exact Nat.ne_of_gt (blk_lt BK165.out) : gb204 ≠ gb165)); have n12_ := Aside0.mk ((by rw [hg]; exact Nat.ne_of_lt (blk_lt BK167.out) : gb167 ≠ gb204)); have n13_ := Aside0.mk ((by rw [hg]; exact Nat.ne_of_gt (blk_lt BK167.out) : gb204 ≠ gb167)); have n14_ := Aside0.mk ((by rw [hg]; exact Nat.ne_of_lt (blk_lt BK168.out) : gb168 ≠ gb204)); have n15_ := Aside0.mk ((by rw [hg]; exact Nat.ne_of_gt (blk_lt BK168.out) : gb204 ≠ gb168)); clear HO_5; clear HO_166000; clear HO202; clear BK165; clear BK167; clear BK168; clear HB; have HO_5 := n0_; have HO_166000 := n1_; have HO202 := n2_; have BK165 := n3_; have BK167 := n4_; have BK168 := n5_; have HB := n6_; have BK204 := n7_; have GW204 := n8_; have GE204 := n9_; have NB165_204 := n10_; have NB204_165 := n11_; have NB167_204 := n12_; have NB204_167 := n13_; have NB168_204 := n14_; have NB204_168 := n15_; clear n0_ n1_ n2_ n3_ n4_ n5_ n6_ n7_ n8_ n9_ n10_ n11_ n12_ n13_ n14_ n15_; clear hb hbox hg; obtain ⟨Ao94, co94, eo94⟩ := Kd.R_slice HO202.out; subst eo94) | ((with_reducible refine gate_store (t := 40) (p := 7) rfl ?_); refine store_row (t := 40) (p := 7) (v := ?vo_w95) ?hgd ?ho ?hN gb204 0 #[.int .i64 0, .int .i64 0, .int .i64 0, .slice none 0 0] [.int .i64 t197, .int .i64 t198, .int .i64 t199, .slice Ao94 t200.length co94] #[.int .i64 t197, .int .i64 t198, .int .i64 t199, .slice Ao94 t200.length co94] ?hx ?hy BK204.out szi40 (Nat.le_of_ble_eq_true rfl) ?h1 ?hnew ?_; (case ho | hgd | hN | hx => rfl); (case hy => first | rfl | (go_simp; done) | (go_simp; rfl)); (case h1 | hnew => rfl); intro w95 hbox hg; replace HO_5 := Aside0.mk (Kd.S_grown HO_5.out hg (fun k_ hk e_ => (hk.2) (Option.some.inj e_))); replace HO_166000 := Aside0.mk (Kd.R_mono (Kd.R_grown (Kd.R_types HO_166000.out BK204.out (by decide)) hg (fun k_ hk e_ => hk.2 (Option.some.inj e_))) (fun k_ hk => hk.1)); replace HO202 := Aside0.mk (Kd.R_mono (Kd.R_grown (Kd.R_types HO202.out BK204.out (by decide)) hg (fun k_ hk e_ => hk.2 (Option.some.inj e_))) (fun k_ hk => hk.1)); replace BK165 := Aside0.mk (blk_grown BK165.out hg (nbi NB165_204)); replace BK167 := Aside0.mk (blk_grown BK167.out hg (nbi NB167_204)); replace BK168 := Aside0.mk (blk_grown BK168.out hg (nbi NB168_204)); replace HB := Aside0.mk (pw_below_grown HB.out (some gb204) (below_size HB.out) hg (fun k_ e_ => by cases e_; exact GE204.out)); replace BK204 := Aside0.mk (hbox); clear hbox hg))
          have H := HC85.out
          clear HC85
          by_cases c96 : t203 = 0
          ·rw [if_pos c96] at H
           have c96b0 : (t203 == 0) = true := beq_iff_eq.mpr c96
           have c96b1 : (t203 != 0) = false := bne_eq_false_iff_eq.mpr c96
           clear c96
           (first | rw [c96b0] | (simp only [i64_w, i32_w]; rw [c96b0]) | skip)
           by_cases c97 : x5_1.length < 2932031007402
           ·rw [if_pos c97] at H
            have LMc97 := Aside0.mk c97
            clear c97
            obtain ⟨y207, hy207⟩ : ∃ y_ : List (S40), y_ = (x5_1 ++ [(⟨t197, t198, t199, t200⟩ : S40)]) := ⟨_, rfl⟩
            replace H : (bus_Decode.l0 k1 y207 l0 (l0.length : Int) (wrap64 (x12_1 + 1)) ([] : List Int) false false true x166004_1) = some (r1, r2) := by first | (rw [hy207]; with_reducible exact H) | (have H2_ := (Option.bind_some _ _).symm.trans H; rw [hy207]; with_reducible exact H2_) | (have H2_ := (Option.bind_some _ _).symm.trans H; with_reducible exact H2_) | with_reducible exact H | (rw [hy207]; exact H) | exact H
            have Ny207 := Aside0.mk hy207
            clear hy207
            have H' := Aside0.mk H
            clear H
            have hcz98_0 := tch4 BK204.out
            try go_wp2_with (first | ((with_reducible refine gate_store (t := 40) (p := 2) rfl ?_); refine store_row (t := 40) (p := 2) (v := ?vo_w99) ?hgd ?ho ?hN gb168 0 #[.int .i64 0, .int .i64 0, .int .i64 0, .slice none 0 0] [.int .i64 t197, .int .i64 t198, .int .i64 t199, .slice Ao94 t200.length co94] #[.int .i64 t197, .int .i64 t198, .int .i64 t199, .slice Ao94 t200.length co94] ?hx ?hy BK168.out szi40 (Nat.le_of_ble_eq_true rfl) ?h1 ?hnew ?_; (case ho | hgd | hN | hx => rfl); (case hy => first | rfl | (go_simp; done) | (go_simp; rfl)); (case h1 | hnew => rfl); intro w99 hbox hg; replace HO_5 := Aside0.mk (Kd.S_grown HO_5.out hg (fun k_ hk e_ => (hk.1.1.2) (Option.some.inj e_))); replace HO_166000 := Aside0.mk (Kd.R_mono (Kd.R_grown (Kd.R_types HO_166000.out BK168.out (by decide)) hg (fun k_ hk e_ => hk.2 (Option.some.inj e_))) (fun k_ hk => hk.1)); replace HO202 := Aside0.mk (Kd.R_mono (Kd.R_grown (Kd.R_types HO202.out BK168.out (by decide)) hg (fun k_ hk e_ => hk.2 (Option.some.inj e_))) (fun k_ hk => hk.1)); replace BK165 := Aside0.mk (blk_grown BK165.out hg (nbi NB165_168)); replace BK167 := Aside0.mk (blk_grown BK167.out hg (nbi NB167_168)); replace BK204 := Aside0.mk (blk_grown BK204.out hg (nbi NB204_168)); replace HB := Aside0.mk (pw_below_grown HB.out (some gb168) (below_size HB.out) hg (fun k_ e_ => by cases e_; exact GE168.out)); replace BK168 := Aside0.mk (hbox); clear hbox hg))
            (try simp only [Exit.inBlock, Exit.then])
            refine bodyPost_ret (results_ct rfl _ _ gb168 40 #[.int .i64 t197, .int .i64 t198, .int .i64 t199, .slice Ao94 t200.length co94] (0, 0) _ rfl BK168.out Try.underlying40 rfl (by kernel_rfl)) rfl ?_
            try go_wp2_with (first | ((with_reducible refine gate_store (t := 40) (p := 4) rfl ?_); refine store_row (t := 40) (p := 4) (v := ?vo_w100) ?hgd ?ho ?hN gb167 0 #[.int .i64 0, .int .i64 0, .int .i64 0, .slice none 0 0] [.int .i64 t197, .int .i64 t198, .int .i64 t199, .slice Ao94 t200.length co94] #[.int .i64 t197, .int .i64 t198, .int .i64 t199, .slice Ao94 t200.length co94] ?hx ?hy BK167.out szi40 (Nat.le_of_ble_eq_true rfl) ?h1 ?hnew ?_; (case ho | hgd | hN | hx => rfl); (case hy => first | rfl | (go_simp; done) | (go_simp; rfl)); (case h1 | hnew => rfl); intro w100 hbox hg; replace HO_5 := Aside0.mk (Kd.S_grown HO_5.out hg (fun k_ hk e_ => (hk.1.1.1.2) (Option.some.inj e_))); replace HO_166000 := Aside0.mk (Kd.R_mono (Kd.R_grown (Kd.R_types HO_166000.out BK167.out (by decide)) hg (fun k_ hk e_ => hk.2 (Option.some.inj e_))) (fun k_ hk => hk.1)); replace HO202 := Aside0.mk (Kd.R_mono (Kd.R_grown (Kd.R_types HO202.out BK167.out (by decide)) hg (fun k_ hk e_ => hk.2 (Option.some.inj e_))) (fun k_ hk => hk.1)); replace BK165 := Aside0.mk (blk_grown BK165.out hg (nbi NB165_167)); replace BK168 := Aside0.mk (blk_grown BK168.out hg (nbi NB168_167)); replace BK204 := Aside0.mk (blk_grown BK204.out hg (nbi NB204_167)); replace HB := Aside0.mk (pw_below_grown HB.out (some gb167) (below_size HB.out) hg (fun k_ e_ => by cases e_; exact GE167.out)); replace BK167 := Aside0.mk (hbox); clear hbox hg))
            (try simp only [Exit.inBlock, Exit.then])
            refine bodyPost_ret (results_ct rfl _ _ gb167 40 #[.int .i64 t197, .int .i64 t198, .int .i64 t199, .slice Ao94 t200.length co94] (0, 0) _ rfl BK167.out Try.underlying40 rfl (by kernel_rfl)) rfl ?_
            try go_wp2_with (first | ((with_reducible refine gate_dst (N := 8) rfl ?_); refine box_event ?hg (N := 8) ?hd (cs := #[.int .i64 0, .int .i64 0, .int .i64 0, .slice none 0 0]) (t := 40) ?hr ?_; (case hd | hg => rfl); (case hr => first | (go_simp; done) | (go_simp; rfl)); intro gb206 hg w101 hbox hb; have n0_ := Aside0.mk (Kd.S_below (Kd.S_elderB (by (with_reducible repeat (first | apply Kd.S_alloc | apply Kd.S_drewN | apply Kd.S_drew)); exact HO_5.out) gb206 (Nat.le_of_eq hg.symm)) hb); have n1_ := Aside0.mk (Kd.R_below (by (with_reducible repeat (first | apply Kd.R_alloc | apply Kd.R_drewN | apply Kd.R_drew)); exact HO_166000.out) hb); have n2_ := Aside0.mk (Kd.R_below (by (with_reducible repeat (first | apply Kd.R_alloc | apply Kd.R_drewN | apply Kd.R_drew)); exact HO202.out) hb); have n3_ := Aside0.mk (blk_below BK165.out hb); have n4_ := Aside0.mk (blk_below BK167.out hb); have n5_ := Aside0.mk (blk_below BK168.out hb); have n6_ := Aside0.mk (blk_below BK204.out hb); have n7_ := Aside0.mk (below_step HB.out hb); have n8_ := Aside0.mk (hbox); have n9_ := Aside0.mk ((by rw [hg]; exact (below_size HB.out) : w.heap.size ≤ gb206)); have n10_ := Aside0.mk ((by rw [hg]; exact (below_size HB.out) : w.heap.size ≤ gb206)); have n11_ := Aside0.mk ((by rw [hg]; exact Nat.ne_of_lt (blk_lt BK165.out) : gb165 ≠ gb206)); have n12_ := Aside0.mk ((by rw [hg]; exact Nat.ne_of_lt (blk_lt BK167.out) : gb167 ≠ gb206)); have n13_ := Aside0.mk ((by rw [hg]; exact Nat.ne_of_lt (blk_lt BK168.out) : gb168 ≠ gb206)); have n14_ := Aside0.mk ((by rw [hg]; exact Nat.ne_of_lt (blk_lt BK204.out) : gb204 ≠ gb206)); clear HO_5; clear HO_166000; clear HO202; clear BK165; clear BK167; clear BK168; clear BK204; clear HB; have HO_5 := n0_; have HO_166000 := n1_; have HO202 := n2_; have BK165 := n3_; have BK167 := n4_; have BK168 := n5_; have BK204 := n6_; have HB := n7_; have BK206 := n8_; have GW206 := n9_; have GE206 := n10_; have NB165_206 := n11_; have NB167_206 := n12_; have NB168_206 := n13_; have NB204_206 := n14_; clear n0_ n1_ n2_ n3_ n4_ n5_ n6_ n7_ n8_ n9_ n10_ n11_ n12_ n13_ n14_; clear hb hbox hg) | ((with_reducible refine gate_store (t := 40) (p := 8) rfl ?_); refine store_row (t := 40) (p := 8) (v := ?vo_w102) ?hgd ?ho ?hN gb206 0 #[.int .i64 0, .int .i64 0, .int .i64 0, .slice none 0 0] [.int .i64 t197, .int .i64 t198, .int .i64 t199, .slice Ao94 t200.length co94] #[.int .i64 t197, .int .i64 t198, .int .i64 t199, .slice Ao94 t200.length co94] ?hx ?hy BK206.out szi40 (Nat.le_of_ble_eq_true rfl) ?h1 ?hnew ?_; (case ho | hgd | hN | hx => rfl); (case hy => first | rfl | (go_simp; done) | (go_simp; rfl)); (case h1 | hnew => rfl); intro w102 hbox hg; replace HO_5 := Aside0.mk (Kd.S_grown HO_5.out hg (fun k_ hk e_ => (hk.2) (Option.some.inj e_))); replace HO_166000 := Aside0.mk (Kd.R_mono (Kd.R_grown (Kd.R_types HO_166000.out BK206.out (by decide)) hg (fun k_ hk e_ => hk.2 (Option.some.inj e_))) (fun k_ hk => hk.1)); replace HO202 := Aside0.mk (Kd.R_mono (Kd.R_grown (Kd.R_types HO202.out BK206.out (by decide)) hg (fun k_ hk e_ => hk.2 (Option.some.inj e_))) (fun k_ hk => hk.1)); replace BK165 := Aside0.mk (blk_grown BK165.out hg (nbi NB165_206)); replace BK167 := Aside0.mk (blk_grown BK167.out hg (nbi NB167_206)); replace BK168 := Aside0.mk (blk_grown BK168.out hg (nbi NB168_206)); replace BK204 := Aside0.mk (blk_grown BK204.out hg (nbi NB204_206)); replace HB := Aside0.mk (pw_below_grown HB.out (some gb206) (below_size HB.out) hg (fun k_ e_ => by cases e_; exact GE206.out)); replace BK206 := Aside0.mk (hbox); clear hbox hg; have hcz103_0 := tch4 BK206.out) | ((with_reducible refine gate_builtin (b := .append) (xs := #[.tmp 22, .tmp 24]) rfl ?_); at_builtin; refine Kd.S_append k40 (w0 := w) w.heap.size rfl (.tmp 22) (.tmp 24) 45 40 (.agg #[(.int .i64 0), (.int .i64 0), (.int .i64 0), (.slice none 0 0)]) 48 rfl Try.underlying45 info40 rfl (by decide) (by omega) u5 x5_1 (⟨t197, t198, t199, t200⟩ : S40) [.int .i64 t197, .int .i64 t198, .int .i64 t199, .slice Ao94 t200.length co94] (fun k_ => some k_ ≠ (.slice Ao89 x166000_1.length co89 : Value).ownBlock ∧ k_ ≠ gb167 ∧ k_ ≠ gb168 ∧ k_ ≠ gb204 ∧ k_ ≠ gb206) (fun k_ => some k_ = (.slice Ao94 t200.length co94 : Value).ownBlock) rfl rfl ?aP (fun k_ hk_ => ((Kd.R_mono (ok' := fun k_ => ((fun k_ => some k_ ≠ (.slice Ao89 x166000_1.length co89 : Value).ownBlock ∧ k_ ≠ gb167 ∧ k_ ≠ gb168 ∧ k_ ≠ gb204 ∧ k_ ≠ gb206)) k_ ∧ some k_ ≠ (u5 : Value).ownBlock) (Kd.R_types (Kd.R_types (Kd.R_types (Kd.R_types (Kd.R_apart' (HO202.out) (Kd.S_typed HO_5.out) (by decide)) BK167.out (by decide)) BK168.out (by decide)) BK204.out (by decide)) BK206.out (by decide)) (fun k_ hk => ⟨⟨hk.1.1.1.1.1.2, ⟨hk.1.1.1.2, ⟨hk.1.1.2, ⟨hk.1.2, hk.2⟩⟩⟩⟩, hk.1.1.1.1.2⟩))).1 k_ hk_.symm) ?aF ?aO ?aB ?aS ?aL ?_; (case aP => exact k40_mkM _ _ _ (⟨t197, t198, t199, t200⟩ : S40) (Kd.R_mono (Kd.R_tight rfl (Kd.R_mono (ok' := fun k_ => ((fun k_ => some k_ ≠ (.slice Ao89 x166000_1.length co89 : Value).ownBlock ∧ k_ ≠ gb167 ∧ k_ ≠ gb168 ∧ k_ ≠ gb204 ∧ k_ ≠ gb206)) k_ ∧ some k_ ≠ (u5 : Value).ownBlock) (Kd.R_types (Kd.R_types (Kd.R_types (Kd.R_types (Kd.R_apart' (HO202.out) (Kd.S_typed HO_5.out) (by decide)) BK167.out (by decide)) BK168.out (by decide)) BK204.out (by decide)) BK206.out (by decide)) (fun k_ hk => ⟨⟨hk.1.1.1.1.1.2, ⟨hk.1.1.1.2, ⟨hk.1.1.2, ⟨hk.1.2, hk.2⟩⟩⟩⟩, hk.1.1.1.1.2⟩))) (fun _ h_ => h_))); (case aB => exact HB.out); (case aF => exact (fun k_ hk => ⟨Kd.fresh' (Kd.R_lt (by (with_reducible repeat (first | apply Kd.R_alloc | apply Kd.R_drewN | apply Kd.R_drew)); exact HO_166000.out)) k_ hk, Kd.freshB BK167.out k_ hk, Kd.freshB BK168.out k_ hk, Kd.freshB BK204.out k_ hk, Kd.freshB BK206.out k_ hk⟩)); (case aO => exact (by (with_reducible repeat (first | apply Kd.S_alloc | apply Kd.S_drewN | apply Kd.S_drew)); exact Kd.S_mono HO_5.out (fun k_ hk => ⟨⟨hk.1.1.1.1.1, ⟨hk.1.1.1.1.2, ⟨hk.1.1.1.2, ⟨hk.1.2, hk.2⟩⟩⟩⟩, fun e_ => hk.1.1.2 e_⟩))); (case aS => exact (below_size HB.out)); (case aL => have := LMc97.out; omega); intro v208 w104 ho hb hg hat; rw [← Ny207.out] at ho; replace HO_166000 := Aside0.mk (Kd.R_over' (by (with_reducible repeat (first | apply Kd.R_alloc | apply Kd.R_drewN | apply Kd.R_drew)); exact HO_166000.out) (Kd.S_typed (by (with_reducible repeat (first | apply Kd.S_alloc | apply Kd.S_drewN | apply Kd.S_drew)); exact HO_5.out)) (by decide) hg); replace BK165 := Aside0.mk (blk_grown BK165.out hg (Kd.S_ne HO_5.out BK165.out (by decide))); replace BK167 := Aside0.mk (blk_grown BK167.out hg (Kd.S_away HO_5.out (fun _ hk => hk.1.1.1.1.2))); replace BK168 := Aside0.mk (blk_grown BK168.out hg (Kd.S_away HO_5.out (fun _ hk => hk.1.1.1.2))); replace BK204 := Aside0.mk (blk_grown BK204.out hg (Kd.S_away HO_5.out (fun _ hk => hk.1.2))); replace BK206 := Aside0.mk (blk_grown BK206.out hg (Kd.S_away HO_5.out (fun _ hk => hk.2))); replace HB := Aside0.mk (hb); have HO209 := Aside0.mk (ho); clear HO202 HO_5; clear ho hb hg hat))
            go_roundg k1
            case measure => have := HK1.out; omega
            case rel => exact ⟨(y207), (wrap64 (x12_1 + 1)), (([] : List Int)), (false), (false), (true), (x166004_1), (.slice none 0 0), (by first | rfl | (simp; done) | (simp [*]; done)), H', ⟨by have := HK1.out; omega⟩, ⟨by (with_reducible repeat (first | apply Kd.S_alloc | apply Kd.S_drewN | apply Kd.S_drew)); exact Kd.S_mono HO209.out (fun _ hk => (by simp [Value.ownBlock]))⟩, ⟨by first | exact Kd.R_nil _ _ _ _ _ | exact Kd.N_nil _ _ _ _ _ | exact Kd.V_nil _ _ _ _ _ | exact Kd.Q_nil _ _ _ _ _ | exact Kd.S_nil _ _ _ _ _⟩, ⟨by exact BK165.out⟩, ⟨by exact HB.out⟩⟩
           ·rw [if_neg c97] at H
            exact absurd H (by simp)
          ·rw [if_neg c96] at H
           have c96b0 : (t203 == 0) = false := beq_eq_false_iff_ne.mpr c96
           have c96b1 : (t203 != 0) = true := bne_iff_ne.mpr c96
           (first | rw [c96b0] | (simp only [i64_w, i32_w]; rw [c96b0]) | skip)
           have H' := Aside0.mk H
           clear H
           have hcz105_0 := tch5 BK165.out
           try go_wp2_with (first | ((with_reducible refine gate_store (t := 3) (p := 58) rfl ?_); refine store_row (t := 3) (p := 58) (v := ?vo_w106) ?hgd ?ho ?hN gb165 4 #[.slice none 0 0, .bool false, .bool false, .bool true, .int .i64 x166004_1] [.int .i64 (wrap64 (x166004_1 + 1))] #[.slice none 0 0, .bool false, .bool false, .bool true, .int .i64 (wrap64 (x166004_1 + 1))] ?hx ?hy BK165.out szi3 (Nat.le_of_ble_eq_true rfl) ?h1 ?hnew ?_; (case ho | hgd | hN | hx => rfl); (case hy => first | rfl | (go_simp; done) | (go_simp; rfl)); (case h1 | hnew => rfl); intro w106 hbox hg; replace HO_5 := Aside0.mk (Kd.S_mono (Kd.S_grown (Kd.S_types HO_5.out BK165.out (by decide)) hg (fun k_ hk e_ => hk.2 (Option.some.inj e_))) (fun k_ hk => hk.1)); replace HO_166000 := Aside0.mk (Kd.R_mono (Kd.R_grown (Kd.R_types HO_166000.out BK165.out (by decide)) hg (fun k_ hk e_ => hk.2 (Option.some.inj e_))) (fun k_ hk => hk.1)); replace HO202 := Aside0.mk (Kd.R_mono (Kd.R_grown (Kd.R_types HO202.out BK165.out (by decide)) hg (fun k_ hk e_ => hk.2 (Option.some.inj e_))) (fun k_ hk => hk.1)); replace BK167 := Aside0.mk (blk_grown BK167.out hg (nbi NB167_165)); replace BK168 := Aside0.mk (blk_grown BK168.out hg (nbi NB168_165)); replace BK204 := Aside0.mk (blk_grown BK204.out hg (nbi NB204_165)); replace HB := Aside0.mk (pw_below_grown HB.out (some gb165) (below_size HB.out) hg (fun k_ e_ => by cases e_; exact GE165.out)); replace BK165 := Aside0.mk (hbox); clear hbox hg) | ((with_reducible refine gate_store (t := 40) (p := 2) rfl ?_); refine store_row (t := 40) (p := 2) (v := ?vo_w107) ?hgd ?ho ?hN gb168 0 #[.int .i64 0, .int .i64 0, .int .i64 0, .slice none 0 0] [.int .i64 0, .int .i64 0, .int .i64 0, .slice none 0 0] #[.int .i64 0, .int .i64 0, .int .i64 0, .slice none 0 0] ?hx ?hy BK168.out szi40 (Nat.le_of_ble_eq_true rfl) ?h1 ?hnew ?_; (case ho | hgd | hN | hx => rfl); (case hy => first | rfl | (go_simp; done) | (go_simp; rfl)); (case h1 | hnew => rfl); intro w107 hbox hg; replace HO_5 := Aside0.mk (Kd.S_grown HO_5.out hg (fun k_ hk e_ => (hk.1.1.2) (Option.some.inj e_))); replace HO_166000 := Aside0.mk (Kd.R_mono (Kd.R_grown (Kd.R_types HO_166000.out BK168.out (by decide)) hg (fun k_ hk e_ => hk.2 (Option.some.inj e_))) (fun k_ hk => hk.1)); replace HO202 := Aside0.mk (Kd.R_mono (Kd.R_grown (Kd.R_types HO202.out BK168.out (by decide)) hg (fun k_ hk e_ => hk.2 (Option.some.inj e_))) (fun k_ hk => hk.1)); replace BK165 := Aside0.mk (blk_grown BK165.out hg (nbi NB165_168)); replace BK167 := Aside0.mk (blk_grown BK167.out hg (nbi NB167_168)); replace BK204 := Aside0.mk (blk_grown BK204.out hg (nbi NB204_168)); replace HB := Aside0.mk (pw_below_grown HB.out (some gb168) (below_size HB.out) hg (fun k_ e_ => by cases e_; exact GE168.out)); replace BK168 := Aside0.mk (hbox); clear hbox hg))
           (try simp only [Exit.inBlock, Exit.then])
           refine bodyPost_ret (results_ct rfl _ _ gb168 40 #[.int .i64 0, .int .i64 0, .int .i64 0, .slice none 0 0] (0, 0) _ rfl BK168.out Try.underlying40 rfl (by kernel_rfl)) rfl ?_
           try go_wp2_with (first | ((with_reducible refine gate_store (t := 40) (p := 4) rfl ?_); refine store_row (t := 40) (p := 4) (v := ?vo_w108) ?hgd ?ho ?hN gb167 0 #[.int .i64 0, .int .i64 0, .int .i64 0, .slice none 0 0] [.int .i64 0, .int .i64 0, .int .i64 0, .slice none 0 0] #[.int .i64 0, .int .i64 0, .int .i64 0, .slice none 0 0] ?hx ?hy BK167.out szi40 (Nat.le_of_ble_eq_true rfl) ?h1 ?hnew ?_; (case ho | hgd | hN | hx => rfl); (case hy => first | rfl | (go_simp; done) | (go_simp; rfl)); (case h1 | hnew => rfl); intro w108 hbox hg; replace HO_5 := Aside0.mk (Kd.S_grown HO_5.out hg (fun k_ hk e_ => (hk.1.1.1.2) (Option.some.inj e_))); replace HO_166000 := Aside0.mk (Kd.R_mono (Kd.R_grown (Kd.R_types HO_166000.out BK167.out (by decide)) hg (fun k_ hk e_ => hk.2 (Option.some.inj e_))) (fun k_ hk => hk.1)); replace HO202 := Aside0.mk (Kd.R_mono (Kd.R_grown (Kd.R_types HO202.out BK167.out (by decide)) hg (fun k_ hk e_ => hk.2 (Option.some.inj e_))) (fun k_ hk => hk.1)); replace BK165 := Aside0.mk (blk_grown BK165.out hg (nbi NB165_167)); replace BK168 := Aside0.mk (blk_grown BK168.out hg (nbi NB168_167)); replace BK204 := Aside0.mk (blk_grown BK204.out hg (nbi NB204_167)); replace HB := Aside0.mk (pw_below_grown HB.out (some gb167) (below_size HB.out) hg (fun k_ e_ => by cases e_; exact GE167.out)); replace BK167 := Aside0.mk (hbox); clear hbox hg))
           (try simp only [Exit.inBlock, Exit.then])
           refine bodyPost_ret (results_ct rfl _ _ gb167 40 #[.int .i64 0, .int .i64 0, .int .i64 0, .slice none 0 0] (0, 0) _ rfl BK167.out Try.underlying40 rfl (by kernel_rfl)) rfl ?_
           try go_wp2_with (first | ((with_reducible refine gate_dst (N := 8) rfl ?_); refine box_event ?hg (N := 8) ?hd (cs := #[.int .i64 0, .int .i64 0, .int .i64 0, .slice none 0 0]) (t := 40) ?hr ?_; (case hd | hg => rfl); (case hr => first | (go_simp; done) | (go_simp; rfl)); intro gb210 hg w109 hbox hb; have n0_ := Aside0.mk (Kd.S_below (Kd.S_elderB (by (with_reducible repeat (first | apply Kd.S_alloc | apply Kd.S_drewN | apply Kd.S_drew)); exact HO_5.out) gb210 (Nat.le_of_eq hg.symm)) hb); have n1_ := Aside0.mk (Kd.R_below (by (with_reducible repeat (first | apply Kd.R_alloc | apply Kd.R_drewN | apply Kd.R_drew)); exact HO_166000.out) hb); have n2_ := Aside0.mk (Kd.R_below (by (with_reducible repeat (first | apply Kd.R_alloc | apply Kd.R_drewN | apply Kd.R_drew)); exact HO202.out) hb); have n3_ := Aside0.mk (blk_below BK165.out hb); have n4_ := Aside0.mk (blk_below BK167.out hb); have n5_ := Aside0.mk (blk_below BK168.out hb); have n6_ := Aside0.mk (blk_below BK204.out hb); have n7_ := Aside0.mk (below_step HB.out hb); have n8_ := Aside0.mk (hbox); have n9_ := Aside0.mk ((by rw [hg]; exact (below_size HB.out) : w.heap.size ≤ gb210)); have n10_ := Aside0.mk ((by rw [hg]; exact (below_size HB.out) : w.heap.size ≤ gb210)); have n11_ := Aside0.mk ((by rw [hg]; exact Nat.ne_of_lt (blk_lt BK165.out) : gb165 ≠ gb210)); have n12_ := Aside0.mk ((by rw [hg]; exact Nat.ne_of_lt (blk_lt BK167.out) : gb167 ≠ gb210)); have n13_ := Aside0.mk ((by rw [hg]; exact Nat.ne_of_lt (blk_lt BK168.out) : gb168 ≠ gb210)); have n14_ := Aside0.mk ((by rw [hg]; exact Nat.ne_of_lt (blk_lt BK204.out) : gb204 ≠ gb210)); clear HO_5; clear HO_166000; clear HO202; clear BK165; clear BK167; clear BK168; clear BK204; clear HB; have HO_5 := n0_; have HO_166000 := n1_; have HO202 := n2_; have BK165 := n3_; have BK167 := n4_; have BK168 := n5_; have BK204 := n6_; have HB := n7_; have BK210 := n8_; have GW210 := n9_; have GE210 := n10_; have NB165_210 := n11_; have NB167_210 := n12_; have NB168_210 := n13_; have NB204_210 := n14_; clear n0_ n1_ n2_ n3_ n4_ n5_ n6_ n7_ n8_ n9_ n10_ n11_ n12_ n13_ n14_; clear hb hbox hg) | ((with_reducible refine gate_store (t := 40) (p := 8) rfl ?_); refine store_row (t := 40) (p := 8) (v := ?vo_w110) ?hgd ?ho ?hN gb210 0 #[.int .i64 0, .int .i64 0, .int .i64 0, .slice none 0 0] [.int .i64 0, .int .i64 0, .int .i64 0, .slice none 0 0] #[.int .i64 0, .int .i64 0, .int .i64 0, .slice none 0 0] ?hx ?hy BK210.out szi40 (Nat.le_of_ble_eq_true rfl) ?h1 ?hnew ?_; (case ho | hgd | hN | hx => rfl); (case hy => first | rfl | (go_simp; done) | (go_simp; rfl)); (case h1 | hnew => rfl); intro w110 hbox hg; replace HO_5 := Aside0.mk (Kd.S_grown HO_5.out hg (fun k_ hk e_ => (hk.2) (Option.some.inj e_))); replace HO_166000 := Aside0.mk (Kd.R_mono (Kd.R_grown (Kd.R_types HO_166000.out BK210.out (by decide)) hg (fun k_ hk e_ => hk.2 (Option.some.inj e_))) (fun k_ hk => hk.1)); replace HO202 := Aside0.mk (Kd.R_mono (Kd.R_grown (Kd.R_types HO202.out BK210.out (by decide)) hg (fun k_ hk e_ => hk.2 (Option.some.inj e_))) (fun k_ hk => hk.1)); replace BK165 := Aside0.mk (blk_grown BK165.out hg (nbi NB165_210)); replace BK167 := Aside0.mk (blk_grown BK167.out hg (nbi NB167_210)); replace BK168 := Aside0.mk (blk_grown BK168.out hg (nbi NB168_210)); replace BK204 := Aside0.mk (blk_grown BK204.out hg (nbi NB204_210)); replace HB := Aside0.mk (pw_below_grown HB.out (some gb210) (below_size HB.out) hg (fun k_ e_ => by cases e_; exact GE210.out)); replace BK210 := Aside0.mk (hbox); clear hbox hg))
           go_roundg k1
           case measure => have := HK1.out; omega
           case rel => exact ⟨(x5_1), (wrap64 (x12_1 + 1)), (([] : List Int)), (false), (false), (true), (wrap64 (x166004_1 + 1)), (.slice none 0 0), (by first | rfl | (simp; done) | (simp [*]; done)), H', ⟨by have := HK1.out; omega⟩, ⟨by (with_reducible repeat (first | apply Kd.S_alloc | apply Kd.S_drewN | apply Kd.S_drew)); exact Kd.S_mono HO_5.out (fun _ hk => (by simp [Value.ownBlock]))⟩, ⟨by first | exact Kd.R_nil _ _ _ _ _ | exact Kd.N_nil _ _ _ _ _ | exact Kd.V_nil _ _ _ _ _ | exact Kd.Q_nil _ _ _ _ _ | exact Kd.S_nil _ _ _ _ _⟩, ⟨by exact BK165.out⟩, ⟨by exact HB.out⟩⟩
      ·rw [if_neg c6] at H
       have c6b0 : ((rd l0 x12_1) == 126) = false := beq_eq_false_iff_ne.mpr c6
       have c6b1 : ((rd l0 x12_1) != 126) = true := bne_iff_ne.mpr c6
       by_cases c111 : x166002_1 = true
       ·subst c111
        have H1 : (bus_Decode.l0 k1 x5_1 l0 (l0.length : Int) (wrap64 (x12_1 + 1)) x166000_1 x166001_1 true x166003_1 x166004_1) = some (r1, r2) := by rw [if_pos rfl] at H; exact H
        clear H
        have H := H1
        clear H1
        have H' := Aside0.mk H
        clear H
        have p166 : 0 ≤ (x12_1 : Int) := of_decide_eq_true (by first | (with_reducible assumption) | assumption)
        have q166 : x12_1 < (l0.length : Int) := of_decide_eq_true (by first | (with_reducible assumption) | assumption)
        obtain ⟨ad166, e166, hx166_0⟩ := Kd.at_int HR0.out x12_1 p166 q166
        cases e166
        replace hx166_0 := (HB.out.cell (World.block_lt_of_cell? w _ hx166_0)).trans hx166_0
        replace p166 := eq_true p166
        replace q166 := eq_true q166
        try go_wp2_with (first | (go_at_call 42; go_enter Try.func42, Try.ntmps42) | ((with_reducible refine gate_dst (N := 4) rfl ?_); refine box_event ?hg (N := 4) ?hd (cs := #[.int .i64 0, .int .i64 0, .int .i64 0, .slice none 0 0]) (t := 40) ?hr ?_; (case hd | hg => rfl); (case hr => first | (go_simp; done) | (go_simp; rfl)); intro gb167 hg w112 hbox hb; have n0_ := Aside0.mk (Kd.S_below (Kd.S_elderB (by (with_reducible repeat (first | apply Kd.S_alloc | apply Kd.S_drewN | apply Kd.S_drew)); exact HO_5.out) gb167 (Nat.le_of_eq hg.symm)) hb); have n1_ := Aside0.mk (Kd.R_below (by (with_reducible repeat (first | apply Kd.R_alloc | apply Kd.R_drewN | apply Kd.R_drew)); exact HO_166000.out) hb); have n2_ := Aside0.mk (blk_below BK165.out hb); have n3_ := Aside0.mk (below_step HB.out hb); have n4_ := Aside0.mk (hbox); have n5_ := Aside0.mk ((by rw [hg]; exact (below_size HB.out) : w.heap.size ≤ gb167)); have n6_ := Aside0.mk ((by rw [hg]; exact (below_size HB.out) : w.heap.size ≤ gb167)); have n7_ := Aside0.mk ((by rw [hg]; exact Nat.ne_of_lt (blk_lt BK165.out) : gb165 ≠ gb167)); have n8_ := Aside0.mk ((by rw [hg]; exact Nat.ne_of_gt (blk_lt BK165.out) : gb167 ≠ gb165)); clear HO_5; clear HO_166000; clear BK165; clear HB; have HO_5 := n0_; have HO_166000 := n1_; have BK165 := n2_; have HB := n3_; have BK167 := n4_; have GW167 := n5_; have GE167 := n6_; have NB165_167 := n7_; have NB167_165 := n8_; clear n0_ n1_ n2_ n3_ n4_ n5_ n6_ n7_ n8_; clear hb hbox hg; have hcz113_0 := tch5 BK165.out) | ((with_reducible refine gate_store (t := 40) (p := 4) rfl ?_); refine store_row (t := 40) (p := 4) (v := ?vo_w114) ?hgd ?ho ?hN gb167 0 #[.int .i64 0, .int .i64 0, .int .i64 0, .slice none 0 0] [.int .i64 0, .int .i64 0, .int .i64 0, .slice none 0 0] #[.int .i64 0, .int .i64 0, .int .i64 0, .slice none 0 0] ?hx ?hy BK167.out szi40 (Nat.le_of_ble_eq_true rfl) ?h1 ?hnew ?_; (case ho | hgd | hN | hx => rfl); (case hy => first | rfl | (go_simp; done) | (go_simp; rfl)); (case h1 | hnew => rfl); intro w114 hbox hg; replace HO_5 := Aside0.mk (Kd.S_grown HO_5.out hg (fun k_ hk e_ => (hk.2) (Option.some.inj e_))); replace HO_166000 := Aside0.mk (Kd.R_mono (Kd.R_grown (Kd.R_types HO_166000.out BK167.out (by decide)) hg (fun k_ hk e_ => hk.2 (Option.some.inj e_))) (fun k_ hk => hk.1)); replace BK165 := Aside0.mk (blk_grown BK165.out hg (nbi NB165_167)); replace HB := Aside0.mk (pw_below_grown HB.out (some gb167) (below_size HB.out) hg (fun k_ e_ => by cases e_; exact GE167.out)); replace BK167 := Aside0.mk (hbox); clear hbox hg))
        (try simp only [Exit.inBlock, Exit.then])
        refine bodyPost_ret (results_ct rfl _ _ gb167 40 #[.int .i64 0, .int .i64 0, .int .i64 0, .slice none 0 0] (0, 0) _ rfl BK167.out Try.underlying40 rfl (by kernel_rfl)) rfl ?_
        try go_wp2_with (first | ((with_reducible refine gate_dst (N := 8) rfl ?_); refine box_event ?hg (N := 8) ?hd (cs := #[.int .i64 0, .int .i64 0, .int .i64 0, .slice none 0 0]) (t := 40) ?hr ?_; (case hd | hg => rfl); (case hr => first | (go_simp; done) | (go_simp; rfl)); intro gb211 hg w115 hbox hb; have n0_ := Aside0.mk (Kd.S_below (Kd.S_elderB (by (with_reducible repeat (first | apply Kd.S_alloc | apply Kd.S_drewN | apply Kd.S_drew)); exact HO_5.out) gb211 (Nat.le_of_eq hg.symm)) hb); have n1_ := Aside0.mk (Kd.R_below (by (with_reducible repeat (first | apply Kd.R_alloc | apply Kd.R_drewN | apply Kd.R_drew)); exact HO_166000.out) hb); have n2_ := Aside0.mk (blk_below BK165.out hb); have n3_ := Aside0.mk (blk_below BK167.out hb); have n4_ := Aside0.mk (below_step HB.out hb); have n5_ := Aside0.mk (hbox); have n6_ := Aside0.mk ((by rw [hg]; exact (below_size HB.out) : w.heap.size ≤ gb211)); have n7_ := Aside0.mk ((by rw [hg]; exact (below_size HB.out) : w.heap.size ≤ gb211)); have n8_ := Aside0.mk ((by rw [hg]; exact Nat.ne_of_lt (blk_lt BK165.out) : gb165 ≠ gb211)); have n9_ := Aside0.mk ((by rw [hg]; exact Nat.ne_of_lt (blk_lt BK167.out) : gb167 ≠ gb211)); clear HO_5; clear HO_166000; clear BK165; clear BK167; clear HB; have HO_5 := n0_; have HO_166000 := n1_; have BK165 := n2_; have BK167 := n3_; have HB := n4_; have BK211 := n5_; have GW211 := n6_; have GE211 := n7_; have NB165_211 := n8_; have NB167_211 := n9_; clear n0_ n1_ n2_ n3_ n4_ n5_ n6_ n7_ n8_ n9_; clear hb hbox hg) | ((with_reducible refine gate_store (t := 40) (p := 8) rfl ?_); refine store_row (t := 40) (p := 8) (v := ?vo_w116) ?hgd ?ho ?hN gb211 0 #[.int .i64 0, .int .i64 0, .int .i64 0, .slice none 0 0] [.int .i64 0, .int .i64 0, .int .i64 0, .slice none 0 0] #[.int .i64 0, .int .i64 0, .int .i64 0, .slice none 0 0] ?hx ?hy BK211.out szi40 (Nat.le_of_ble_eq_true rfl) ?h1 ?hnew ?_; (case ho | hgd | hN | hx => rfl); (case hy => first | rfl | (go_simp; done) | (go_simp; rfl)); (case h1 | hnew => rfl); intro w116 hbox hg; replace HO_5 := Aside0.mk (Kd.S_grown HO_5.out hg (fun k_ hk e_ => (hk.2) (Option.some.inj e_))); replace HO_166000 := Aside0.mk (Kd.R_mono (Kd.R_grown (Kd.R_types HO_166000.out BK211.out (by decide)) hg (fun k_ hk e_ => hk.2 (Option.some.inj e_))) (fun k_ hk => hk.1)); replace BK165 := Aside0.mk (blk_grown BK165.out hg (nbi NB165_211)); replace BK167 := Aside0.mk (blk_grown BK167.out hg (nbi NB167_211)); replace HB := Aside0.mk (pw_below_grown HB.out (some gb211) (below_size HB.out) hg (fun k_ e_ => by cases e_; exact GE211.out)); replace BK211 := Aside0.mk (hbox); clear hbox hg))
        go_roundg k1
        case measure => have := HK1.out; omega
        case rel => exact ⟨(x5_1), (wrap64 (x12_1 + 1)), (x166000_1), (x166001_1), (true), (x166003_1), (x166004_1), (u166000), (by first | rfl | (simp; done) | (simp [*]; done)), H', ⟨by have := HK1.out; omega⟩, ⟨by (with_reducible repeat (first | apply Kd.S_alloc | apply Kd.S_drewN | apply Kd.S_drew)); exact Kd.S_mono HO_5.out (fun _ hk => hk.1.1)⟩, ⟨by (with_reducible repeat (first | apply Kd.R_alloc | apply Kd.R_drewN | apply Kd.R_drew)); exact HO_166000.out⟩, ⟨by exact BK165.out⟩, ⟨by exact HB.out⟩⟩
       ·replace c111 := Bool.eq_false_iff.mpr c111
        subst c111
        have H1 : (if x166003_1 = true then (if x166001_1 = true then (if (Go.bits .xor .u8 (rd l0 x12_1) 32) = 126 then (if (x166000_1.length : Int) = 21 then (bus_Decode.l0 k1 x5_1 l0 (l0.length : Int) (wrap64 (x12_1 + 1)) x166000_1 false true x166003_1 x166004_1) else (if x166000_1.length < 140737488355328 then (bus_Decode.l0 k1 x5_1 l0 (l0.length : Int) (wrap64 (x12_1 + 1)) (x166000_1 ++ [Go.bits .xor .u8 (rd l0 x12_1) 32]) false false x166003_1 x166004_1) else (none))) else (if (Go.bits .xor .u8 (rd l0 x12_1) 32) = 125 then (if (x166000_1.length : Int) = 21 then (bus_Decode.l0 k1 x5_1 l0 (l0.length : Int) (wrap64 (x12_1 + 1)) x166000_1 false true x166003_1 x166004_1) else (if x166000_1.length < 140737488355328 then (bus_Decode.l0 k1 x5_1 l0 (l0.length : Int) (wrap64 (x12_1 + 1)) (x166000_1 ++ [Go.bits .xor .u8 (rd l0 x12_1) 32]) false false x166003_1 x166004_1) else (none))) else (bus_Decode.l0 k1 x5_1 l0 (l0.length : Int) (wrap64 (x12_1 + 1)) x166000_1 false true x166003_1 x166004_1))) else (if (rd l0 x12_1) = 125 then (bus_Decode.l0 k1 x5_1 l0 (l0.length : Int) (wrap64 (x12_1 + 1)) x166000_1 true false x166003_1 x166004_1) else (if (x166000_1.length : Int) = 21 then (bus_Decode.l0 k1 x5_1 l0 (l0.length : Int) (wrap64 (x12_1 + 1)) x166000_1 x166001_1 true x166003_1 x166004_1) else (if x166000_1.length < 140737488355328 then (bus_Decode.l0 k1 x5_1 l0 (l0.length : Int) (wrap64 (x12_1 + 1)) (x166000_1 ++ [rd l0 x12_1]) x166001_1 false x166003_1 x166004_1) else (none))))) else (bus_Decode.l0 k1 x5_1 l0 (l0.length : Int) (wrap64 (x12_1 + 1)) x166000_1 x166001_1 false x166003_1 x166004_1)) = some (r1, r2) := by rw [if_neg (show ¬ (false = true) by decide)] at H; exact H
        clear H
        have H := H1
        clear H1
        by_cases c117 : x166003_1 = true
        ·subst c117
         have H1 : (if x166001_1 = true then (if (Go.bits .xor .u8 (rd l0 x12_1) 32) = 126 then (if (x166000_1.length : Int) = 21 then (bus_Decode.l0 k1 x5_1 l0 (l0.length : Int) (wrap64 (x12_1 + 1)) x166000_1 false true true x166004_1) else (if x166000_1.length < 140737488355328 then (bus_Decode.l0 k1 x5_1 l0 (l0.length : Int) (wrap64 (x12_1 + 1)) (x166000_1 ++ [Go.bits .xor .u8 (rd l0 x12_1) 32]) false false true x166004_1) else (none))) else (if (Go.bits .xor .u8 (rd l0 x12_1) 32) = 125 then (if (x166000_1.length : Int) = 21 then (bus_Decode.l0 k1 x5_1 l0 (l0.length : Int) (wrap64 (x12_1 + 1)) x166000_1 false true true x166004_1) else (if x166000_1.length < 140737488355328 then (bus_Decode.l0 k1 x5_1 l0 (l0.length : Int) (wrap64 (x12_1 + 1)) (x166000_1 ++ [Go.bits .xor .u8 (rd l0 x12_1) 32]) false false true x166004_1) else (none))) else (bus_Decode.l0 k1 x5_1 l0 (l0.length : Int) (wrap64 (x12_1 + 1)) x166000_1 false true true x166004_1))) else (if (rd l0 x12_1) = 125 then (bus_Decode.l0 k1 x5_1 l0 (l0.length : Int) (wrap64 (x12_1 + 1)) x166000_1 true false true x166004_1) else (if (x166000_1.length : Int) = 21 then (bus_Decode.l0 k1 x5_1 l0 (l0.length : Int) (wrap64 (x12_1 + 1)) x166000_1 x166001_1 true true x166004_1) else (if x166000_1.length < 140737488355328 then (bus_Decode.l0 k1 x5_1 l0 (l0.length : Int) (wrap64 (x12_1 + 1)) (x166000_1 ++ [rd l0 x12_1]) x166001_1 false true x166004_1) else (none))))) = some (r1, r2) := by rw [if_pos rfl] at H; exact H
         clear H
         have H := H1
         clear H1
         by_cases c118 : x166001_1 = true
         ·subst c118
          have H1 : (if (Go.bits .xor .u8 (rd l0 x12_1) 32) = 126 then (if (x166000_1.length : Int) = 21 then (bus_Decode.l0 k1 x5_1 l0 (l0.length : Int) (wrap64 (x12_1 + 1)) x166000_1 false true true x166004_1) else (if x166000_1.length < 140737488355328 then (bus_Decode.l0 k1 x5_1 l0 (l0.length : Int) (wrap64 (x12_1 + 1)) (x166000_1 ++ [Go.bits .xor .u8 (rd l0 x12_1) 32]) false false true x166004_1) else (none))) else (if (Go.bits .xor .u8 (rd l0 x12_1) 32) = 125 then (if (x166000_1.length : Int) = 21 then (bus_Decode.l0 k1 x5_1 l0 (l0.length : Int) (wrap64 (x12_1 + 1)) x166000_1 false true true x166004_1) else (if x166000_1.length < 140737488355328 then (bus_Decode.l0 k1 x5_1 l0 (l0.length : Int) (wrap64 (x12_1 + 1)) (x166000_1 ++ [Go.bits .xor .u8 (rd l0 x12_1) 32]) false false true x166004_1) else (none))) else (bus_Decode.l0 k1 x5_1 l0 (l0.length : Int) (wrap64 (x12_1 + 1)) x166000_1 false true true x166004_1))) = some (r1, r2) := by rw [if_pos rfl] at H; exact H
          clear H
          have H := H1
          clear H1
          by_cases c119 : (Go.bits .xor .u8 (rd l0 x12_1) 32) = 126
          ·rw [if_pos c119] at H
           have c119b0 : ((Go.bits .xor .u8 (rd l0 x12_1) 32) == 126) = true := beq_iff_eq.mpr c119
           have c119b1 : ((Go.bits .xor .u8 (rd l0 x12_1) 32) != 126) = false := bne_eq_false_iff_eq.mpr c119
           clear c119
           have HC120 := Aside0.mk H
           clear H
           have p166 : 0 ≤ (x12_1 : Int) := of_decide_eq_true (by first | (with_reducible assumption) | assumption)
           have q166 : x12_1 < (l0.length : Int) := of_decide_eq_true (by first | (with_reducible assumption) | assumption)
           obtain ⟨ad166, e166, hx166_0⟩ := Kd.at_int HR0.out x12_1 p166 q166
           cases e166
           replace hx166_0 := (HB.out.cell (World.block_lt_of_cell? w _ hx166_0)).trans hx166_0
           replace p166 := eq_true p166
           replace q166 := eq_true q166
           go_upto_if 9 with (first | (go_at_call 42; go_enter Try.func42, Try.ntmps42) | ((with_reducible refine gate_dst (N := 4) rfl ?_); refine box_event ?hg (N := 4) ?hd (cs := #[.int .i64 0, .int .i64 0, .int .i64 0, .slice none 0 0]) (t := 40) ?hr ?_; (case hd | hg => rfl); (case hr => first | (go_simp; done) | (go_simp; rfl)); intro gb167 hg w121 hbox hb; have n0_ := Aside0.mk (Kd.S_below (Kd.S_elderB (by (with_reducible repeat (first | apply Kd.S_alloc | apply Kd.S_drewN | apply Kd.S_drew)); exact HO_5.out) gb167 (Nat.le_of_eq hg.symm)) hb); have n1_ := Aside0.mk (Kd.R_below (by (with_reducible repeat (first | apply Kd.R_alloc | apply Kd.R_drewN | apply Kd.R_drew)); exact HO_166000.out) hb); have n2_ := Aside0.mk (blk_below BK165.out hb); have n3_ := Aside0.mk (below_step HB.out hb); have n4_ := Aside0.mk (hbox); have n5_ := Aside0.mk ((by rw [hg]; exact (below_size HB.out) : w.heap.size ≤ gb167)); have n6_ := Aside0.mk ((by rw [hg]; exact (below_size HB.out) : w.heap.size ≤ gb167)); have n7_ := Aside0.mk ((by rw [hg]; exact Nat.ne_of_lt (blk_lt BK165.out) : gb165 ≠ gb167)); have n8_ := Aside0.mk ((by rw [hg]; exact Nat.ne_of_gt (blk_lt BK165.out) : gb167 ≠ gb165)); clear HO_5; clear HO_166000; clear BK165; clear HB; have HO_5 := n0_; have HO_166000 := n1_; have BK165 := n2_; have HB := n3_; have BK167 := n4_; have GW167 := n5_; have GE167 := n6_; have NB165_167 := n7_; have NB167_165 := n8_; clear n0_ n1_ n2_ n3_ n4_ n5_ n6_ n7_ n8_; clear hb hbox hg; have hcz122_0 := tch5 BK165.out) | ((with_reducible refine gate_store (t := 4) (p := 35) rfl ?_); refine store_row (t := 4) (p := 35) (v := ?vo_w123) ?hgd ?ho ?hN gb165 1 #[u166000, .bool true, .bool false, .bool true, .int .i64 x166004_1] [.bool false] #[u166000, .bool false, .bool false, .bool true, .int .i64 x166004_1] ?hx ?hy BK165.out szi4 (Nat.le_of_ble_eq_true rfl) ?h1 ?hnew ?_; (case ho | hgd | hN | hx => rfl); (case hy => first | rfl | (go_simp; done) | (go_simp; rfl)); (case h1 | hnew => rfl); intro w123 hbox hg; replace HO_5 := Aside0.mk (Kd.S_mono (Kd.S_grown (Kd.S_types HO_5.out BK165.out (by decide)) hg (fun k_ hk e_ => hk.2 (Option.some.inj e_))) (fun k_ hk => hk.1)); replace HO_166000 := Aside0.mk (Kd.R_mono (Kd.R_grown (Kd.R_types HO_166000.out BK165.out (by decide)) hg (fun k_ hk e_ => hk.2 (Option.some.inj e_))) (fun k_ hk => hk.1)); replace BK167 := Aside0.mk (blk_grown BK167.out hg (nbi NB167_165)); replace HB := Aside0.mk (pw_below_grown HB.out (some gb165) (below_size HB.out) hg (fun k_ e_ => by cases e_; exact GE165.out)); replace BK165 := Aside0.mk (hbox); clear hbox hg; have hcz124_0 := tch5 BK165.out; obtain ⟨Ao125, co125, eo125⟩ := Kd.R_slice HO_166000.out; subst eo125) | (go_at_call 51; go_enter Try.func51, Try.ntmps51))
           have H := HC120.out
           clear HC120
           by_cases c126 : (x166000_1.length : Int) = 21
           ·rw [if_pos c126] at H
            have c126b0 : ((x166000_1.length : Int) == 21) = true := beq_iff_eq.mpr c126
            have c126b1 : ((x166000_1.length : Int) != 21) = false := bne_eq_false_iff_eq.mpr c126
            clear c126
            (first | rw [c126b0] | (simp only [i64_w, i32_w]; rw [c126b0]) | skip)
            have H' := Aside0.mk H
            clear H
            try go_wp2_with (first | ((with_reducible refine gate_store (t := 4) (p := 12) rfl ?_); refine store_row (t := 4) (p := 12) (v := ?vo_w127) ?hgd ?ho ?hN gb165 2 #[.slice Ao125 x166000_1.length co125, .bool false, .bool false, .bool true, .int .i64 x166004_1] [.bool true] #[.slice Ao125 x166000_1.length co125, .bool false, .bool true, .bool true, .int .i64 x166004_1] ?hx ?hy BK165.out szi4 (Nat.le_of_ble_eq_true rfl) ?h1 ?hnew ?_; (case ho | hgd | hN | hx => rfl); (case hy => first | rfl | (go_simp; done) | (go_simp; rfl)); (case h1 | hnew => rfl); intro w127 hbox hg; replace HO_5 := Aside0.mk (Kd.S_mono (Kd.S_grown (Kd.S_types HO_5.out BK165.out (by decide)) hg (fun k_ hk e_ => hk.2 (Option.some.inj e_))) (fun k_ hk => hk.1)); replace HO_166000 := Aside0.mk (Kd.R_mono (Kd.R_grown (Kd.R_types HO_166000.out BK165.out (by decide)) hg (fun k_ hk e_ => hk.2 (Option.some.inj e_))) (fun k_ hk => hk.1)); replace BK167 := Aside0.mk (blk_grown BK167.out hg (nbi NB167_165)); replace HB := Aside0.mk (pw_below_grown HB.out (some gb165) (below_size HB.out) hg (fun k_ e_ => by cases e_; exact GE165.out)); replace BK165 := Aside0.mk (hbox); clear hbox hg))
            (try simp only [Exit.inBlock, Exit.then])
            refine bodyPost_ret (results_none rfl _ _ _) rfl ?_
            try go_wp2_with (first | ((with_reducible refine gate_store (t := 40) (p := 4) rfl ?_); refine store_row (t := 40) (p := 4) (v := ?vo_w128) ?hgd ?ho ?hN gb167 0 #[.int .i64 0, .int .i64 0, .int .i64 0, .slice none 0 0] [.int .i64 0, .int .i64 0, .int .i64 0, .slice none 0 0] #[.int .i64 0, .int .i64 0, .int .i64 0, .slice none 0 0] ?hx ?hy BK167.out szi40 (Nat.le_of_ble_eq_true rfl) ?h1 ?hnew ?_; (case ho | hgd | hN | hx => rfl); (case hy => first | rfl | (go_simp; done) | (go_simp; rfl)); (case h1 | hnew => rfl); intro w128 hbox hg; replace HO_5 := Aside0.mk (Kd.S_grown HO_5.out hg (fun k_ hk e_ => (hk.2) (Option.some.inj e_))); replace HO_166000 := Aside0.mk (Kd.R_mono (Kd.R_grown (Kd.R_types HO_166000.out BK167.out (by decide)) hg (fun k_ hk e_ => hk.2 (Option.some.inj e_))) (fun k_ hk => hk.1)); replace BK165 := Aside0.mk (blk_grown BK165.out hg (nbi NB165_167)); replace HB := Aside0.mk (pw_below_grown HB.out (some gb167) (below_size HB.out) hg (fun k_ e_ => by cases e_; exact GE167.out)); replace BK167 := Aside0.mk (hbox); clear hbox hg))
            (try simp only [Exit.inBlock, Exit.then])
            refine bodyPost_ret (results_ct rfl _ _ gb167 40 #[.int .i64 0, .int .i64 0, .int .i64 0, .slice none 0 0] (0, 0) _ rfl BK167.out Try.underlying40 rfl (by kernel_rfl)) rfl ?_
            try go_wp2_with (first | ((with_reducible refine gate_dst (N := 8) rfl ?_); refine box_event ?hg (N := 8) ?hd (cs := #[.int .i64 0, .int .i64 0, .int .i64 0, .slice none 0 0]) (t := 40) ?hr ?_; (case hd | hg => rfl); (case hr => first | (go_simp; done) | (go_simp; rfl)); intro gb212 hg w129 hbox hb; have n0_ := Aside0.mk (Kd.S_below (Kd.S_elderB (by (with_reducible repeat (first | apply Kd.S_alloc | apply Kd.S_drewN | apply Kd.S_drew)); exact HO_5.out) gb212 (Nat.le_of_eq hg.symm)) hb); have n1_ := Aside0.mk (Kd.R_below (by (with_reducible repeat (first | apply Kd.R_alloc | apply Kd.R_drewN | apply Kd.R_drew)); exact HO_166000.out) hb); have n2_ := Aside0.mk (blk_below BK165.out hb); have n3_ := Aside0.mk (blk_below BK167.out hb); have n4_ := Aside0.mk (below_step HB.out hb); have n5_ := Aside0.mk (hbox); have n6_ := Aside0.mk ((by rw [hg]; exact (below_size HB.out) : w.heap.size ≤ gb212)); have n7_ := Aside0.mk ((by rw [hg]; exact (below_size HB.out) : w.heap.size ≤ gb212)); have n8_ := Aside0.mk ((by rw [hg]; exact Nat.ne_of_lt (blk_lt BK165.out) : gb165 ≠ gb212)); have n9_ := Aside0.mk ((by rw [hg]; exact Nat.ne_of_lt (blk_lt BK167.out) : gb167 ≠ gb212)); clear HO_5; clear HO_166000; clear BK165; clear BK167; clear HB; have HO_5 := n0_; have HO_166000 := n1_; have BK165 := n2_; have BK167 := n3_; have HB := n4_; have BK212 := n5_; have GW212 := n6_; have GE212 := n7_; have NB165_212 := n8_; have NB167_212 := n9_; clear n0_ n1_ n2_ n3_ n4_ n5_ n6_ n7_ n8_ n9_; clear hb hbox hg) | ((with_reducible refine gate_store (t := 40) (p := 8) rfl ?_); refine store_row (t := 40) (p := 8) (v := ?vo_w130) ?hgd ?ho ?hN gb212 0 #[.int .i64 0, .int .i64 0, .int .i64 0, .slice none 0 0] [.int .i64 0, .int .i64 0, .int .i64 0, .slice none 0 0] #[.int .i64 0, .int .i64 0, .int .i64 0, .slice none 0 0] ?hx ?hy BK212.out szi40 (Nat.le_of_ble_eq_true rfl) ?h1 ?hnew ?_; (case ho | hgd | hN | hx => rfl); (case hy => first | rfl | (go_simp; done) | (go_simp; rfl)); (case h1 | hnew => rfl); intro w130 hbox hg; replace HO_5 := Aside0.mk (Kd.S_grown HO_5.out hg (fun k_ hk e_ => (hk.2) (Option.some.inj e_))); replace HO_166000 := Aside0.mk (Kd.R_mono (Kd.R_grown (Kd.R_types HO_166000.out BK212.out (by decide)) hg (fun k_ hk e_ => hk.2 (Option.some.inj e_))) (fun k_ hk => hk.1)); replace BK165 := Aside0.mk (blk_grown BK165.out hg (nbi NB165_212)); replace BK167 := Aside0.mk (blk_grown BK167.out hg (nbi NB167_212)); replace HB := Aside0.mk (pw_below_grown HB.out (some gb212) (below_size HB.out) hg (fun k_ e_ => by cases e_; exact GE212.out)); replace BK212 := Aside0.mk (hbox); clear hbox hg))
            go_roundg k1
            case measure => have := HK1.out; omega
            case rel => exact ⟨(x5_1), (wrap64 (x12_1 + 1)), (x166000_1), (false), (true), (true), (x166004_1), (.slice Ao125 x166000_1.length co125), (by first | rfl | (simp; done) | (simp [*]; done)), H', ⟨by have := HK1.out; omega⟩, ⟨by (with_reducible repeat (first | apply Kd.S_alloc | apply Kd.S_drewN | apply Kd.S_drew)); exact Kd.S_mono HO_5.out (fun _ hk => hk.1.1)⟩, ⟨by (with_reducible repeat (first | apply Kd.R_alloc | apply Kd.R_drewN | apply Kd.R_drew)); exact HO_166000.out⟩, ⟨by exact BK165.out⟩, ⟨by exact HB.out⟩⟩
           ·rw [if_neg c126] at H
            have c126b0 : ((x166000_1.length : Int) == 21) = false := beq_eq_false_iff_ne.mpr c126
            have c126b1 : ((x166000_1.length : Int) != 21) = true := bne_iff_ne.mpr c126
            (first | rw [c126b0] | (simp only [i64_w, i32_w]; rw [c126b0]) | skip)
            by_cases c131 : x166000_1.length < 140737488355328
            ·rw [if_pos c131] at H
             have LMc131 := Aside0.mk c131
             clear c131
             obtain ⟨y213, hy213⟩ : ∃ y_ : List Int, y_ = (x166000_1 ++ [Go.bits .xor .u8 (rd l0 x12_1) 32]) := ⟨_, rfl⟩
             replace H : (bus_Decode.l0 k1 x5_1 l0 (l0.length : Int) (wrap64 (x12_1 + 1)) y213 false false true x166004_1) = some (r1, r2) := by first | (rw [hy213]; with_reducible exact H) | (have H2_ := (Option.bind_some _ _).symm.trans H; rw [hy213]; with_reducible exact H2_) | (have H2_ := (Option.bind_some _ _).symm.trans H; with_reducible exact H2_) | with_reducible exact H | (rw [hy213]; exact H) | exact H
             have Ny213 := Aside0.mk hy213
             clear hy213
             have H' := Aside0.mk H
             clear H
             have hcz132_0 := tch5 BK165.out
             try go_wp2_with (first | ((with_reducible refine gate_builtin (b := .append) (xs := #[.tmp 17, .tmp 19]) rfl ?_); at_builtin; refine Kd.R_append (Kd.int .u8) (w0 := w) w.heap.size rfl (.tmp 17) (.tmp 19) 38 5 (.int .u8 0) 1 rfl Try.underlying38 info5 rfl (by decide) (by omega) (.slice Ao125 x166000_1.length co125) x166000_1 (Go.bits .xor .u8 (rd l0 x12_1) 32) [.int .u8 (Go.bits .xor .u8 (rd l0 x12_1) 32)] (fun _ => True) (fun _ => False) rfl rfl ?aP (fun _ hk => hk.elim) ?aF ?aO ?aB ?aS ?aL ?_; (case aP => exact rfl); (case aB => exact HB.out); (case aF => exact (fun _ _ => trivial)); (case aO => exact (by (with_reducible repeat (first | apply Kd.R_alloc | apply Kd.R_drewN | apply Kd.R_drew)); exact HO_166000.out)); (case aS => exact (below_size HB.out)); (case aL => have := LMc131.out; omega); intro v214 w133 ho hb hg hat; rw [← Ny213.out] at ho; replace HO_5 := Aside0.mk (Kd.S_after (ok := (fun k_ => k_ ≠ gb167)) (by (with_reducible repeat (first | apply Kd.S_alloc | apply Kd.S_drewN | apply Kd.S_drew)); exact Kd.S_mono HO_5.out (fun _ hk => ⟨hk.2, hk.1⟩)) hg hat); replace BK165 := Aside0.mk (blk_grown BK165.out hg (Kd.R_ne HO_166000.out BK165.out (by decide))); replace BK167 := Aside0.mk (blk_grown BK167.out hg (Kd.R_ne HO_166000.out BK167.out (by decide))); replace HB := Aside0.mk (hb); have HO215 := Aside0.mk (ho); clear HO_166000; clear ho hb hg hat; obtain ⟨Ao134, co134, eo134⟩ := Kd.R_slice HO215.out; subst eo134) | ((with_reducible refine gate_store (t := 38) (p := 22) rfl ?_); refine store_row (t := 38) (p := 22) (v := ?vo_w135) ?hgd ?ho ?hN gb165 0 #[.slice Ao125 x166000_1.length co125, .bool false, .bool false, .bool true, .int .i64 x166004_1] [.slice Ao134 y213.length co134] #[.slice Ao134 y213.length co134, .bool false, .bool false, .bool true, .int .i64 x166004_1] ?hx ?hy BK165.out szi38 (Nat.le_of_ble_eq_true rfl) ?h1 ?hnew ?_; (case ho | hgd | hN | hx => rfl); (case hy => first | rfl | (go_simp; done) | (go_simp; rfl)); (case h1 | hnew => rfl); intro w135 hbox hg; replace HO_5 := Aside0.mk (Kd.S_mono (Kd.S_grown (Kd.S_types HO_5.out BK165.out (by decide)) hg (fun k_ hk e_ => hk.2 (Option.some.inj e_))) (fun k_ hk => hk.1)); replace HO215 := Aside0.mk (Kd.R_mono (Kd.R_grown (Kd.R_types HO215.out BK165.out (by decide)) hg (fun k_ hk e_ => hk.2 (Option.some.inj e_))) (fun k_ hk => hk.1)); replace BK167 := Aside0.mk (blk_grown BK167.out hg (nbi NB167_165)); replace HB := Aside0.mk (pw_below_grown HB.out (some gb165) (below_size HB.out) hg (fun k_ e_ => by cases e_; exact GE165.out)); replace BK165 := Aside0.mk (hbox); clear hbox hg))
             (try simp only [Exit.inBlock, Exit.then])
             refine bodyPost_end (results_none rfl _ _ _) rfl ?_
             try go_wp2_with (first | ((with_reducible refine gate_store (t := 40) (p := 4) rfl ?_); refine store_row (t := 40) (p := 4) (v := ?vo_w136) ?hgd ?ho ?hN gb167 0 #[.int .i64 0, .int .i64 0, .int .i64 0, .slice none 0 0] [.int .i64 0, .int .i64 0, .int .i64 0, .slice none 0 0] #[.int .i64 0, .int .i64 0, .int .i64 0, .slice none 0 0] ?hx ?hy BK167.out szi40 (Nat.le_of_ble_eq_true rfl) ?h1 ?hnew ?_; (case ho | hgd | hN | hx => rfl); (case hy => first | rfl | (go_simp; done) | (go_simp; rfl)); (case h1 | hnew => rfl); intro w136 hbox hg; replace HO_5 := Aside0.mk (Kd.S_grown HO_5.out hg (fun k_ hk e_ => (hk.1) (Option.some.inj e_))); replace HO215 := Aside0.mk (Kd.R_mono (Kd.R_grown (Kd.R_types HO215.out BK167.out (by decide)) hg (fun k_ hk e_ => hk.2 (Option.some.inj e_))) (fun k_ hk => hk.1)); replace BK165 := Aside0.mk (blk_grown BK165.out hg (nbi NB165_167)); replace HB := Aside0.mk (pw_below_grown HB.out (some gb167) (below_size HB.out) hg (fun k_ e_ => by cases e_; exact GE167.out)); replace BK167 := Aside0.mk (hbox); clear hbox hg))
             (try simp only [Exit.inBlock, Exit.then])
             refine bodyPost_ret (results_ct rfl _ _ gb167 40 #[.int .i64 0, .int .i64 0, .int .i64 0, .slice none 0 0] (0, 0) _ rfl BK167.out Try.underlying40 rfl (by kernel_rfl)) rfl ?_
             try go_wp2_with (first | ((with_reducible refine gate_dst (N := 8) rfl ?_); refine box_event ?hg (N := 8) ?hd (cs := #[.int .i64 0, .int .i64 0, .int .i64 0, .slice none 0 0]) (t := 40) ?hr ?_; (case hd | hg => rfl); (case hr => first | (go_simp; done) | (go_simp; rfl)); intro gb216 hg w137 hbox hb; have n0_ := Aside0.mk (Kd.S_below (Kd.S_elderB (by (with_reducible repeat (first | apply Kd.S_alloc | apply Kd.S_drewN | apply Kd.S_drew)); exact HO_5.out) gb216 (Nat.le_of_eq hg.symm)) hb); have n1_ := Aside0.mk (Kd.R_below (by (with_reducible repeat (first | apply Kd.R_alloc | apply Kd.R_drewN | apply Kd.R_drew)); exact HO215.out) hb); have n2_ := Aside0.mk (blk_below BK165.out hb); have n3_ := Aside0.mk (blk_below BK167.out hb); have n4_ := Aside0.mk (below_step HB.out hb); have n5_ := Aside0.mk (hbox); have n6_ := Aside0.mk ((by rw [hg]; exact (below_size HB.out) : w.heap.size ≤ gb216)); have n7_ := Aside0.mk ((by rw [hg]; exact (below_size HB.out) : w.heap.size ≤ gb216)); have n8_ := Aside0.mk ((by rw [hg]; exact Nat.ne_of_lt (blk_lt BK165.out) : gb165 ≠ gb216)); have n9_ := Aside0.mk ((by rw [hg]; exact Nat.ne_of_lt (blk_lt BK167.out) : gb167 ≠ gb216)); clear HO_5; clear HO215; clear BK165; clear BK167; clear HB; have HO_5 := n0_; have HO215 := n1_; have BK165 := n2_; have BK167 := n3_; have HB := n4_; have BK216 := n5_; have GW216 := n6_; have GE216 := n7_; have NB165_216 := n8_; have NB167_216 := n9_; clear n0_ n1_ n2_ n3_ n4_ n5_ n6_ n7_ n8_ n9_; clear hb hbox hg) | ((with_reducible refine gate_store (t := 40) (p := 8) rfl ?_); refine store_row (t := 40) (p := 8) (v := ?vo_w138) ?hgd ?ho ?hN gb216 0 #[.int .i64 0, .int .i64 0, .int .i64 0, .slice none 0 0] [.int .i64 0, .int .i64 0, .int .i64 0, .slice none 0 0] #[.int .i64 0, .int .i64 0, .int .i64 0, .slice none 0 0] ?hx ?hy BK216.out szi40 (Nat.le_of_ble_eq_true rfl) ?h1 ?hnew ?_; (case ho | hgd | hN | hx => rfl); (case hy => first | rfl | (go_simp; done) | (go_simp; rfl)); (case h1 | hnew => rfl); intro w138 hbox hg; replace HO_5 := Aside0.mk (Kd.S_grown HO_5.out hg (fun k_ hk e_ => (hk.2) (Option.some.inj e_))); replace HO215 := Aside0.mk (Kd.R_mono (Kd.R_grown (Kd.R_types HO215.out BK216.out (by decide)) hg (fun k_ hk e_ => hk.2 (Option.some.inj e_))) (fun k_ hk => hk.1)); replace BK165 := Aside0.mk (blk_grown BK165.out hg (nbi NB165_216)); replace BK167 := Aside0.mk (blk_grown BK167.out hg (nbi NB167_216)); replace HB := Aside0.mk (pw_below_grown HB.out (some gb216) (below_size HB.out) hg (fun k_ e_ => by cases e_; exact GE216.out)); replace BK216 := Aside0.mk (hbox); clear hbox hg))
             go_roundg k1
             case measure => have := HK1.out; omega
             case rel => exact ⟨(x5_1), (wrap64 (x12_1 + 1)), (y213), (false), (false), (true), (x166004_1), (.slice Ao134 y213.length co134), (by first | rfl | (simp; done) | (simp [*]; done)), H', ⟨by have := HK1.out; omega⟩, ⟨by (with_reducible repeat (first | apply Kd.S_alloc | apply Kd.S_drewN | apply Kd.S_drew)); exact Kd.S_mono HO_5.out (fun _ hk => hk.1.2)⟩, ⟨by (with_reducible repeat (first | apply Kd.R_alloc | apply Kd.R_drewN | apply Kd.R_drew)); exact HO215.out⟩, ⟨by exact BK165.out⟩, ⟨by exact HB.out⟩⟩
            ·rw [if_neg c131] at H
             exact absurd H (by simp)
          ·rw [if_neg c119] at H
           have c119b0 : ((Go.bits .xor .u8 (rd l0 x12_1) 32) == 126) = false := beq_eq_false_iff_ne.mpr c119
           have c119b1 : ((Go.bits .xor .u8 (rd l0 x12_1) 32) != 126) = true := bne_iff_ne.mpr c119
           have HC139 := Aside0.mk H
           clear H
           have p166 : 0 ≤ (x12_1 : Int) := of_decide_eq_true (by first | (with_reducible assumption) | assumption)
           have q166 : x12_1 < (l0.length : Int) := of_decide_eq_true (by first | (with_reducible assumption) | assumption)
           obtain ⟨ad166, e166, hx166_0⟩ := Kd.at_int HR0.out x12_1 p166 q166
           cases e166
           replace hx166_0 := (HB.out.cell (World.block_lt_of_cell? w _ hx166_0)).trans hx166_0
           replace p166 := eq_true p166
           replace q166 := eq_true q166
           go_upto_if 43 with (first | (go_at_call 42; go_enter Try.func42, Try.ntmps42) | ((with_reducible refine gate_dst (N := 4) rfl ?_); refine box_event ?hg (N := 4) ?hd (cs := #[.int .i64 0, .int .i64 0, .int .i64 0, .slice none 0 0]) (t := 40) ?hr ?_; (case hd | hg => rfl); (case hr => first | (go_simp; done) | (go_simp; rfl)); intro gb167 hg w140 hbox hb; have n0_ := Aside0.mk (Kd.S_below (Kd.S_elderB (by (with_reducible repeat (first | apply Kd.S_alloc | apply Kd.S_drewN | apply Kd.S_drew)); exact HO_5.out) gb167 (Nat.le_of_eq hg.symm)) hb); have n1_ := Aside0.mk (Kd.R_below (by (with_reducible repeat (first | apply Kd.R_alloc | apply Kd.R_drewN | apply Kd.R_drew)); exact HO_166000.out) hb); have n2_ := Aside0.mk (blk_below BK165.out hb); have n3_ := Aside0.mk (below_step HB.out hb); have n4_ := Aside0.mk (hbox); have n5_ := Aside0.mk ((by rw [hg]; exact (below_size HB.out) : w.heap.size ≤ gb167)); have n6_ := Aside0.mk ((by rw [hg]; exact (below_size HB.out) : w.heap.size ≤ gb167)); have n7_ := Aside0.mk ((by rw [hg]; exact Nat.ne_of_lt (blk_lt BK165.out) : gb165 ≠ gb167)); have n8_ := Aside0.mk ((by rw [hg]; exact Nat.ne_of_gt (blk_lt BK165.out) : gb167 ≠ gb165)); clear HO_5; clear HO_166000; clear BK165; clear HB; have HO_5 := n0_; have HO_166000 := n1_; have BK165 := n2_; have HB := n3_; have BK167 := n4_; have GW167 := n5_; have GE167 := n6_; have NB165_167 := n7_; have NB167_165 := n8_; clear n0_ n1_ n2_ n3_ n4_ n5_ n6_ n7_ n8_; clear hb hbox hg; have hcz141_0 := tch5 BK165.out) | ((with_reducible refine gate_store (t := 4) (p := 35) rfl ?_); refine store_row (t := 4) (p := 35) (v := ?vo_w142) ?hgd ?ho ?hN gb165 1 #[u166000, .bool true, .bool false, .bool true, .int .i64 x166004_1] [.bool false] #[u166000, .bool false, .bool false, .bool true, .int .i64 x166004_1] ?hx ?hy BK165.out szi4 (Nat.le_of_ble_eq_true rfl) ?h1 ?hnew ?_; (case ho | hgd | hN | hx => rfl); (case hy => first | rfl | (go_simp; done) | (go_simp; rfl)); (case h1 | hnew => rfl); intro w142 hbox hg; replace HO_5 := Aside0.mk (Kd.S_mono (Kd.S_grown (Kd.S_types HO_5.out BK165.out (by decide)) hg (fun k_ hk e_ => hk.2 (Option.some.inj e_))) (fun k_ hk => hk.1)); replace HO_166000 := Aside0.mk (Kd.R_mono (Kd.R_grown (Kd.R_types HO_166000.out BK165.out (by decide)) hg (fun k_ hk e_ => hk.2 (Option.some.inj e_))) (fun k_ hk => hk.1)); replace BK167 := Aside0.mk (blk_grown BK167.out hg (nbi NB167_165)); replace HB := Aside0.mk (pw_below_grown HB.out (some gb165) (below_size HB.out) hg (fun k_ e_ => by cases e_; exact GE165.out)); replace BK165 := Aside0.mk (hbox); clear hbox hg))
           have H := HC139.out
           clear HC139
           by_cases c143 : (Go.bits .xor .u8 (rd l0 x12_1) 32) = 125
           ·rw [if_pos c143] at H
            have c143b0 : ((Go.bits .xor .u8 (rd l0 x12_1) 32) == 125) = true := beq_iff_eq.mpr c143
            have c143b1 : ((Go.bits .xor .u8 (rd l0 x12_1) 32) != 125) = false := bne_eq_false_iff_eq.mpr c143
            clear c143
            (first | rw [c143b0] | (simp only [i64_w, i32_w]; rw [c143b0]) | skip)
            by_cases c144 : (x166000_1.length : Int) = 21
            ·rw [if_pos c144] at H
             have c144b0 : ((x166000_1.length : Int) == 21) = true := beq_iff_eq.mpr c144
             have c144b1 : ((x166000_1.length : Int) != 21) = false := bne_eq_false_iff_eq.mpr c144
             clear c144
             have H' := Aside0.mk H
             clear H
             have hcz145_0 := tch5 BK165.out
             obtain ⟨Ao146, co146, eo146⟩ := Kd.R_slice HO_166000.out
             subst eo146
             try go_wp2_with (first | (go_at_call 51; go_enter Try.func51, Try.ntmps51) | ((with_reducible refine gate_store (t := 4) (p := 12) rfl ?_); refine store_row (t := 4) (p := 12) (v := ?vo_w147) ?hgd ?ho ?hN gb165 2 #[.slice Ao146 x166000_1.length co146, .bool false, .bool false, .bool true, .int .i64 x166004_1] [.bool true] #[.slice Ao146 x166000_1.length co146, .bool false, .bool true, .bool true, .int .i64 x166004_1] ?hx ?hy BK165.out szi4 (Nat.le_of_ble_eq_true rfl) ?h1 ?hnew ?_; (case ho | hgd | hN | hx => rfl); (case hy => first | rfl | (go_simp; done) | (go_simp; rfl)); (case h1 | hnew => rfl); intro w147 hbox hg; replace HO_5 := Aside0.mk (Kd.S_mono (Kd.S_grown (Kd.S_types HO_5.out BK165.out (by decide)) hg (fun k_ hk e_ => hk.2 (Option.some.inj e_))) (fun k_ hk => hk.1)); replace HO_166000 := Aside0.mk (Kd.R_mono (Kd.R_grown (Kd.R_types HO_166000.out BK165.out (by decide)) hg (fun k_ hk e_ => hk.2 (Option.some.inj e_))) (fun k_ hk => hk.1)); replace BK167 := Aside0.mk (blk_grown BK167.out hg (nbi NB167_165)); replace HB := Aside0.mk (pw_below_grown HB.out (some gb165) (below_size HB.out) hg (fun k_ e_ => by cases e_; exact GE165.out)); replace BK165 := Aside0.mk (hbox); clear hbox hg))
             (try simp only [Exit.inBlock, Exit.then])
             refine bodyPost_ret (results_none rfl _ _ _) rfl ?_
             try go_wp2_with (first | ((with_reducible refine gate_store (t := 40) (p := 4) rfl ?_); refine store_row (t := 40) (p := 4) (v := ?vo_w148) ?hgd ?ho ?hN gb167 0 #[.int .i64 0, .int .i64 0, .int .i64 0, .slice none 0 0] [.int .i64 0, .int .i64 0, .int .i64 0, .slice none 0 0] #[.int .i64 0, .int .i64 0, .int .i64 0, .slice none 0 0] ?hx ?hy BK167.out szi40 (Nat.le_of_ble_eq_true rfl) ?h1 ?hnew ?_; (case ho | hgd | hN | hx => rfl); (case hy => first | rfl | (go_simp; done) | (go_simp; rfl)); (case h1 | hnew => rfl); intro w148 hbox hg; replace HO_5 := Aside0.mk (Kd.S_grown HO_5.out hg (fun k_ hk e_ => (hk.2) (Option.some.inj e_))); replace HO_166000 := Aside0.mk (Kd.R_mono (Kd.R_grown (Kd.R_types HO_166000.out BK167.out (by decide)) hg (fun k_ hk e_ => hk.2 (Option.some.inj e_))) (fun k_ hk => hk.1)); replace BK165 := Aside0.mk (blk_grown BK165.out hg (nbi NB165_167)); replace HB := Aside0.mk (pw_below_grown HB.out (some gb167) (below_size HB.out) hg (fun k_ e_ => by cases e_; exact GE167.out)); replace BK167 := Aside0.mk (hbox); clear hbox hg))
             (try simp only [Exit.inBlock, Exit.then])
             refine bodyPost_ret (results_ct rfl _ _ gb167 40 #[.int .i64 0, .int .i64 0, .int .i64 0, .slice none 0 0] (0, 0) _ rfl BK167.out Try.underlying40 rfl (by kernel_rfl)) rfl ?_
             try go_wp2_with (first | ((with_reducible refine gate_dst (N := 8) rfl ?_); refine box_event ?hg (N := 8) ?hd (cs := #[.int .i64 0, .int .i64 0, .int .i64 0, .slice none 0 0]) (t := 40) ?hr ?_; (case hd | hg => rfl); (case hr => first | (go_simp; done) | (go_simp; rfl)); intro gb217 hg w149 hbox hb; have n0_ := Aside0.mk (Kd.S_below (Kd.S_elderB (by (with_reducible repeat (first | apply Kd.S_alloc | apply Kd.S_drewN | apply Kd.S_drew)); exact HO_5.out) gb217 (Nat.le_of_eq hg.symm)) hb); have n1_ := Aside0.mk (Kd.R_below (by (with_reducible repeat (first | apply Kd.R_alloc | apply Kd.R_drewN | apply Kd.R_drew)); exact HO_166000.out) hb); have n2_ := Aside0.mk (blk_below BK165.out hb); have n3_ := Aside0.mk (blk_below BK167.out hb); have n4_ := Aside0.mk (below_step HB.out hb); have n5_ := Aside0.mk (hbox); have n6_ := Aside0.mk ((by rw [hg]; exact (below_size HB.out) : w.heap.size ≤ gb217)); have n7_ := Aside0.mk ((by rw [hg]; exact (below_size HB.out) : w.heap.size ≤ gb217)); have n8_ := Aside0.mk ((by rw [hg]; exact Nat.ne_of_lt (blk_lt BK165.out) : gb165 ≠ gb217)); have n9_ := Aside0.mk ((by rw [hg]; exact Nat.ne_of_lt (blk_lt BK167.out) : gb167 ≠ gb217)); clear HO_5; clear HO_166000; clear BK165; clear BK167; clear HB; have HO_5 := n0_; have HO_166000 := n1_; have BK165 := n2_; have BK167 := n3_; have HB := n4_; have BK217 := n5_; have GW217 := n6_; have GE217 := n7_; have NB165_217 := n8_; have NB167_217 := n9_; clear n0_ n1_ n2_ n3_ n4_ n5_ n6_ n7_ n8_ n9_; clear hb hbox hg) | ((with_reducible refine gate_store (t := 40) (p := 8) rfl ?_); refine store_row (t := 40) (p := 8) (v := ?vo_w150) ?hgd ?ho ?hN gb217 0 #[.int .i64 0, .int .i64 0, .int .i64 0, .slice none 0 0] [.int .i64 0, .int .i64 0, .int .i64 0, .slice none 0 0] #[.int .i64 0, .int .i64 0, .int .i64 0, .slice none 0 0] ?hx ?hy BK217.out szi40 (Nat.le_of_ble_eq_true rfl) ?h1 ?hnew ?_; (case ho | hgd | hN | hx => rfl); (case hy => first | rfl | (go_simp; done) | (go_simp; rfl)); (case h1 | hnew => rfl); intro w150 hbox hg; replace HO_5 := Aside0.mk (Kd.S_grown HO_5.out hg (fun k_ hk e_ => (hk.2) (Option.some.inj e_))); replace HO_166000 := Aside0.mk (Kd.R_mono (Kd.R_grown (Kd.R_types HO_166000.out BK217.out (by decide)) hg (fun k_ hk e_ => hk.2 (Option.some.inj e_))) (fun k_ hk => hk.1)); replace BK165 := Aside0.mk (blk_grown BK165.out hg (nbi NB165_217)); replace BK167 := Aside0.mk (blk_grown BK167.out hg (nbi NB167_217)); replace HB := Aside0.mk (pw_below_grown HB.out (some gb217) (below_size HB.out) hg (fun k_ e_ => by cases e_; exact GE217.out)); replace BK217 := Aside0.mk (hbox); clear hbox hg))
             go_roundg k1
             case measure => have := HK1.out; omega
             case rel => exact ⟨(x5_1), (wrap64 (x12_1 + 1)), (x166000_1), (false), (true), (true), (x166004_1), (.slice Ao146 x166000_1.length co146), (by first | rfl | (simp; done) | (simp [*]; done)), H', ⟨by have := HK1.out; omega⟩, ⟨by (with_reducible repeat (first | apply Kd.S_alloc | apply Kd.S_drewN | apply Kd.S_drew)); exact Kd.S_mono HO_5.out (fun _ hk => hk.1.1)⟩, ⟨by (with_reducible repeat (first | apply Kd.R_alloc | apply Kd.R_drewN | apply Kd.R_drew)); exact HO_166000.out⟩, ⟨by exact BK165.out⟩, ⟨by exact HB.out⟩⟩
            ·rw [if_neg c144] at H
             have c144b0 : ((x166000_1.length : Int) == 21) = false := beq_eq_false_iff_ne.mpr c144
             have c144b1 : ((x166000_1.length : Int) != 21) = true := bne_iff_ne.mpr c144
             by_cases c151 : x166000_1.length < 140737488355328
             ·rw [if_pos c151] at H
              have LMc151 := Aside0.mk c151
              clear c151
              obtain ⟨y218, hy218⟩ : ∃ y_ : List Int, y_ = (x166000_1 ++ [Go.bits .xor .u8 (rd l0 x12_1) 32]) := ⟨_, rfl⟩
              replace H : (bus_Decode.l0 k1 x5_1 l0 (l0.length : Int) (wrap64 (x12_1 + 1)) y218 false false true x166004_1) = some (r1, r2) := by first | (rw [hy218]; with_reducible exact H) | (have H2_ := (Option.bind_some _ _).symm.trans H; rw [hy218]; with_reducible exact H2_) | (have H2_ := (Option.bind_some _ _).symm.trans H; with_reducible exact H2_) | with_reducible exact H | (rw [hy218]; exact H) | exact H
              have Ny218 := Aside0.mk hy218
              clear hy218
              have H' := Aside0.mk H
              clear H
              have hcz152_0 := tch5 BK165.out
              obtain ⟨Ao153, co153, eo153⟩ := Kd.R_slice HO_166000.out
              subst eo153
              try go_wp2_with (first | (go_at_call 51; go_enter Try.func51, Try.ntmps51) | ((with_reducible refine gate_builtin (b := .append) (xs := #[.tmp 17, .tmp 19]) rfl ?_); at_builtin; refine Kd.R_append (Kd.int .u8) (w0 := w) w.heap.size rfl (.tmp 17) (.tmp 19) 38 5 (.int .u8 0) 1 rfl Try.underlying38 info5 rfl (by decide) (by omega) (.slice Ao153 x166000_1.length co153) x166000_1 (Go.bits .xor .u8 (rd l0 x12_1) 32) [.int .u8 (Go.bits .xor .u8 (rd l0 x12_1) 32)] (fun _ => True) (fun _ => False) rfl rfl ?aP (fun _ hk => hk.elim) ?aF ?aO ?aB ?aS ?aL ?_; (case aP => exact rfl); (case aB => exact HB.out); (case aF => exact (fun _ _ => trivial)); (case aO => exact (by (with_reducible repeat (first | apply Kd.R_alloc | apply Kd.R_drewN | apply Kd.R_drew)); exact HO_166000.out)); (case aS => exact (below_size HB.out)); (case aL => have := LMc151.out; omega); intro v219 w154 ho hb hg hat; rw [← Ny218.out] at ho; replace HO_5 := Aside0.mk (Kd.S_after (ok := (fun k_ => k_ ≠ gb167)) (by (with_reducible repeat (first | apply Kd.S_alloc | apply Kd.S_drewN | apply Kd.S_drew)); exact Kd.S_mono HO_5.out (fun _ hk => ⟨hk.2, hk.1⟩)) hg hat); replace BK165 := Aside0.mk (blk_grown BK165.out hg (Kd.R_ne HO_166000.out BK165.out (by decide))); replace BK167 := Aside0.mk (blk_grown BK167.out hg (Kd.R_ne HO_166000.out BK167.out (by decide))); replace HB := Aside0.mk (hb); have HO220 := Aside0.mk (ho); clear HO_166000; clear ho hb hg hat; obtain ⟨Ao155, co155, eo155⟩ := Kd.R_slice HO220.out; subst eo155) | ((with_reducible refine gate_store (t := 38) (p := 22) rfl ?_); refine store_row (t := 38) (p := 22) (v := ?vo_w156) ?hgd ?ho ?hN gb165 0 #[.slice Ao153 x166000_1.length co153, .bool false, .bool false, .bool true, .int .i64 x166004_1] [.slice Ao155 y218.length co155] #[.slice Ao155 y218.length co155, .bool false, .bool false, .bool true, .int .i64 x166004_1] ?hx ?hy BK165.out szi38 (Nat.le_of_ble_eq_true rfl) ?h1 ?hnew ?_; (case ho | hgd | hN | hx => rfl); (case hy => first | rfl | (go_simp; done) | (go_simp; rfl)); (case h1 | hnew => rfl); intro w156 hbox hg; replace HO_5 := Aside0.mk (Kd.S_mono (Kd.S_grown (Kd.S_types HO_5.out BK165.out (by decide)) hg (fun k_ hk e_ => hk.2 (Option.some.inj e_))) (fun k_ hk => hk.1)); replace HO220 := Aside0.mk (Kd.R_mono (Kd.R_grown (Kd.R_types HO220.out BK165.out (by decide)) hg (fun k_ hk e_ => hk.2 (Option.some.inj e_))) (fun k_ hk => hk.1)); replace BK167 := Aside0.mk (blk_grown BK167.out hg (nbi NB167_165)); replace HB := Aside0.mk (pw_below_grown HB.out (some gb165) (below_size HB.out) hg (fun k_ e_ => by cases e_; exact GE165.out)); replace BK165 := Aside0.mk (hbox); clear hbox hg))
              (try simp only [Exit.inBlock, Exit.then])
              refine bodyPost_end (results_none rfl _ _ _) rfl ?_
              try go_wp2_with (first | ((with_reducible refine gate_store (t := 40) (p := 4) rfl ?_); refine store_row (t := 40) (p := 4) (v := ?vo_w157) ?hgd ?ho ?hN gb167 0 #[.int .i64 0, .int .i64 0, .int .i64 0, .slice none 0 0] [.int .i64 0, .int .i64 0, .int .i64 0, .slice none 0 0] #[.int .i64 0, .int .i64 0, .int .i64 0, .slice none 0 0] ?hx ?hy BK167.out szi40 (Nat.le_of_ble_eq_true rfl) ?h1 ?hnew ?_; (case ho | hgd | hN | hx => rfl); (case hy => first | rfl | (go_simp; done) | (go_simp; rfl)); (case h1 | hnew => rfl); intro w157 hbox hg; replace HO_5 := Aside0.mk (Kd.S_grown HO_5.out hg (fun k_ hk e_ => (hk.1) (Option.some.inj e_))); replace HO220 := Aside0.mk (Kd.R_mono (Kd.R_grown (Kd.R_types HO220.out BK167.out (by decide)) hg (fun k_ hk e_ => hk.2 (Option.some.inj e_))) (fun k_ hk => hk.1)); replace BK165 := Aside0.mk (blk_grown BK165.out hg (nbi NB165_167)); replace HB := Aside0.mk (pw_below_grown HB.out (some gb167) (below_size HB.out) hg (fun k_ e_ => by cases e_; exact GE167.out)); replace BK167 := Aside0.mk (hbox); clear hbox hg))
              (try simp only [Exit.inBlock, Exit.then])
              refine bodyPost_ret (results_ct rfl _ _ gb167 40 #[.int .i64 0, .int .i64 0, .int .i64 0, .slice none 0 0] (0, 0) _ rfl BK167.out Try.underlying40 rfl (by kernel_rfl)) rfl ?_
              try go_wp2_with (first | ((with_reducible refine gate_dst (N := 8) rfl ?_); refine box_event ?hg (N := 8) ?hd (cs := #[.int .i64 0, .int .i64 0, .int .i64 0, .slice none 0 0]) (t := 40) ?hr ?_; (case hd | hg => rfl); (case hr => first | (go_simp; done) | (go_simp; rfl)); intro gb221 hg w158 hbox hb; have n0_ := Aside0.mk (Kd.S_below (Kd.S_elderB (by (with_reducible repeat (first | apply Kd.S_alloc | apply Kd.S_drewN | apply Kd.S_drew)); exact HO_5.out) gb221 (Nat.le_of_eq hg.symm)) hb); have n1_ := Aside0.mk (Kd.R_below (by (with_reducible repeat (first | apply Kd.R_alloc | apply Kd.R_drewN | apply Kd.R_drew)); exact HO220.out) hb); have n2_ := Aside0.mk (blk_below BK165.out hb); have n3_ := Aside0.mk (blk_below BK167.out hb); have n4_ := Aside0.mk (below_step HB.out hb); have n5_ := Aside0.mk (hbox); have n6_ := Aside0.mk ((by rw [hg]; exact (below_size HB.out) : w.heap.size ≤ gb221)); have n7_ := Aside0.mk ((by rw [hg]; exact (below_size HB.out) : w.heap.size ≤ gb221)); have n8_ := Aside0.mk ((by rw [hg]; exact Nat.ne_of_lt (blk_lt BK165.out) : gb165 ≠ gb221)); have n9_ := Aside0.mk ((by rw [hg]; exact Nat.ne_of_lt (blk_lt BK167.out) : gb167 ≠ gb221)); clear HO_5; clear HO220; clear BK165; clear BK167; clear HB; have HO_5 := n0_; have HO220 := n1_; have BK165 := n2_; have BK167 := n3_; have HB := n4_; have BK221 := n5_; have GW221 := n6_; have GE221 := n7_; have NB165_221 := n8_; have NB167_221 := n9_; clear n0_ n1_ n2_ n3_ n4_ n5_ n6_ n7_ n8_ n9_; clear hb hbox hg) | ((with_reducible refine gate_store (t := 40) (p := 8) rfl ?_); refine store_row (t := 40) (p := 8) (v := ?vo_w159) ?hgd ?ho ?hN gb221 0 #[.int .i64 0, .int .i64 0, .int .i64 0, .slice none 0 0] [.int .i64 0, .int .i64 0, .int .i64 0, .slice none 0 0] #[.int .i64 0, .int .i64 0, .int .i64 0, .slice none 0 0] ?hx ?hy BK221.out szi40 (Nat.le_of_ble_eq_true rfl) ?h1 ?hnew ?_; (case ho | hgd | hN | hx => rfl); (case hy => first | rfl | (go_simp; done) | (go_simp; rfl)); (case h1 | hnew => rfl); intro w159 hbox hg; replace HO_5 := Aside0.mk (Kd.S_grown HO_5.out hg (fun k_ hk e_ => (hk.2) (Option.some.inj e_))); replace HO220 := Aside0.mk (Kd.R_mono (Kd.R_grown (Kd.R_types HO220.out BK221.out (by decide)) hg (fun k_ hk e_ => hk.2 (Option.some.inj e_))) (fun k_ hk => hk.1)); replace BK165 := Aside0.mk (blk_grown BK165.out hg (nbi NB165_221)); replace BK167 := Aside0.mk (blk_grown BK167.out hg (nbi NB167_221)); replace HB := Aside0.mk (pw_below_grown HB.out (some gb221) (below_size HB.out) hg (fun k_ e_ => by cases e_; exact GE221.out)); replace BK221 := Aside0.mk (hbox); clear hbox hg))
              go_roundg k1
              case measure => have := HK1.out; omega
              case rel => exact ⟨(x5_1), (wrap64 (x12_1 + 1)), (y218), (false), (false), (true), (x166004_1), (.slice Ao155 y218.length co155), (by first | rfl | (simp; done) | (simp [*]; done)), H', ⟨by have := HK1.out; omega⟩, ⟨by (with_reducible repeat (first | apply Kd.S_alloc | apply Kd.S_drewN | apply Kd.S_drew)); exact Kd.S_mono HO_5.out (fun _ hk => hk.1.2)⟩, ⟨by (with_reducible repeat (first | apply Kd.R_alloc | apply Kd.R_drewN | apply Kd.R_drew)); exact HO220.out⟩, ⟨by exact BK165.out⟩, ⟨by exact HB.out⟩⟩
             ·rw [if_neg c151] at H
              exact absurd H (by simp)
           ·rw [if_neg c143] at H
            have c143b0 : ((Go.bits .xor .u8 (rd l0 x12_1) 32) == 125) = false := beq_eq_false_iff_ne.mpr c143
            have c143b1 : ((Go.bits .xor .u8 (rd l0 x12_1) 32) != 125) = true := bne_iff_ne.mpr c143
            (first | rw [c143b0] | (simp only [i64_w, i32_w]; rw [c143b0]) | skip)
            have H' := Aside0.mk H
            clear H
            try go_wp2_with (first | ((with_reducible refine gate_store (t := 4) (p := 49) rfl ?_); refine store_row (t := 4) (p := 49) (v := ?vo_w160) ?hgd ?ho ?hN gb165 2 #[u166000, .bool false, .bool false, .bool true, .int .i64 x166004_1] [.bool true] #[u166000, .bool false, .bool true, .bool true, .int .i64 x166004_1] ?hx ?hy BK165.out szi4 (Nat.le_of_ble_eq_true rfl) ?h1 ?hnew ?_; (case ho | hgd | hN | hx => rfl); (case hy => first | rfl | (go_simp; done) | (go_simp; rfl)); (case h1 | hnew => rfl); intro w160 hbox hg; replace HO_5 := Aside0.mk (Kd.S_mono (Kd.S_grown (Kd.S_types HO_5.out BK165.out (by decide)) hg (fun k_ hk e_ => hk.2 (Option.some.inj e_))) (fun k_ hk => hk.1)); replace HO_166000 := Aside0.mk (Kd.R_mono (Kd.R_grown (Kd.R_types HO_166000.out BK165.out (by decide)) hg (fun k_ hk e_ => hk.2 (Option.some.inj e_))) (fun k_ hk => hk.1)); replace BK167 := Aside0.mk (blk_grown BK167.out hg (nbi NB167_165)); replace HB := Aside0.mk (pw_below_grown HB.out (some gb165) (below_size HB.out) hg (fun k_ e_ => by cases e_; exact GE165.out)); replace BK165 := Aside0.mk (hbox); clear hbox hg) | ((with_reducible refine gate_store (t := 40) (p := 4) rfl ?_); refine store_row (t := 40) (p := 4) (v := ?vo_w161) ?hgd ?ho ?hN gb167 0 #[.int .i64 0, .int .i64 0, .int .i64 0, .slice none 0 0] [.int .i64 0, .int .i64 0, .int .i64 0, .slice none 0 0] #[.int .i64 0, .int .i64 0, .int .i64 0, .slice none 0 0] ?hx ?hy BK167.out szi40 (Nat.le_of_ble_eq_true rfl) ?h1 ?hnew ?_; (case ho | hgd | hN | hx => rfl); (case hy => first | rfl | (go_simp; done) | (go_simp; rfl)); (case h1 | hnew => rfl); intro w161 hbox hg; replace HO_5 := Aside0.mk (Kd.S_grown HO_5.out hg (fun k_ hk e_ => (hk.2) (Option.some.inj e_))); replace HO_166000 := Aside0.mk (Kd.R_mono (Kd.R_grown (Kd.R_types HO_166000.out BK167.out (by decide)) hg (fun k_ hk e_ => hk.2 (Option.some.inj e_))) (fun k_ hk => hk.1)); replace BK165 := Aside0.mk (blk_grown BK165.out hg (nbi NB165_167)); replace HB := Aside0.mk (pw_below_grown HB.out (some gb167) (below_size HB.out) hg (fun k_ e_ => by cases e_; exact GE167.out)); replace BK167 := Aside0.mk (hbox); clear hbox hg))
            (try simp only [Exit.inBlock, Exit.then])
            refine bodyPost_ret (results_ct rfl _ _ gb167 40 #[.int .i64 0, .int .i64 0, .int .i64 0, .slice none 0 0] (0, 0) _ rfl BK167.out Try.underlying40 rfl (by kernel_rfl)) rfl ?_
            try go_wp2_with (first | ((with_reducible refine gate_dst (N := 8) rfl ?_); refine box_event ?hg (N := 8) ?hd (cs := #[.int .i64 0, .int .i64 0, .int .i64 0, .slice none 0 0]) (t := 40) ?hr ?_; (case hd | hg => rfl); (case hr => first | (go_simp; done) | (go_simp; rfl)); intro gb222 hg w162 hbox hb; have n0_ := Aside0.mk (Kd.S_below (Kd.S_elderB (by (with_reducible repeat (first | apply Kd.S_alloc | apply Kd.S_drewN | apply Kd.S_drew)); exact HO_5.out) gb222 (Nat.le_of_eq hg.symm)) hb); have n1_ := Aside0.mk (Kd.R_below (by (with_reducible repeat (first | apply Kd.R_alloc | apply Kd.R_drewN | apply Kd.R_drew)); exact HO_166000.out) hb); have n2_ := Aside0.mk (blk_below BK165.out hb); have n3_ := Aside0.mk (blk_below BK167.out hb); have n4_ := Aside0.mk (below_step HB.out hb); have n5_ := Aside0.mk (hbox); have n6_ := Aside0.mk ((by rw [hg]; exact (below_size HB.out) : w.heap.size ≤ gb222)); have n7_ := Aside0.mk ((by rw [hg]; exact (below_size HB.out) : w.heap.size ≤ gb222)); have n8_ := Aside0.mk ((by rw [hg]; exact Nat.ne_of_lt (blk_lt BK165.out) : gb165 ≠ gb222)); have n9_ := Aside0.mk ((by rw [hg]; exact Nat.ne_of_lt (blk_lt BK167.out) : gb167 ≠ gb222)); clear HO_5; clear HO_166000; clear BK165; clear BK167; clear HB; have HO_5 := n0_; have HO_166000 := n1_; have BK165 := n2_; have BK167 := n3_; have HB := n4_; have BK222 := n5_; have GW222 := n6_; have GE222 := n7_; have NB165_222 := n8_; have NB167_222 := n9_; clear n0_ n1_ n2_ n3_ n4_ n5_ n6_ n7_ n8_ n9_; clear hb hbox hg) | ((with_reducible refine gate_store (t := 40) (p := 8) rfl ?_); refine store_row (t := 40) (p := 8) (v := ?vo_w163) ?hgd ?ho ?hN gb222 0 #[.int .i64 0, .int .i64 0, .int .i64 0, .slice none 0 0] [.int .i64 0, .int .i64 0, .int .i64 0, .slice none 0 0] #[.int .i64 0, .int .i64 0, .int .i64 0, .slice none 0 0] ?hx ?hy BK222.out szi40 (Nat.le_of_ble_eq_true rfl) ?h1 ?hnew ?_; (case ho | hgd | hN | hx => rfl); (case hy => first | rfl | (go_simp; done) | (go_simp; rfl)); (case h1 | hnew => rfl); intro w163 hbox hg; replace HO_5 := Aside0.mk (Kd.S_grown HO_5.out hg (fun k_ hk e_ => (hk.2) (Option.some.inj e_))); replace HO_166000 := Aside0.mk (Kd.R_mono (Kd.R_grown (Kd.R_types HO_166000.out BK222.out (by decide)) hg (fun k_ hk e_ => hk.2 (Option.some.inj e_))) (fun k_ hk => hk.1)); replace BK165 := Aside0.mk (blk_grown BK165.out hg (nbi NB165_222)); replace BK167 := Aside0.mk (blk_grown BK167.out hg (nbi NB167_222)); replace HB := Aside0.mk (pw_below_grown HB.out (some gb222) (below_size HB.out) hg (fun k_ e_ => by cases e_; exact GE222.out)); replace BK222 := Aside0.mk (hbox); clear hbox hg))
            go_roundg k1
            case measure => have := HK1.out; omega
            case rel => exact ⟨(x5_1), (wrap64 (x12_1 + 1)), (x166000_1), (false), (true), (true), (x166004_1), (u166000), (by first | rfl | (simp; done) | (simp [*]; done)), H', ⟨by have := HK1.out; omega⟩, ⟨by (with_reducible repeat (first | apply Kd.S_alloc | apply Kd.S_drewN | apply Kd.S_drew)); exact Kd.S_mono HO_5.out (fun _ hk => hk.1.1)⟩, ⟨by (with_reducible repeat (first | apply Kd.R_alloc | apply Kd.R_drewN | apply Kd.R_drew)); exact HO_166000.out⟩, ⟨by exact BK165.out⟩, ⟨by exact HB.out⟩⟩
         ·replace c118 := Bool.eq_false_iff.mpr c118
          subst c118
          have H1 : (if (rd l0 x12_1) = 125 then (bus_Decode.l0 k1 x5_1 l0 (l0.length : Int) (wrap64 (x12_1 + 1)) x166000_1 true false true x166004_1) else (if (x166000_1.length : Int) = 21 then (bus_Decode.l0 k1 x5_1 l0 (l0.length : Int) (wrap64 (x12_1 + 1)) x166000_1 false true true x166004_1) else (if x166000_1.length < 140737488355328 then (bus_Decode.l0 k1 x5_1 l0 (l0.length : Int) (wrap64 (x12_1 + 1)) (x166000_1 ++ [rd l0 x12_1]) false false true x166004_1) else (none)))) = some (r1, r2) := by rw [if_neg (show ¬ (false = true) by decide)] at H; exact H
          clear H
          have H := H1
          clear H1
          by_cases c164 : (rd l0 x12_1) = 125
          ·rw [if_pos c164] at H
           have c164b0 : ((rd l0 x12_1) == 125) = true := beq_iff_eq.mpr c164
           have c164b1 : ((rd l0 x12_1) != 125) = false := bne_eq_false_iff_eq.mpr c164
           clear c164
           have H' := Aside0.mk H
           clear H
           have p166 : 0 ≤ (x12_1 : Int) := of_decide_eq_true (by first | (with_reducible assumption) | assumption)
           have q166 : x12_1 < (l0.length : Int) := of_decide_eq_true (by first | (with_reducible assumption) | assumption)
           obtain ⟨ad166, e166, hx166_0⟩ := Kd.at_int HR0.out x12_1 p166 q166
           cases e166
           replace hx166_0 := (HB.out.cell (World.block_lt_of_cell? w _ hx166_0)).trans hx166_0
           replace p166 := eq_true p166
           replace q166 := eq_true q166
           try go_wp2_with (first | (go_at_call 42; go_enter Try.func42, Try.ntmps42) | ((with_reducible refine gate_dst (N := 4) rfl ?_); refine box_event ?hg (N := 4) ?hd (cs := #[.int .i64 0, .int .i64 0, .int .i64 0, .slice none 0 0]) (t := 40) ?hr ?_; (case hd | hg => rfl); (case hr => first | (go_simp; done) | (go_simp; rfl)); intro gb167 hg w165 hbox hb; have n0_ := Aside0.mk (Kd.S_below (Kd.S_elderB (by (with_reducible repeat (first | apply Kd.S_alloc | apply Kd.S_drewN | apply Kd.S_drew)); exact HO_5.out) gb167 (Nat.le_of_eq hg.symm)) hb); have n1_ := Aside0.mk (Kd.R_below (by (with_reducible repeat (first | apply Kd.R_alloc | apply Kd.R_drewN | apply Kd.R_drew)); exact HO_166000.out) hb); have n2_ := Aside0.mk (blk_below BK165.out hb); have n3_ := Aside0.mk (below_step HB.out hb); have n4_ := Aside0.mk (hbox); have n5_ := Aside0.mk ((by rw [hg]; exact (below_size HB.out) : w.heap.size ≤ gb167)); have n6_ := Aside0.mk ((by rw [hg]; exact (below_size HB.out) : w.heap.size ≤ gb167)); have n7_ := Aside0.mk ((by rw [hg]; exact Nat.ne_of_lt (blk_lt BK165.out) : gb165 ≠ gb167)); have n8_ := Aside0.mk ((by rw [hg]; exact Nat.ne_of_gt (blk_lt BK165.out) : gb167 ≠ gb165)); clear HO_5; clear HO_166000; clear BK165; clear HB; have HO_5 := n0_; have HO_166000 := n1_; have BK165 := n2_; have HB := n3_; have BK167 := n4_; have GW167 := n5_; have GE167 := n6_; have NB165_167 := n7_; have NB167_165 := n8_; clear n0_ n1_ n2_ n3_ n4_ n5_ n6_ n7_ n8_; clear hb hbox hg; have hcz166_0 := tch5 BK165.out) | ((with_reducible refine gate_store (t := 4) (p := 55) rfl ?_); refine store_row (t := 4) (p := 55) (v := ?vo_w167) ?hgd ?ho ?hN gb165 1 #[u166000, .bool false, .bool false, .bool true, .int .i64 x166004_1] [.bool true] #[u166000, .bool true, .bool false, .bool true, .int .i64 x166004_1] ?hx ?hy BK165.out szi4 (Nat.le_of_ble_eq_true rfl) ?h1 ?hnew ?_; (case ho | hgd | hN | hx => rfl); (case hy => first | rfl | (go_simp; done) | (go_simp; rfl)); (case h1 | hnew => rfl); intro w167 hbox hg; replace HO_5 := Aside0.mk (Kd.S_mono (Kd.S_grown (Kd.S_types HO_5.out BK165.out (by decide)) hg (fun k_ hk e_ => hk.2 (Option.some.inj e_))) (fun k_ hk => hk.1)); replace HO_166000 := Aside0.mk (Kd.R_mono (Kd.R_grown (Kd.R_types HO_166000.out BK165.out (by decide)) hg (fun k_ hk e_ => hk.2 (Option.some.inj e_))) (fun k_ hk => hk.1)); replace BK167 := Aside0.mk (blk_grown BK167.out hg (nbi NB167_165)); replace HB := Aside0.mk (pw_below_grown HB.out (some gb165) (below_size HB.out) hg (fun k_ e_ => by cases e_; exact GE165.out)); replace BK165 := Aside0.mk (hbox); clear hbox hg) | ((with_reducible refine gate_store (t := 40) (p := 4) rfl ?_); refine store_row (t := 40) (p := 4) (v := ?vo_w168) ?hgd ?ho ?hN gb167 0 #[.int .i64 0, .int .i64 0, .int .i64 0, .slice none 0 0] [.int .i64 0, .int .i64 0, .int .i64 0, .slice none 0 0] #[.int .i64 0, .int .i64 0, .int .i64 0, .slice none 0 0] ?hx ?hy BK167.out szi40 (Nat.le_of_ble_eq_true rfl) ?h1 ?hnew ?_; (case ho | hgd | hN | hx => rfl); (case hy => first | rfl | (go_simp; done) | (go_simp; rfl)); (case h1 | hnew => rfl); intro w168 hbox hg; replace HO_5 := Aside0.mk (Kd.S_grown HO_5.out hg (fun k_ hk e_ => (hk.2) (Option.some.inj e_))); replace HO_166000 := Aside0.mk (Kd.R_mono (Kd.R_grown (Kd.R_types HO_166000.out BK167.out (by decide)) hg (fun k_ hk e_ => hk.2 (Option.some.inj e_))) (fun k_ hk => hk.1)); replace BK165 := Aside0.mk (blk_grown BK165.out hg (nbi NB165_167)); replace HB := Aside0.mk (pw_below_grown HB.out (some gb167) (below_size HB.out) hg (fun k_ e_ => by cases e_; exact GE167.out)); replace BK167 := Aside0.mk (hbox); clear hbox hg))
           (try simp only [Exit.inBlock, Exit.then])
           refine bodyPost_ret (results_ct rfl _ _ gb167 40 #[.int .i64 0, .int .i64 0, .int .i64 0, .slice none 0 0] (0, 0) _ rfl BK167.out Try.underlying40 rfl (by kernel_rfl)) rfl ?_
           try go_wp2_with (first | ((with_reducible refine gate_dst (N := 8) rfl ?_); refine box_event ?hg (N := 8) ?hd (cs := #[.int .i64 0, .int .i64 0, .int .i64 0, .slice none 0 0]) (t := 40) ?hr ?_; (case hd | hg => rfl); (case hr => first | (go_simp; done) | (go_simp; rfl)); intro gb223 hg w169 hbox hb; have n0_ := Aside0.mk (Kd.S_below (Kd.S_elderB (by (with_reducible repeat (first | apply Kd.S_alloc | apply Kd.S_drewN | apply Kd.S_drew)); exact HO_5.out) gb223 (Nat.le_of_eq hg.symm)) hb); have n1_ := Aside0.mk (Kd.R_below (by (with_reducible repeat (first | apply Kd.R_alloc | apply Kd.R_drewN | apply Kd.R_drew)); exact HO_166000.out) hb); have n2_ := Aside0.mk (blk_below BK165.out hb); have n3_ := Aside0.mk (blk_below BK167.out hb); have n4_ := Aside0.mk (below_step HB.out hb); have n5_ := Aside0.mk (hbox); have n6_ := Aside0.mk ((by rw [hg]; exact (below_size HB.out) : w.heap.size ≤ gb223)); have n7_ := Aside0.mk ((by rw [hg]; exact (below_size HB.out) : w.heap.size ≤ gb223)); have n8_ := Aside0.mk ((by rw [hg]; exact Nat.ne_of_lt (blk_lt BK165.out) : gb165 ≠ gb223)); have n9_ := Aside0.mk ((by rw [hg]; exact Nat.ne_of_lt (blk_lt BK167.out) : gb167 ≠ gb223)); clear HO_5; clear HO_166000; clear BK165; clear BK167; clear HB; have HO_5 := n0_; have HO_166000 := n1_; have BK165 := n2_; have BK167 := n3_; have HB := n4_; have BK223 := n5_; have GW223 := n6_; have GE223 := n7_; have NB165_223 := n8_; have NB167_223 := n9_; clear n0_ n1_ n2_ n3_ n4_ n5_ n6_ n7_ n8_ n9_; clear hb hbox hg) | ((with_reducible refine gate_store (t := 40) (p := 8) rfl ?_); refine store_row (t := 40) (p := 8) (v := ?vo_w170) ?hgd ?ho ?hN gb223 0 #[.int .i64 0, .int .i64 0, .int .i64 0, .slice none 0 0] [.int .i64 0, .int .i64 0, .int .i64 0, .slice none 0 0] #[.int .i64 0, .int .i64 0, .int .i64 0, .slice none 0 0] ?hx ?hy BK223.out szi40 (Nat.le_of_ble_eq_true rfl) ?h1 ?hnew ?_; (case ho | hgd | hN | hx => rfl); (case hy => first | rfl | (go_simp; done) | (go_simp; rfl)); (case h1 | hnew => rfl); intro w170 hbox hg; replace HO_5 := Aside0.mk (Kd.S_grown HO_5.out hg (fun k_ hk e_ => (hk.2) (Option.some.inj e_))); replace HO_166000 := Aside0.mk (Kd.R_mono (Kd.R_grown (Kd.R_types HO_166000.out BK223.out (by decide)) hg (fun k_ hk e_ => hk.2 (Option.some.inj e_))) (fun k_ hk => hk.1)); replace BK165 := Aside0.mk (blk_grown BK165.out hg (nbi NB165_223)); replace BK167 := Aside0.mk (blk_grown BK167.out hg (nbi NB167_223)); replace HB := Aside0.mk (pw_below_grown HB.out (some gb223) (below_size HB.out) hg (fun k_ e_ => by cases e_; exact GE223.out)); replace BK223 := Aside0.mk (hbox); clear hbox hg))
           go_roundg k1
           case measure => have := HK1.out; omega
           case rel => exact ⟨(x5_1), (wrap64 (x12_1 + 1)), (x166000_1), (true), (false), (true), (x166004_1), (u166000), (by first | rfl | (simp; done) | (simp [*]; done)), H', ⟨by have := HK1.out; omega⟩, ⟨by (with_reducible repeat (first | apply Kd.S_alloc | apply Kd.S_drewN | apply Kd.S_drew)); exact Kd.S_mono HO_5.out (fun _ hk => hk.1.1)⟩, ⟨by (with_reducible repeat (first | apply Kd.R_alloc | apply Kd.R_drewN | apply Kd.R_drew)); exact HO_166000.out⟩, ⟨by exact BK165.out⟩, ⟨by exact HB.out⟩⟩
          ·rw [if_neg c164] at H
           have c164b0 : ((rd l0 x12_1) == 125) = false := beq_eq_false_iff_ne.mpr c164
           have c164b1 : ((rd l0 x12_1) != 125) = true := bne_iff_ne.mpr c164
           by_cases c171 : (x166000_1.length : Int) = 21
           ·rw [if_pos c171] at H
            have c171b0 : ((x166000_1.length : Int) == 21) = true := beq_iff_eq.mpr c171
            have c171b1 : ((x166000_1.length : Int) != 21) = false := bne_eq_false_iff_eq.mpr c171
            clear c171
            have H' := Aside0.mk H
            clear H
            have p166 : 0 ≤ (x12_1 : Int) := of_decide_eq_true (by first | (with_reducible assumption) | assumption)
            have q166 : x12_1 < (l0.length : Int) := of_decide_eq_true (by first | (with_reducible assumption) | assumption)
            obtain ⟨ad166, e166, hx166_0⟩ := Kd.at_int HR0.out x12_1 p166 q166
            cases e166
            replace hx166_0 := (HB.out.cell (World.block_lt_of_cell? w _ hx166_0)).trans hx166_0
            replace p166 := eq_true p166
            replace q166 := eq_true q166
            try go_wp2_with (first | (go_at_call 42; go_enter Try.func42, Try.ntmps42) | ((with_reducible refine gate_dst (N := 4) rfl ?_); refine box_event ?hg (N := 4) ?hd (cs := #[.int .i64 0, .int .i64 0, .int .i64 0, .slice none 0 0]) (t := 40) ?hr ?_; (case hd | hg => rfl); (case hr => first | (go_simp; done) | (go_simp; rfl)); intro gb167 hg w172 hbox hb; have n0_ := Aside0.mk (Kd.S_below (Kd.S_elderB (by (with_reducible repeat (first | apply Kd.S_alloc | apply Kd.S_drewN | apply Kd.S_drew)); exact HO_5.out) gb167 (Nat.le_of_eq hg.symm)) hb); have n1_ := Aside0.mk (Kd.R_below (by (with_reducible repeat (first | apply Kd.R_alloc | apply Kd.R_drewN | apply Kd.R_drew)); exact HO_166000.out) hb); have n2_ := Aside0.mk (blk_below BK165.out hb); have n3_ := Aside0.mk (below_step HB.out hb); have n4_ := Aside0.mk (hbox); have n5_ := Aside0.mk ((by rw [hg]; exact (below_size HB.out) : w.heap.size ≤ gb167)); have n6_ := Aside0.mk ((by rw [hg]; exact (below_size HB.out) : w.heap.size ≤ gb167)); have n7_ := Aside0.mk ((by rw [hg]; exact Nat.ne_of_lt (blk_lt BK165.out) : gb165 ≠ gb167)); have n8_ := Aside0.mk ((by rw [hg]; exact Nat.ne_of_gt (blk_lt BK165.out) : gb167 ≠ gb165)); clear HO_5; clear HO_166000; clear BK165; clear HB; have HO_5 := n0_; have HO_166000 := n1_; have BK165 := n2_; have HB := n3_; have BK167 := n4_; have GW167 := n5_; have GE167 := n6_; have NB165_167 := n7_; have NB167_165 := n8_; clear n0_ n1_ n2_ n3_ n4_ n5_ n6_ n7_ n8_; clear hb hbox hg; have hcz173_0 := tch5 BK165.out; obtain ⟨Ao174, co174, eo174⟩ := Kd.R_slice HO_166000.out; subst eo174) | (go_at_call 51; go_enter Try.func51, Try.ntmps51) | ((with_reducible refine gate_store (t := 4) (p := 12) rfl ?_); refine store_row (t := 4) (p := 12) (v := ?vo_w175) ?hgd ?ho ?hN gb165 2 #[.slice Ao174 x166000_1.length co174, .bool false, .bool false, .bool true, .int .i64 x166004_1] [.bool true] #[.slice Ao174 x166000_1.length co174, .bool false, .bool true, .bool true, .int .i64 x166004_1] ?hx ?hy BK165.out szi4 (Nat.le_of_ble_eq_true rfl) ?h1 ?hnew ?_; (case ho | hgd | hN | hx => rfl); (case hy => first | rfl | (go_simp; done) | (go_simp; rfl)); (case h1 | hnew => rfl); intro w175 hbox hg; replace HO_5 := Aside0.mk (Kd.S_mono (Kd.S_grown (Kd.S_types HO_5.out BK165.out (by decide)) hg (fun k_ hk e_ => hk.2 (Option.some.inj e_))) (fun k_ hk => hk.1)); replace HO_166000 := Aside0.mk (Kd.R_mono (Kd.R_grown (Kd.R_types HO_166000.out BK165.out (by decide)) hg (fun k_ hk e_ => hk.2 (Option.some.inj e_))) (fun k_ hk => hk.1)); replace BK167 := Aside0.mk (blk_grown BK167.out hg (nbi NB167_165)); replace HB := Aside0.mk (pw_below_grown HB.out (some gb165) (below_size HB.out) hg (fun k_ e_ => by cases e_; exact GE165.out)); replace BK165 := Aside0.mk (hbox); clear hbox hg))
            (try simp only [Exit.inBlock, Exit.then])
            refine bodyPost_ret (results_none rfl _ _ _) rfl ?_
            try go_wp2_with (first | ((with_reducible refine gate_store (t := 40) (p := 4) rfl ?_); refine store_row (t := 40) (p := 4) (v := ?vo_w176) ?hgd ?ho ?hN gb167 0 #[.int .i64 0, .int .i64 0, .int .i64 0, .slice none 0 0] [.int .i64 0, .int .i64 0, .int .i64 0, .slice none 0 0] #[.int .i64 0, .int .i64 0, .int .i64 0, .slice none 0 0] ?hx ?hy BK167.out szi40 (Nat.le_of_ble_eq_true rfl) ?h1 ?hnew ?_; (case ho | hgd | hN | hx => rfl); (case hy => first | rfl | (go_simp; done) | (go_simp; rfl)); (case h1 | hnew => rfl); intro w176 hbox hg; replace HO_5 := Aside0.mk (Kd.S_grown HO_5.out hg (fun k_ hk e_ => (hk.2) (Option.some.inj e_))); replace HO_166000 := Aside0.mk (Kd.R_mono (Kd.R_grown (Kd.R_types HO_166000.out BK167.out (by decide)) hg (fun k_ hk e_ => hk.2 (Option.some.inj e_))) (fun k_ hk => hk.1)); replace BK165 := Aside0.mk (blk_grown BK165.out hg (nbi NB165_167)); replace HB := Aside0.mk (pw_below_grown HB.out (some gb167) (below_size HB.out) hg (fun k_ e_ => by cases e_; exact GE167.out)); replace BK167 := Aside0.mk (hbox); clear hbox hg))
            (try simp only [Exit.inBlock, Exit.then])
            refine bodyPost_ret (results_ct rfl _ _ gb167 40 #[.int .i64 0, .int .i64 0, .int .i64 0, .slice none 0 0] (0, 0) _ rfl BK167.out Try.underlying40 rfl (by kernel_rfl)) rfl ?_
            try go_wp2_with (first | ((with_reducible refine gate_dst (N := 8) rfl ?_); refine box_event ?hg (N := 8) ?hd (cs := #[.int .i64 0, .int .i64 0, .int .i64 0, .slice none 0 0]) (t := 40) ?hr ?_; (case hd | hg => rfl); (case hr => first | (go_simp; done) | (go_simp; rfl)); intro gb224 hg w177 hbox hb; have n0_ := Aside0.mk (Kd.S_below (Kd.S_elderB (by (with_reducible repeat (first | apply Kd.S_alloc | apply Kd.S_drewN | apply Kd.S_drew)); exact HO_5.out) gb224 (Nat.le_of_eq hg.symm)) hb); have n1_ := Aside0.mk (Kd.R_below (by (with_reducible repeat (first | apply Kd.R_alloc | apply Kd.R_drewN | apply Kd.R_drew)); exact HO_166000.out) hb); have n2_ := Aside0.mk (blk_below BK165.out hb); have n3_ := Aside0.mk (blk_below BK167.out hb); have n4_ := Aside0.mk (below_step HB.out hb); have n5_ := Aside0.mk (hbox); have n6_ := Aside0.mk ((by rw [hg]; exact (below_size HB.out) : w.heap.size ≤ gb224)); have n7_ := Aside0.mk ((by rw [hg]; exact (below_size HB.out) : w.heap.size ≤ gb224)); have n8_ := Aside0.mk ((by rw [hg]; exact Nat.ne_of_lt (blk_lt BK165.out) : gb165 ≠ gb224)); have n9_ := Aside0.mk ((by rw [hg]; exact Nat.ne_of_lt (blk_lt BK167.out) : gb167 ≠ gb224)); clear HO_5; clear HO_166000; clear BK165; clear BK167; clear HB; have HO_5 := n0_; have HO_166000 := n1_; have BK165 := n2_; have BK167 := n3_; have HB := n4_; have BK224 := n5_; have GW224 := n6_; have GE224 := n7_; have NB165_224 := n8_; have NB167_224 := n9_; clear n0_ n1_ n2_ n3_ n4_ n5_ n6_ n7_ n8_ n9_; clear hb hbox hg) | ((with_reducible refine gate_store (t := 40) (p := 8) rfl ?_); refine store_row (t := 40) (p := 8) (v := ?vo_w178) ?hgd ?ho ?hN gb224 0 #[.int .i64 0, .int .i64 0, .int .i64 0, .slice none 0 0] [.int .i64 0, .int .i64 0, .int .i64 0, .slice none 0 0] #[.int .i64 0, .int .i64 0, .int .i64 0, .slice none 0 0] ?hx ?hy BK224.out szi40 (Nat.le_of_ble_eq_true rfl) ?h1 ?hnew ?_; (case ho | hgd | hN | hx => rfl); (case hy => first | rfl | (go_simp; done) | (go_simp; rfl)); (case h1 | hnew => rfl); intro w178 hbox hg; replace HO_5 := Aside0.mk (Kd.S_grown HO_5.out hg (fun k_ hk e_ => (hk.2) (Option.some.inj e_))); replace HO_166000 := Aside0.mk (Kd.R_mono (Kd.R_grown (Kd.R_types HO_166000.out BK224.out (by decide)) hg (fun k_ hk e_ => hk.2 (Option.some.inj e_))) (fun k_ hk => hk.1)); replace BK165 := Aside0.mk (blk_grown BK165.out hg (nbi NB165_224)); replace BK167 := Aside0.mk (blk_grown BK167.out hg (nbi NB167_224)); replace HB := Aside0.mk (pw_below_grown HB.out (some gb224) (below_size HB.out) hg (fun k_ e_ => by cases e_; exact GE224.out)); replace BK224 := Aside0.mk (hbox); clear hbox hg))
            go_roundg k1
            case measure => have := HK1.out; omega
            case rel => exact ⟨(x5_1), (wrap64 (x12_1 + 1)), (x166000_1), (false), (true), (true), (x166004_1), (.slice Ao174 x166000_1.length co174), (by first | rfl | (simp; done) | (simp [*]; done)), H', ⟨by have := HK1.out; omega⟩, ⟨by (with_reducible repeat (first | apply Kd.S_alloc | apply Kd.S_drewN | apply Kd.S_drew)); exact Kd.S_mono HO_5.out (fun _ hk => hk.1.1)⟩, ⟨by (with_reducible repeat (first | apply Kd.R_alloc | apply Kd.R_drewN | apply Kd.R_drew)); exact HO_166000.out⟩, ⟨by exact BK165.out⟩, ⟨by exact HB.out⟩⟩
           ·rw [if_neg c171] at H
            have c171b0 : ((x166000_1.length : Int) == 21) = false := beq_eq_false_iff_ne.mpr c171
            have c171b1 : ((x166000_1.length : Int) != 21) = true := bne_iff_ne.mpr c171
            by_cases c179 : x166000_1.length < 140737488355328
            ·rw [if_pos c179] at H
             have LMc179 := Aside0.mk c179
             clear c179
             obtain ⟨y225, hy225⟩ : ∃ y_ : List Int, y_ = (x166000_1 ++ [rd l0 x12_1]) := ⟨_, rfl⟩
             replace H : (bus_Decode.l0 k1 x5_1 l0 (l0.length : Int) (wrap64 (x12_1 + 1)) y225 false false true x166004_1) = some (r1, r2) := by first | (rw [hy225]; with_reducible exact H) | (have H2_ := (Option.bind_some _ _).symm.trans H; rw [hy225]; with_reducible exact H2_) | (have H2_ := (Option.bind_some _ _).symm.trans H; with_reducible exact H2_) | with_reducible exact H | (rw [hy225]; exact H) | exact H
             have Ny225 := Aside0.mk hy225
             clear hy225
             have H' := Aside0.mk H
             clear H
             have p166 : 0 ≤ (x12_1 : Int) := of_decide_eq_true (by first | (with_reducible assumption) | assumption)
             have q166 : x12_1 < (l0.length : Int) := of_decide_eq_true (by first | (with_reducible assumption) | assumption)
             obtain ⟨ad166, e166, hx166_0⟩ := Kd.at_int HR0.out x12_1 p166 q166
             cases e166
             replace hx166_0 := (HB.out.cell (World.block_lt_of_cell? w _ hx166_0)).trans hx166_0
             replace p166 := eq_true p166
             replace q166 := eq_true q166
             try go_wp2_with (first | (go_at_call 42; go_enter Try.func42, Try.ntmps42) | ((with_reducible refine gate_dst (N := 4) rfl ?_); refine box_event ?hg (N := 4) ?hd (cs := #[.int .i64 0, .int .i64 0, .int .i64 0, .slice none 0 0]) (t := 40) ?hr ?_; (case hd | hg => rfl); (case hr => first | (go_simp; done) | (go_simp; rfl)); intro gb167 hg w180 hbox hb; have n0_ := Aside0.mk (Kd.S_below (Kd.S_elderB (by (with_reducible repeat (first | apply Kd.S_alloc | apply Kd.S_drewN | apply Kd.S_drew)); exact HO_5.out) gb167 (Nat.le_of_eq hg.symm)) hb); have n1_ := Aside0.mk (Kd.R_below (by (with_reducible repeat (first | apply Kd.R_alloc | apply Kd.R_drewN | apply Kd.R_drew)); exact HO_166000.out) hb); have n2_ := Aside0.mk (blk_below BK165.out hb); have n3_ := Aside0.mk (below_step HB.out hb); have n4_ := Aside0.mk (hbox); have n5_ := Aside0.mk ((by rw [hg]; exact (below_size HB.out) : w.heap.size ≤ gb167)); have n6_ := Aside0.mk ((by rw [hg]; exact (below_size HB.out) : w.heap.size ≤ gb167)); have n7_ := Aside0.mk ((by rw [hg]; exact Nat.ne_of_lt (blk_lt BK165.out) : gb165 ≠ gb167)); have n8_ := Aside0.mk ((by rw [hg]; exact Nat.ne_of_gt (blk_lt BK165.out) : gb167 ≠ gb165)); clear HO_5; clear HO_166000; clear BK165; clear HB; have HO_5 := n0_; have HO_166000 := n1_; have BK165 := n2_; have HB := n3_; have BK167 := n4_; have GW167 := n5_; have GE167 := n6_; have NB165_167 := n7_; have NB167_165 := n8_; clear n0_ n1_ n2_ n3_ n4_ n5_ n6_ n7_ n8_; clear hb hbox hg; have hcz181_0 := tch5 BK165.out; obtain ⟨Ao182, co182, eo182⟩ := Kd.R_slice HO_166000.out; subst eo182) | (go_at_call 51; go_enter Try.func51, Try.ntmps51) | ((with_reducible refine gate_builtin (b := .append) (xs := #[.tmp 17, .tmp 19]) rfl ?_); at_builtin; refine Kd.R_append (Kd.int .u8) (w0 := w) w.heap.size rfl (.tmp 17) (.tmp 19) 38 5 (.int .u8 0) 1 rfl Try.underlying38 info5 rfl (by decide) (by omega) (.slice Ao182 x166000_1.length co182) x166000_1 (rd l0 x12_1) [.int .u8 (rd l0 x12_1)] (fun _ => True) (fun _ => False) rfl rfl ?aP (fun _ hk => hk.elim) ?aF ?aO ?aB ?aS ?aL ?_; (case aP => exact rfl); (case aB => exact HB.out); (case aF => exact (fun _ _ => trivial)); (case aO => exact (by (with_reducible repeat (first | apply Kd.R_alloc | apply Kd.R_drewN | apply Kd.R_drew)); exact HO_166000.out)); (case aS => exact (below_size HB.out)); (case aL => have := LMc179.out; omega); intro v226 w183 ho hb hg hat; rw [← Ny225.out] at ho; replace HO_5 := Aside0.mk (Kd.S_after (ok := (fun k_ => k_ ≠ gb167)) (by (with_reducible repeat (first | apply Kd.S_alloc | apply Kd.S_drewN | apply Kd.S_drew)); exact Kd.S_mono HO_5.out (fun _ hk => ⟨hk.2, hk.1⟩)) hg hat); replace BK165 := Aside0.mk (blk_grown BK165.out hg (Kd.R_ne HO_166000.out BK165.out (by decide))); replace BK167 := Aside0.mk (blk_grown BK167.out hg (Kd.R_ne HO_166000.out BK167.out (by decide))); replace HB := Aside0.mk (hb); have HO227 := Aside0.mk (ho); clear HO_166000; clear ho hb hg hat; obtain ⟨Ao184, co184, eo184⟩ := Kd.R_slice HO227.out; subst eo184) | ((with_reducible refine gate_store (t := 38) (p := 22) rfl ?_); refine store_row (t := 38) (p := 22) (v := ?vo_w185) ?hgd ?ho ?hN gb165 0 #[.slice Ao182 x166000_1.length co182, .bool false, .bool false, .bool true, .int .i64 x166004_1] [.slice Ao184 y225.length co184] #[.slice Ao184 y225.length co184, .bool false, .bool false, .bool true, .int .i64 x166004_1] ?hx ?hy BK165.out szi38 (Nat.le_of_ble_eq_true rfl) ?h1 ?hnew ?_; (case ho | hgd | hN | hx => rfl); (case hy => first | rfl | (go_simp; done) | (go_simp; rfl)); (case h1 | hnew => rfl); intro w185 hbox hg; replace HO_5 := Aside0.mk (Kd.S_mono (Kd.S_grown (Kd.S_types HO_5.out BK165.out (by decide)) hg (fun k_ hk e_ => hk.2 (Option.some.inj e_))) (fun k_ hk => hk.1)); replace HO227 := Aside0.mk (Kd.R_mono (Kd.R_grown (Kd.R_types HO227.out BK165.out (by decide)) hg (fun k_ hk e_ => hk.2 (Option.some.inj e_))) (fun k_ hk => hk.1)); replace BK167 := Aside0.mk (blk_grown BK167.out hg (nbi NB167_165)); replace HB := Aside0.mk (pw_below_grown HB.out (some gb165) (below_size HB.out) hg (fun k_ e_ => by cases e_; exact GE165.out)); replace BK165 := Aside0.mk (hbox); clear hbox hg))
             (try simp only [Exit.inBlock, Exit.then])
             refine bodyPost_end (results_none rfl _ _ _) rfl ?_
             try go_wp2_with (first | ((with_reducible refine gate_store (t := 40) (p := 4) rfl ?_); refine store_row (t := 40) (p := 4) (v := ?vo_w186) ?hgd ?ho ?hN gb167 0 #[.int .i64 0, .int .i64 0, .int .i64 0, .slice none 0 0] [.int .i64 0, .int .i64 0, .int .i64 0, .slice none 0 0] #[.int .i64 0, .int .i64 0, .int .i64 0, .slice none 0 0] ?hx ?hy BK167.out szi40 (Nat.le_of_ble_eq_true rfl) ?h1 ?hnew ?_; (case ho | hgd | hN | hx => rfl); (case hy => first | rfl | (go_simp; done) | (go_simp; rfl)); (case h1 | hnew => rfl); intro w186 hbox hg; replace HO_5 := Aside0.mk (Kd.S_grown HO_5.out hg (fun k_ hk e_ => (hk.1) (Option.some.inj e_))); replace HO227 := Aside0.mk (Kd.R_mono (Kd.R_grown (Kd.R_types HO227.out BK167.out (by decide)) hg (fun k_ hk e_ => hk.2 (Option.some.inj e_))) (fun k_ hk => hk.1)); replace BK165 := Aside0.mk (blk_grown BK165.out hg (nbi NB165_167)); replace HB := Aside0.mk (pw_below_grown HB.out (some gb167) (below_size HB.out) hg (fun k_ e_ => by cases e_; exact GE167.out)); replace BK167 := Aside0.mk (hbox); clear hbox hg))
             (try simp only [Exit.inBlock, Exit.then])
             refine bodyPost_ret (results_ct rfl _ _ gb167 40 #[.int .i64 0, .int .i64 0, .int .i64 0, .slice none 0 0] (0, 0) _ rfl BK167.out Try.underlying40 rfl (by kernel_rfl)) rfl ?_
             try go_wp2_with (first | ((with_reducible refine gate_dst (N := 8) rfl ?_); refine box_event ?hg (N := 8) ?hd (cs := #[.int .i64 0, .int .i64 0, .int .i64 0, .slice none 0 0]) (t := 40) ?hr ?_; (case hd | hg => rfl); (case hr => first | (go_simp; done) | (go_simp; rfl)); intro gb228 hg w187 hbox hb; have n0_ := Aside0.mk (Kd.S_below (Kd.S_elderB (by (with_reducible repeat (first | apply Kd.S_alloc | apply Kd.S_drewN | apply Kd.S_drew)); exact HO_5.out) gb228 (Nat.le_of_eq hg.symm)) hb); have n1_ := Aside0.mk (Kd.R_below (by (with_reducible repeat (first | apply Kd.R_alloc | apply Kd.R_drewN | apply Kd.R_drew)); exact HO227.out) hb); have n2_ := Aside0.mk (blk_below BK165.out hb); have n3_ := Aside0.mk (blk_below BK167.out hb); have n4_ := Aside0.mk (below_step HB.out hb); have n5_ := Aside0.mk (hbox); have n6_ := Aside0.mk ((by rw [hg]; exact (below_size HB.out) : w.heap.size ≤ gb228)); have n7_ := Aside0.mk ((by rw [hg]; exact (below_size HB.out) : w.heap.size ≤ gb228)); have n8_ := Aside0.mk ((by rw [hg]; exact Nat.ne_of_lt (blk_lt BK165.out) : gb165 ≠ gb228)); have n9_ := Aside0.mk ((by rw [hg]; exact Nat.ne_of_lt (blk_lt BK167.out) : gb167 ≠ gb228)); clear HO_5; clear HO227; clear BK165; clear BK167; clear HB; have HO_5 := n0_; have HO227 := n1_; have BK165 := n2_; have BK167 := n3_; have HB := n4_; have BK228 := n5_; have GW228 := n6_; have GE228 := n7_; have NB165_228 := n8_; have NB167_228 := n9_; clear n0_ n1_ n2_ n3_ n4_ n5_ n6_ n7_ n8_ n9_; clear hb hbox hg) | ((with_reducible refine gate_store (t := 40) (p := 8) rfl ?_); refine store_row (t := 40) (p := 8) (v := ?vo_w188) ?hgd ?ho ?hN gb228 0 #[.int .i64 0, .int .i64 0, .int .i64 0, .slice none 0 0] [.int .i64 0, .int .i64 0, .int .i64 0, .slice none 0 0] #[.int .i64 0, .int .i64 0, .int .i64 0, .slice none 0 0] ?hx ?hy BK228.out szi40 (Nat.le_of_ble_eq_true rfl) ?h1 ?hnew ?_; (case ho | hgd | hN | hx => rfl); (case hy => first | rfl | (go_simp; done) | (go_simp; rfl)); (case h1 | hnew => rfl); intro w188 hbox hg; replace HO_5 := Aside0.mk (Kd.S_grown HO_5.out hg (fun k_ hk e_ => (hk.2) (Option.some.inj e_))); replace HO227 := Aside0.mk (Kd.R_mono (Kd.R_grown (Kd.R_types HO227.out BK228.out (by decide)) hg (fun k_ hk e_ => hk.2 (Option.some.inj e_))) (fun k_ hk => hk.1)); replace BK165 := Aside0.mk (blk_grown BK165.out hg (nbi NB165_228)); replace BK167 := Aside0.mk (blk_grown BK167.out hg (nbi NB167_228)); replace HB := Aside0.mk (pw_below_grown HB.out (some gb228) (below_size HB.out) hg (fun k_ e_ => by cases e_; exact GE228.out)); replace BK228 := Aside0.mk (hbox); clear hbox hg))
             go_roundg k1
             case measure => have := HK1.out; omega
             case rel => exact ⟨(x5_1), (wrap64 (x12_1 + 1)), (y225), (false), (false), (true), (x166004_1), (.slice Ao184 y225.length co184), (by first | rfl | (simp; done) | (simp [*]; done)), H', ⟨by have := HK1.out; omega⟩, ⟨by (with_reducible repeat (first | apply Kd.S_alloc | apply Kd.S_drewN | apply Kd.S_drew)); exact Kd.S_mono HO_5.out (fun _ hk => hk.1.2)⟩, ⟨by (with_reducible repeat (first | apply Kd.R_alloc | apply Kd.R_drewN | apply Kd.R_drew)); exact HO227.out⟩, ⟨by exact BK165.out⟩, ⟨by exact HB.out⟩⟩
            ·rw [if_neg c179] at H
             exact absurd H (by simp)
        ·replace c117 := Bool.eq_false_iff.mpr c117
         subst c117
         have H1 : (bus_Decode.l0 k1 x5_1 l0 (l0.length : Int) (wrap64 (x12_1 + 1)) x166000_1 x166001_1 false false x166004_1) = some (r1, r2) := by rw [if_neg (show ¬ (false = true) by decide)] at H; exact H
         clear H
         have H := H1
         clear H1
         have H' := Aside0.mk H
         clear H
         have p166 : 0 ≤ (x12_1 : Int) := of_decide_eq_true (by first | (with_reducible assumption) | assumption)
         have q166 : x12_1 < (l0.length : Int) := of_decide_eq_true (by first | (with_reducible assumption) | assumption)
         obtain ⟨ad166, e166, hx166_0⟩ := Kd.at_int HR0.out x12_1 p166 q166
         cases e166
         replace hx166_0 := (HB.out.cell (World.block_lt_of_cell? w _ hx166_0)).trans hx166_0
         replace p166 := eq_true p166
         replace q166 := eq_true q166
         try go_wp2_with (first | (go_at_call 42; go_enter Try.func42, Try.ntmps42) | ((with_reducible refine gate_dst (N := 4) rfl ?_); refine box_event ?hg (N := 4) ?hd (cs := #[.int .i64 0, .int .i64 0, .int .i64 0, .slice none 0 0]) (t := 40) ?hr ?_; (case hd | hg => rfl); (case hr => first | (go_simp; done) | (go_simp; rfl)); intro gb167 hg w189 hbox hb; have n0_ := Aside0.mk (Kd.S_below (Kd.S_elderB (by (with_reducible repeat (first | apply Kd.S_alloc | apply Kd.S_drewN | apply Kd.S_drew)); exact HO_5.out) gb167 (Nat.le_of_eq hg.symm)) hb); have n1_ := Aside0.mk (Kd.R_below (by (with_reducible repeat (first | apply Kd.R_alloc | apply Kd.R_drewN | apply Kd.R_drew)); exact HO_166000.out) hb); have n2_ := Aside0.mk (blk_below BK165.out hb); have n3_ := Aside0.mk (below_step HB.out hb); have n4_ := Aside0.mk (hbox); have n5_ := Aside0.mk ((by rw [hg]; exact (below_size HB.out) : w.heap.size ≤ gb167)); have n6_ := Aside0.mk ((by rw [hg]; exact (below_size HB.out) : w.heap.size ≤ gb167)); have n7_ := Aside0.mk ((by rw [hg]; exact Nat.ne_of_lt (blk_lt BK165.out) : gb165 ≠ gb167)); have n8_ := Aside0.mk ((by rw [hg]; exact Nat.ne_of_gt (blk_lt BK165.out) : gb167 ≠ gb165)); clear HO_5; clear HO_166000; clear BK165; clear HB; have HO_5 := n0_; have HO_166000 := n1_; have BK165 := n2_; have HB := n3_; have BK167 := n4_; have GW167 := n5_; have GE167 := n6_; have NB165_167 := n7_; have NB167_165 := n8_; clear n0_ n1_ n2_ n3_ n4_ n5_ n6_ n7_ n8_; clear hb hbox hg; have hcz190_0 := tch5 BK165.out) | ((with_reducible refine gate_store (t := 40) (p := 4) rfl ?_); refine store_row (t := 40) (p := 4) (v := ?vo_w191) ?hgd ?ho ?hN gb167 0 #[.int .i64 0, .int .i64 0, .int .i64 0, .slice none 0 0] [.int .i64 0, .int .i64 0, .int .i64 0, .slice none 0 0] #[.int .i64 0, .int .i64 0, .int .i64 0, .slice none 0 0] ?hx ?hy BK167.out szi40 (Nat.le_of_ble_eq_true rfl) ?h1 ?hnew ?_; (case ho | hgd | hN | hx => rfl); (case hy => first | rfl | (go_simp; done) | (go_simp; rfl)); (case h1 | hnew => rfl); intro w191 hbox hg; replace HO_5 := Aside0.mk (Kd.S_grown HO_5.out hg (fun k_ hk e_ => (hk.2) (Option.some.inj e_))); replace HO_166000 := Aside0.mk (Kd.R_mono (Kd.R_grown (Kd.R_types HO_166000.out BK167.out (by decide)) hg (fun k_ hk e_ => hk.2 (Option.some.inj e_))) (fun k_ hk => hk.1)); replace BK165 := Aside0.mk (blk_grown BK165.out hg (nbi NB165_167)); replace HB := Aside0.mk (pw_below_grown HB.out (some gb167) (below_size HB.out) hg (fun k_ e_ => by cases e_; exact GE167.out)); replace BK167 := Aside0.mk (hbox); clear hbox hg))
         (try simp only [Exit.inBlock, Exit.then])
         refine bodyPost_ret (results_ct rfl _ _ gb167 40 #[.int .i64 0, .int .i64 0, .int .i64 0, .slice none 0 0] (0, 0) _ rfl BK167.out Try.underlying40 rfl (by kernel_rfl)) rfl ?_
         try go_wp2_with (first | ((with_reducible refine gate_dst (N := 8) rfl ?_); refine box_event ?hg (N := 8) ?hd (cs := #[.int .i64 0, .int .i64 0, .int .i64 0, .slice none 0 0]) (t := 40) ?hr ?_; (case hd | hg => rfl); (case hr => first | (go_simp; done) | (go_simp; rfl)); intro gb229 hg w192 hbox hb; have n0_ := Aside0.mk (Kd.S_below (Kd.S_elderB (by (with_reducible repeat (first | apply Kd.S_alloc | apply Kd.S_drewN | apply Kd.S_drew)); exact HO_5.out) gb229 (Nat.le_of_eq hg.symm)) hb); have n1_ := Aside0.mk (Kd.R_below (by (with_reducible repeat (first | apply Kd.R_alloc | apply Kd.R_drewN | apply Kd.R_drew)); exact HO_166000.out) hb); have n2_ := Aside0.mk (blk_below BK165.out hb); have n3_ := Aside0.mk (blk_below BK167.out hb); have n4_ := Aside0.mk (below_step HB.out hb); have n5_ := Aside0.mk (hbox); have n6_ := Aside0.mk ((by rw [hg]; exact (below_size HB.out) : w.heap.size ≤ gb229)); have n7_ := Aside0.mk ((by rw [hg]; exact (below_size HB.out) : w.heap.size ≤ gb229)); have n8_ := Aside0.mk ((by rw [hg]; exact Nat.ne_of_lt (blk_lt BK165.out) : gb165 ≠ gb229)); have n9_ := Aside0.mk ((by rw [hg]; exact Nat.ne_of_lt (blk_lt BK167.out) : gb167 ≠ gb229)); clear HO_5; clear HO_166000; clear BK165; clear BK167; clear HB; have HO_5 := n0_; have HO_166000 := n1_; have BK165 := n2_; have BK167 := n3_; have HB := n4_; have BK229 := n5_; have GW229 := n6_; have GE229 := n7_; have NB165_229 := n8_; have NB167_229 := n9_; clear n0_ n1_ n2_ n3_ n4_ n5_ n6_ n7_ n8_ n9_; clear hb hbox hg) | ((with_reducible refine gate_store (t := 40) (p := 8) rfl ?_); refine store_row (t := 40) (p := 8) (v := ?vo_w193) ?hgd ?ho ?hN gb229 0 #[.int .i64 0, .int .i64 0, .int .i64 0, .slice none 0 0] [.int .i64 0, .int .i64 0, .int .i64 0, .slice none 0 0] #[.int .i64 0, .int .i64 0, .int .i64 0, .slice none 0 0] ?hx ?hy BK229.out szi40 (Nat.le_of_ble_eq_true rfl) ?h1 ?hnew ?_; (case ho | hgd | hN | hx => rfl); (case hy => first | rfl | (go_simp; done) | (go_simp; rfl)); (case h1 | hnew => rfl); intro w193 hbox hg; replace HO_5 := Aside0.mk (Kd.S_grown HO_5.out hg (fun k_ hk e_ => (hk.2) (Option.some.inj e_))); replace HO_166000 := Aside0.mk (Kd.R_mono (Kd.R_grown (Kd.R_types HO_166000.out BK229.out (by decide)) hg (fun k_ hk e_ => hk.2 (Option.some.inj e_))) (fun k_ hk => hk.1)); replace BK165 := Aside0.mk (blk_grown BK165.out hg (nbi NB165_229)); replace BK167 := Aside0.mk (blk_grown BK167.out hg (nbi NB167_229)); replace HB := Aside0.mk (pw_below_grown HB.out (some gb229) (below_size HB.out) hg (fun k_ e_ => by cases e_; exact GE229.out)); replace BK229 := Aside0.mk (hbox); clear hbox hg))
         go_roundg k1
         case measure => have := HK1.out; omega
         case rel => exact ⟨(x5_1), (wrap64 (x12_1 + 1)), (x166000_1), (x166001_1), (false), (false), (x166004_1), (u166000), (by first | rfl | (simp; done) | (simp [*]; done)), H', ⟨by have := HK1.out; omega⟩, ⟨by (with_reducible repeat (first | apply Kd.S_alloc | apply Kd.S_drewN | apply Kd.S_drew)); exact Kd.S_mono HO_5.out (fun _ hk => hk.1.1)⟩, ⟨by (with_reducible repeat (first | apply Kd.R_alloc | apply Kd.R_drewN | apply Kd.R_drew)); exact HO_166000.out⟩, ⟨by exact BK165.out⟩, ⟨by exact HB.out⟩⟩
     ·rw [if_neg c5] at H
      exact absurd H (by simp)
    ·rw [if_neg c4] at H
     exact absurd H (by simp)
   ·rw [if_neg c3] at H
    have c3b0 : decide (x12_1 < (l0.length : Int)) = false := decide_eq_false c3
    clear c3
    simp only [Option.some.injEq, Prod.mk.injEq] at H
    obtain ⟨rfl, rfl⟩ := H
    try go_wp2
    replace HO_5 := Aside0.mk (Kd.S_drew HO_5.out)
    replace HO_166000 := Aside0.mk (Kd.R_drew HO_166000.out)
    replace BK165 := Aside0.mk (blk_drew BK165.out)
    replace HB := Aside0.mk (below_drew1 HB.out)
    refine start_ (n := 5) (S := fun w' => w'.cell? ⟨gb165, 0, none⟩ = some (u166000) ∧ w'.cell? ⟨gb165, 1, none⟩ = some (.bool x166001_1) ∧ w'.cell? ⟨gb165, 2, none⟩ = some (.bool x166002_1) ∧ w'.cell? ⟨gb165, 3, none⟩ = some (.bool x166003_1) ∧ w'.cell? ⟨gb165, 4, none⟩ = some (.int .i64 x166004_1)) (ds := []) #[false, false, false, false, false] (by kernel_rfl) rfl rfl ⟨(blk_cell BK165.out 0).trans rfl, (blk_cell BK165.out 1).trans rfl, (blk_cell BK165.out 2).trans rfl, (blk_cell BK165.out 3).trans rfl, (blk_cell BK165.out 4).trans rfl⟩ (fun hHeld => ?_)
    generalize wr.drew = w194 at HO_5 HO_166000 BK165 HB hHeld ⊢
    refine pure_ (i := 0) (N := some 27) (v := ?_) (a' := ?_) #[true, false, false, false, false] rfl rfl (by kernel_rfl) (fun _ _ _ h => h) (Or.inl ⟨by rfl, ?_⟩) ?_ ?_
    rotate_left
    ·intro w'
     go_simp
     with_reducible rfl
    rotate_left
    ·simp only [Act.put, List.setIfInBounds_toArray, List.set_cons_zero, List.set_cons_succ, i64_w, i32_w]
     rfl
    refine pure_ (i := 1) (N := some 28) (v := ?_) (a' := ?_) #[true, true, false, false, false] rfl rfl (by kernel_rfl) (fun _ _ _ h => h) (Or.inl ⟨by rfl, ?_⟩) ?_ ?_
    rotate_left
    ·intro w'
     go_simp
     with_reducible rfl
    rotate_left
    ·simp only [Act.put, List.setIfInBounds_toArray, List.set_cons_zero, List.set_cons_succ, i64_w, i32_w]
     rfl
    refine pure_ (i := 3) (N := some 2) (v := ?_) (a' := ?_) #[true, true, false, true, false] rfl rfl (by kernel_rfl) (fun _ _ _ h => h) (Or.inl ⟨by rfl, ?_⟩) ?_ ?_
    rotate_left
    ·intro w'
     go_simp
     with_reducible rfl
    rotate_left
    ·simp only [Act.put, List.setIfInBounds_toArray, List.set_cons_zero, List.set_cons_succ, i64_w, i32_w]
     rfl
    refine take_ (i := 2) (N := some 29) (v := ?_) (a' := ?_) #[true, true, true, true, false] rfl rfl (by kernel_rfl) (fun _ _ _ h => h) (Or.inl ⟨by rfl, ?_⟩) hHeld ?_ ?_
    rotate_left
    ·rintro w' ⟨s0, s1, s2, s3, s4⟩
     go_simp
     with_reducible rfl
    rotate_left
    ·simp only [Act.put, List.setIfInBounds_toArray, List.set_cons_zero, List.set_cons_succ, i64_w, i32_w]
     rfl
    refine pure_ (i := 4) (N := some 3) (v := ?_) (a' := ?_) #[true, true, true, true, true] rfl rfl (by kernel_rfl) (fun _ _ _ h => h) (Or.inl ⟨by rfl, ?_⟩) ?_ ?_
    rotate_left
    ·intro w'
     go_simp
     with_reducible rfl
    rotate_left
    ·simp only [Act.put, List.setIfInBounds_toArray, List.set_cons_zero, List.set_cons_succ, i64_w, i32_w]
     rfl
    refine done_ (by kernel_rfl) ?_
    try go_wp2
    go_ret2
    exact ⟨_, by first | rfl | (simp [errW_none, errW_some] <;> rfl) | (simp [*, errW_none, errW_some] <;> rfl), by (with_reducible repeat (first | apply Kd.S_alloc | apply Kd.S_drewN | apply Kd.S_drew)); exact Kd.S_mono HO_5.out (fun _ hk => trivial), by exact HB.out⟩

end Go.Proofs.Ytdnnjbokdckilaa.PBusFlags
