-- Written by a program of this session out of the translation (wip/tools).
import Derived.Test.YtdnnjbokdckilaaPBusFlagsx0
import Derived.Test.YtdnnjbokdckilaaPBusFlagsx1
import Derived.Test.YtdnnjbokdckilaaPBusFlagsx2
import Derived.Test.YtdnnjbokdckilaaPBusFlagsx4
namespace Go.Proofs.Ytdnnjbokdckilaa.PBusFlags
open Go.RowKit Go.Proofs.YtdnnjbokdckilaaW.PrintWords Go.Proofs.YtdnnjbokdckilaaW.PrintLast Go.Proofs.YtdnnjbokdckilaaW.PrintMore
attribute [local go_sem] max2_int min2_int max_two min_two max_three min_three max_four min_four   -- for this text's walks alone
set_option linter.unusedVariables false
set_option linter.unusedSimpArgs false

/-! ### slices_Index_byte_byte: function 41 -/
def slices_Index_byte_byte.l0 : Nat → List Int → Int → Int → Int → Option (Int)
  | 0, _, _, _, _ => none
  | k + 1, x0, x1, x7, x8 => if x8 < x7 then (if 0 ≤ x8 then (if x8 < (x0.length : Int) then (if x1 = (rd x0 x8) then (some x8) else (slices_Index_byte_byte.l0 k x0 x1 x7 (wrap64 (x8 + 1)))) else (none)) else (none)) else (some (-1))
def slices_Index_byte_byte.f (k : Nat) (l0 : List Int) (a1 : Int) : Option (Int) := slices_Index_byte_byte.l0 k l0 a1 (l0.length : Int) 0
theorem slices_Index_byte_byte.mono_l : ∀ k, (∀ y0 y1 y2 y3, LeO (slices_Index_byte_byte.l0 k y0 y1 y2 y3) (slices_Index_byte_byte.l0 (k + 1) y0 y1 y2 y3))
  | 0 => fun _ _ _ _ r h => by simp [slices_Index_byte_byte.l0] at h
  | k + 1 => by
    have ih0 := slices_Index_byte_byte.mono_l k
    · intro y0 y1 y2 y3
      unfold slices_Index_byte_byte.l0
      repeat' first
      | (with_reducible exact ih0 _ _ _ _)
      | (with_reducible exact LeO.refl _)
      | (with_reducible exact LeO.none _)
      | (with_reducible refine LeO.ite ?_ ?_)
      | (with_reducible refine LeO.bind ?_ (fun _ => ?_))
      | exact ih0 _ _ _ _
      | exact LeO.none _
      | refine LeO.ite ?_ ?_
      | refine LeO.bind ?_ (fun _ => ?_)
theorem slices_Index_byte_byte.mono : ∀ a0 a1 k, LeO (slices_Index_byte_byte.f k a0 a1) (slices_Index_byte_byte.f (k + 1) a0 a1) := by
  intro a0 a1 k
  have ih0 := slices_Index_byte_byte.mono_l k
  unfold slices_Index_byte_byte.f
  repeat' first
      | (with_reducible exact ih0 _ _ _ _)
      | (with_reducible exact LeO.refl _)
      | (with_reducible exact LeO.none _)
      | (with_reducible refine LeO.ite ?_ ?_)
      | (with_reducible refine LeO.bind ?_ (fun _ => ?_))
      | exact ih0 _ _ _ _
      | exact LeO.none _
      | refine LeO.ite ?_ ?_
      | refine LeO.bind ?_ (fun _ => ?_)
set_option maxHeartbeats 8000000 in
set_option maxRecDepth 100000 in
theorem slices_Index_byte_byte.calls (k : Nat) (A0 : Option Addr) (c0 : Nat) (l0 : List Int) (a1 : Int) (r : Int) (w : World) (hr0 : Kd.C (Kd.int .u8) w A0 l0.length l0) (hc0 : l0.length ≤ c0) (h : slices_Index_byte_byte.f k l0 a1 = some r) :
    Calls Try.prog 41 #[.slice A0 l0.length c0, .int .u8 a1] w fun e w' => e = .returned (.int .i64 r) ∧ w' = w := by
  have HR0 := Aside0.mk hr0
  have HC0 := Aside0.mk hc0
  clear hr0 hc0
  have H : (slices_Index_byte_byte.l0 k l0 a1 (l0.length : Int) 0) = some r := h
  clear h
  have H' := Aside0.mk H
  clear H
  go_enter Try.func41, Try.ntmps41
  go_wp2
  go_loopg [8] k (fun kq v8 w' => ∃ (x8_1 : Int), v8 = .int .i64 x8_1 ∧ Aside0 (slices_Index_byte_byte.l0 kq l0 a1 (l0.length : Int) x8_1 = some r) ∧ Aside0 (kq ≤ k) ∧ w = w')
  case atStart => exact ⟨(0), (by first | rfl | (simp; done) | (simp [*]; done)), H', ⟨Nat.le_refl _⟩, rfl⟩
  case round =>
    clear H'
    try clear p2
    obtain ⟨x8_1, rfl, HA, HK1, rfl⟩ := hrel
    cases gk with
    | zero => exact absurd HA.out (by simp [slices_Index_byte_byte.l0])
    | succ k1 =>
      have H := HA.out
      clear HA
      simp only [slices_Index_byte_byte.l0] at H
      by_cases c3 : x8_1 < (l0.length : Int)
      · rw [if_pos c3] at H
        have c3b0 : decide (x8_1 < (l0.length : Int)) = true := decide_eq_true c3
        clear c3
        by_cases c4 : 0 ≤ x8_1
        · rw [if_pos c4] at H
          have c4b0 : decide (0 ≤ x8_1) = true := decide_eq_true c4
          clear c4
          by_cases c5 : x8_1 < (l0.length : Int)
          · rw [if_pos c5] at H
            have c5b0 : decide (x8_1 < (l0.length : Int)) = true := decide_eq_true c5
            clear c5
            by_cases c6 : a1 = (rd l0 x8_1)
            · rw [if_pos c6] at H
              have c6b0 : (a1 == (rd l0 x8_1)) = true := beq_iff_eq.mpr c6
              have c6b1 : (a1 != (rd l0 x8_1)) = false := bne_eq_false_iff_eq.mpr c6
              clear c6
              obtain rfl := Option.some.inj H
              have p264 : 0 ≤ (x8_1 : Int) := of_decide_eq_true (by first | (with_reducible assumption) | assumption)
              have q264 : x8_1 < (l0.length : Int) := of_decide_eq_true (by first | (with_reducible assumption) | assumption)
              obtain ⟨ad264, e264, hx264_0⟩ := Kd.at_int HR0.out x8_1 p264 q264
              cases e264
              replace p264 := eq_true p264
              replace q264 := eq_true q264
              go_wp2
              go_ret
              exact ⟨by first | rfl | (simp; done) | (simp [*]; done), rfl⟩
            · rw [if_neg c6] at H
              have c6b0 : (a1 == (rd l0 x8_1)) = false := beq_eq_false_iff_ne.mpr c6
              have c6b1 : (a1 != (rd l0 x8_1)) = true := bne_iff_ne.mpr c6
              have H' := Aside0.mk H
              clear H
              have p264 : 0 ≤ (x8_1 : Int) := of_decide_eq_true (by first | (with_reducible assumption) | assumption)
              have q264 : x8_1 < (l0.length : Int) := of_decide_eq_true (by first | (with_reducible assumption) | assumption)
              obtain ⟨ad264, e264, hx264_0⟩ := Kd.at_int HR0.out x8_1 p264 q264
              cases e264
              replace p264 := eq_true p264
              replace q264 := eq_true q264
              go_wp2
              go_roundg k1
              case measure => have := HK1.out; omega
              case rel => exact ⟨(wrap64 (x8_1 + 1)), (by first | rfl | (simp; done) | (simp [*]; done)), H', ⟨by have := HK1.out; omega⟩, rfl⟩
          · rw [if_neg c5] at H
            exact absurd H (by simp)
        · rw [if_neg c4] at H
          exact absurd H (by simp)
      · rw [if_neg c3] at H
        have c3b0 : decide (x8_1 < (l0.length : Int)) = false := decide_eq_false c3
        clear c3
        obtain rfl := Option.some.inj H
        go_wp2
        go_ret
        exact ⟨by first | rfl | (simp; done) | (simp [*]; done), rfl⟩
theorem slices_Index_byte_byte.calls0 (k : Nat) (A0 : Option Addr) (c0 : Nat) (l0 : List Int) (a1 : Int) (r : Int) (w : World) (hr0 : Kd.C (Kd.int .u8) w A0 l0.length l0) (hc0 : l0.length ≤ c0) (h : slices_Index_byte_byte.f k l0 a1 = some r) :
    Calls Try.prog 41 #[.slice A0 l0.length c0, .int .u8 a1] w fun e w' => e = .returned (.int .i64 r) ∧ Drawn0 w w' :=
  (slices_Index_byte_byte.calls k A0 c0 l0 a1 r w hr0 hc0 h).mono fun _ _ h => ⟨h.1, h.2 ▸ Drawn0.refl _⟩

/-! ### slices_Contains_byte_byte: function 20 -/
def slices_Contains_byte_byte.f (k : Nat) (l0 : List Int) (a1 : Int) : Option (Bool) := (slices_Index_byte_byte.f k l0 a1).bind fun t265 => (some (decide (t265 ≥ 0)))
theorem slices_Contains_byte_byte.mono : ∀ a0 a1 k, LeO (slices_Contains_byte_byte.f k a0 a1) (slices_Contains_byte_byte.f (k + 1) a0 a1) := by
  intro a0 a1 k
  unfold slices_Contains_byte_byte.f
  repeat' first
      | (with_reducible exact slices_Index_byte_byte.mono _ _ _)
      | (with_reducible exact LeO.refl _)
      | (with_reducible exact LeO.none _)
      | (with_reducible refine LeO.ite ?_ ?_)
      | (with_reducible refine LeO.bind ?_ (fun _ => ?_))
      | exact slices_Index_byte_byte.mono _ _ _
      | exact LeO.none _
      | refine LeO.ite ?_ ?_
      | refine LeO.bind ?_ (fun _ => ?_)
set_option maxHeartbeats 8000000 in
set_option maxRecDepth 100000 in
theorem slices_Contains_byte_byte.calls (k : Nat) (A0 : Option Addr) (c0 : Nat) (l0 : List Int) (a1 : Int) (r : Bool) (w : World) (hr0 : Kd.C (Kd.int .u8) w A0 l0.length l0) (hc0 : l0.length ≤ c0) (h : slices_Contains_byte_byte.f k l0 a1 = some r) :
    Calls Try.prog 20 #[.slice A0 l0.length c0, .int .u8 a1] w fun e w' => e = .returned (.bool r) ∧ w' = w := by
  have HR0 := Aside0.mk hr0
  have HC0 := Aside0.mk hc0
  clear hr0 hc0
  have H : ((slices_Index_byte_byte.f k l0 a1).bind fun t265 => (some (decide (t265 ≥ 0)))) = some r := h
  clear h
  replace H := Option.bind_eq_some_iff.mp H
  obtain ⟨t265, A30, H⟩ := H
  replace H : (some (decide (t265 ≥ 0))) = some r := H
  have A3 := Aside0.mk A30
  clear A30
  obtain rfl := Option.some.inj H
  go_enter Try.func20, Try.ntmps20
  go_wp2_with (first | ((with_reducible refine gate_callee (f := 41) rfl ?_); refine goesL_ (some 7) rfl rfl Try.func41 (by kernel_rfl) rfl #[.slice A0 l0.length c0, .int .u8 a1] rfl (by (try simp only [List.map_toArray, List.map_cons, List.map_nil]); first | done | rfl | (simp only [List.length_drop, List.length_take]; rfl)) ?_; (with_reducible refine (slices_Index_byte_byte.calls k _ _ l0 a1 t265 _ ?side1 ?side2 A3.out).mono ?_); (case side1 => repeat (first | exact HR0.out | (with_reducible refine Kd.C_alloc ?_ _) | (with_reducible refine Kd.C_drewN ?_ _) | (with_reducible refine Kd.C_drew ?_))); (case side2 => exact HC0.out); rintro e w' ⟨rfl, hw_⟩; subst w'; refine ⟨_, rfl, ?_⟩))
  go_ret
  exact ⟨by first | rfl | (simp; done) | (simp [*]; done), rfl⟩
theorem slices_Contains_byte_byte.calls0 (k : Nat) (A0 : Option Addr) (c0 : Nat) (l0 : List Int) (a1 : Int) (r : Bool) (w : World) (hr0 : Kd.C (Kd.int .u8) w A0 l0.length l0) (hc0 : l0.length ≤ c0) (h : slices_Contains_byte_byte.f k l0 a1 = some r) :
    Calls Try.prog 20 #[.slice A0 l0.length c0, .int .u8 a1] w fun e w' => e = .returned (.bool r) ∧ Drawn0 w w' :=
  (slices_Contains_byte_byte.calls k A0 c0 l0 a1 r w hr0 hc0 h).mono fun _ _ h => ⟨h.1, h.2 ▸ Drawn0.refl _⟩

/-! ### spykeep2_BusFlags: function 4 -/
def spykeep2_BusFlags.f (k : Nat) (l0 : List Int) : Option (Bool) := (spykeep2_carries.f k).bind fun t266 => (if t266 = true then ((spykeep2_packet.f k l0 0).bind fun bt268 => ((bus_Body.f k bt268.1 bt268.2.1 bt268.2.2.1 bt268.2.2.2.1).bind fun bt276 => ((bus_Encode.f k bt268.1 bt268.2.1 bt268.2.2.1 bt268.2.2.2.1).bind fun bt280 => (if bt276.2 = 0 then (if bt280.2 = 0 then (if (bt276.1.length : Int) = (wrap64 (5 + (bt268.2.2.2.1.length : Int))) then (if (bt280.1.length : Int) < (wrap64 ((bt276.1.length : Int) + 2)) then (some false) else (if (bt280.1.length : Int) > (wrap64 ((wrap64 (2 * (bt276.1.length : Int))) + 2)) then (some false) else (if 0 < (bt280.1.length : Int) then (if (rd bt280.1 0) = 126 then (if 0 ≤ (wrap64 ((bt280.1.length : Int) - 1)) then (if (wrap64 ((bt280.1.length : Int) - 1)) < (bt280.1.length : Int) then (if (rd bt280.1 (wrap64 ((bt280.1.length : Int) - 1))) = 126 then (if 1 ≤ (wrap64 ((bt280.1.length : Int) - 1)) then (if (wrap64 ((bt280.1.length : Int) - 1)) ≤ (bt280.1.length : Int) then ((slices_Contains_byte_byte.f k ((bt280.1.take ((wrap64 ((bt280.1.length : Int) - 1)) : Int).toNat).drop 1) 126).bind fun t290 => (some (!t290))) else (none)) else (none)) else (some false)) else (none)) else (none)) else (some false)) else (none)))) else (some false)) else (some false)) else (some false))))) else (some false))
theorem spykeep2_BusFlags.mono : ∀ a0 k, LeO (spykeep2_BusFlags.f k a0) (spykeep2_BusFlags.f (k + 1) a0) := by
  intro a0 k
  unfold spykeep2_BusFlags.f
  repeat' first
      | (with_reducible exact bus_Body.mono _ _ _ _ _)
      | (with_reducible exact bus_Encode.mono _ _ _ _ _)
      | (with_reducible exact slices_Contains_byte_byte.mono _ _ _)
      | (with_reducible exact spykeep2_carries.mono _)
      | (with_reducible exact spykeep2_packet.mono _ _ _)
      | (with_reducible exact LeO.refl _)
      | (with_reducible exact LeO.none _)
      | (with_reducible refine LeO.ite ?_ ?_)
      | (with_reducible refine LeO.bind ?_ (fun _ => ?_))
      | exact bus_Body.mono _ _ _ _ _
      | exact bus_Encode.mono _ _ _ _ _
      | exact slices_Contains_byte_byte.mono _ _ _
      | exact spykeep2_carries.mono _
      | exact spykeep2_packet.mono _ _ _
      | exact LeO.none _
      | refine LeO.ite ?_ ?_
      | refine LeO.bind ?_ (fun _ => ?_)
set_option maxHeartbeats 8000000 in
set_option maxRecDepth 100000 in
theorem spykeep2_BusFlags.calls (k : Nat) (A0 : Option Addr) (c0 : Nat) (l0 : List Int) (r : Bool) (w : World) (hr0 : Kd.C (Kd.int .i64) w A0 l0.length l0) (hc0 : l0.length ≤ c0) (h : spykeep2_BusFlags.f k l0 = some r) :
    Calls Try.prog 4 #[.slice A0 l0.length c0] w fun e w' => e = .returned (.bool r) ∧ Below w.heap.size w w' := by
  have hu26 := Try.underlying26
  have hu40 := Try.underlying40
  have HR0 := Aside0.mk hr0
  have HC0 := Aside0.mk hc0
  clear hr0 hc0
  have HB := Aside0.mk (Below.refl w.heap.size w)
  have H : ((spykeep2_carries.f k).bind fun t266 => (if t266 = true then ((spykeep2_packet.f k l0 0).bind fun bt268 => ((bus_Body.f k bt268.1 bt268.2.1 bt268.2.2.1 bt268.2.2.2.1).bind fun bt276 => ((bus_Encode.f k bt268.1 bt268.2.1 bt268.2.2.1 bt268.2.2.2.1).bind fun bt280 => (if bt276.2 = 0 then (if bt280.2 = 0 then (if (bt276.1.length : Int) = (wrap64 (5 + (bt268.2.2.2.1.length : Int))) then (if (bt280.1.length : Int) < (wrap64 ((bt276.1.length : Int) + 2)) then (some false) else (if (bt280.1.length : Int) > (wrap64 ((wrap64 (2 * (bt276.1.length : Int))) + 2)) then (some false) else (if 0 < (bt280.1.length : Int) then (if (rd bt280.1 0) = 126 then (if 0 ≤ (wrap64 ((bt280.1.length : Int) - 1)) then (if (wrap64 ((bt280.1.length : Int) - 1)) < (bt280.1.length : Int) then (if (rd bt280.1 (wrap64 ((bt280.1.length : Int) - 1))) = 126 then (if 1 ≤ (wrap64 ((bt280.1.length : Int) - 1)) then (if (wrap64 ((bt280.1.length : Int) - 1)) ≤ (bt280.1.length : Int) then ((slices_Contains_byte_byte.f k ((bt280.1.take ((wrap64 ((bt280.1.length : Int) - 1)) : Int).toNat).drop 1) 126).bind fun t290 => (some (!t290))) else (none)) else (none)) else (some false)) else (none)) else (none)) else (some false)) else (none)))) else (some false)) else (some false)) else (some false))))) else (some false))) = some r := h
  clear h
  replace H := Option.bind_eq_some_iff.mp H
  obtain ⟨t266, A20, H⟩ := H
  replace H : (if t266 = true then ((spykeep2_packet.f k l0 0).bind fun bt268 => ((bus_Body.f k bt268.1 bt268.2.1 bt268.2.2.1 bt268.2.2.2.1).bind fun bt276 => ((bus_Encode.f k bt268.1 bt268.2.1 bt268.2.2.1 bt268.2.2.2.1).bind fun bt280 => (if bt276.2 = 0 then (if bt280.2 = 0 then (if (bt276.1.length : Int) = (wrap64 (5 + (bt268.2.2.2.1.length : Int))) then (if (bt280.1.length : Int) < (wrap64 ((bt276.1.length : Int) + 2)) then (some false) else (if (bt280.1.length : Int) > (wrap64 ((wrap64 (2 * (bt276.1.length : Int))) + 2)) then (some false) else (if 0 < (bt280.1.length : Int) then (if (rd bt280.1 0) = 126 then (if 0 ≤ (wrap64 ((bt280.1.length : Int) - 1)) then (if (wrap64 ((bt280.1.length : Int) - 1)) < (bt280.1.length : Int) then (if (rd bt280.1 (wrap64 ((bt280.1.length : Int) - 1))) = 126 then (if 1 ≤ (wrap64 ((bt280.1.length : Int) - 1)) then (if (wrap64 ((bt280.1.length : Int) - 1)) ≤ (bt280.1.length : Int) then ((slices_Contains_byte_byte.f k ((bt280.1.take ((wrap64 ((bt280.1.length : Int) - 1)) : Int).toNat).drop 1) 126).bind fun t290 => (some (!t290))) else (none)) else (none)) else (some false)) else (none)) else (none)) else (some false)) else (none)))) else (some false)) else (some false)) else (some false))))) else (some false)) = some r := H
  have A2 := Aside0.mk A20
  clear A20
  by_cases c3 : t266 = true
  · subst c3
    have H1 : ((spykeep2_packet.f k l0 0).bind fun bt268 => ((bus_Body.f k bt268.1 bt268.2.1 bt268.2.2.1 bt268.2.2.2.1).bind fun bt276 => ((bus_Encode.f k bt268.1 bt268.2.1 bt268.2.2.1 bt268.2.2.2.1).bind fun bt280 => (if bt276.2 = 0 then (if bt280.2 = 0 then (if (bt276.1.length : Int) = (wrap64 (5 + (bt268.2.2.2.1.length : Int))) then (if (bt280.1.length : Int) < (wrap64 ((bt276.1.length : Int) + 2)) then (some false) else (if (bt280.1.length : Int) > (wrap64 ((wrap64 (2 * (bt276.1.length : Int))) + 2)) then (some false) else (if 0 < (bt280.1.length : Int) then (if (rd bt280.1 0) = 126 then (if 0 ≤ (wrap64 ((bt280.1.length : Int) - 1)) then (if (wrap64 ((bt280.1.length : Int) - 1)) < (bt280.1.length : Int) then (if (rd bt280.1 (wrap64 ((bt280.1.length : Int) - 1))) = 126 then (if 1 ≤ (wrap64 ((bt280.1.length : Int) - 1)) then (if (wrap64 ((bt280.1.length : Int) - 1)) ≤ (bt280.1.length : Int) then ((slices_Contains_byte_byte.f k ((bt280.1.take ((wrap64 ((bt280.1.length : Int) - 1)) : Int).toNat).drop 1) 126).bind fun t290 => (some (!t290))) else (none)) else (none)) else (some false)) else (none)) else (none)) else (some false)) else (none)))) else (some false)) else (some false)) else (some false))))) = some r := by rw [if_pos rfl] at H; exact H
    clear H
    have H := H1
    clear H1
    replace H := Option.bind_eq_some_iff.mp H
    obtain ⟨⟨t268, t269, t270, t271, t274⟩, A40, H⟩ := H
    replace H : ((bus_Body.f k t268 t269 t270 t271).bind fun bt276 => ((bus_Encode.f k t268 t269 t270 t271).bind fun bt280 => (if bt276.2 = 0 then (if bt280.2 = 0 then (if (bt276.1.length : Int) = (wrap64 (5 + (t271.length : Int))) then (if (bt280.1.length : Int) < (wrap64 ((bt276.1.length : Int) + 2)) then (some false) else (if (bt280.1.length : Int) > (wrap64 ((wrap64 (2 * (bt276.1.length : Int))) + 2)) then (some false) else (if 0 < (bt280.1.length : Int) then (if (rd bt280.1 0) = 126 then (if 0 ≤ (wrap64 ((bt280.1.length : Int) - 1)) then (if (wrap64 ((bt280.1.length : Int) - 1)) < (bt280.1.length : Int) then (if (rd bt280.1 (wrap64 ((bt280.1.length : Int) - 1))) = 126 then (if 1 ≤ (wrap64 ((bt280.1.length : Int) - 1)) then (if (wrap64 ((bt280.1.length : Int) - 1)) ≤ (bt280.1.length : Int) then ((slices_Contains_byte_byte.f k ((bt280.1.take ((wrap64 ((bt280.1.length : Int) - 1)) : Int).toNat).drop 1) 126).bind fun t290 => (some (!t290))) else (none)) else (none)) else (some false)) else (none)) else (none)) else (some false)) else (none)))) else (some false)) else (some false)) else (some false)))) = some r := H
    have A4 := Aside0.mk A40
    clear A40
    replace H := Option.bind_eq_some_iff.mp H
    obtain ⟨⟨t276, t279⟩, A50, H⟩ := H
    replace H : ((bus_Encode.f k t268 t269 t270 t271).bind fun bt280 => (if t279 = 0 then (if bt280.2 = 0 then (if (t276.length : Int) = (wrap64 (5 + (t271.length : Int))) then (if (bt280.1.length : Int) < (wrap64 ((t276.length : Int) + 2)) then (some false) else (if (bt280.1.length : Int) > (wrap64 ((wrap64 (2 * (t276.length : Int))) + 2)) then (some false) else (if 0 < (bt280.1.length : Int) then (if (rd bt280.1 0) = 126 then (if 0 ≤ (wrap64 ((bt280.1.length : Int) - 1)) then (if (wrap64 ((bt280.1.length : Int) - 1)) < (bt280.1.length : Int) then (if (rd bt280.1 (wrap64 ((bt280.1.length : Int) - 1))) = 126 then (if 1 ≤ (wrap64 ((bt280.1.length : Int) - 1)) then (if (wrap64 ((bt280.1.length : Int) - 1)) ≤ (bt280.1.length : Int) then ((slices_Contains_byte_byte.f k ((bt280.1.take ((wrap64 ((bt280.1.length : Int) - 1)) : Int).toNat).drop 1) 126).bind fun t290 => (some (!t290))) else (none)) else (none)) else (some false)) else (none)) else (none)) else (some false)) else (none)))) else (some false)) else (some false)) else (some false))) = some r := H
    have A5 := Aside0.mk A50
    clear A50
    replace H := Option.bind_eq_some_iff.mp H
    obtain ⟨⟨t280, t283⟩, A60, H⟩ := H
    replace H : (if t279 = 0 then (if t283 = 0 then (if (t276.length : Int) = (wrap64 (5 + (t271.length : Int))) then (if (t280.length : Int) < (wrap64 ((t276.length : Int) + 2)) then (some false) else (if (t280.length : Int) > (wrap64 ((wrap64 (2 * (t276.length : Int))) + 2)) then (some false) else (if 0 < (t280.length : Int) then (if (rd t280 0) = 126 then (if 0 ≤ (wrap64 ((t280.length : Int) - 1)) then (if (wrap64 ((t280.length : Int) - 1)) < (t280.length : Int) then (if (rd t280 (wrap64 ((t280.length : Int) - 1))) = 126 then (if 1 ≤ (wrap64 ((t280.length : Int) - 1)) then (if (wrap64 ((t280.length : Int) - 1)) ≤ (t280.length : Int) then ((slices_Contains_byte_byte.f k ((t280.take ((wrap64 ((t280.length : Int) - 1)) : Int).toNat).drop 1) 126).bind fun t290 => (some (!t290))) else (none)) else (none)) else (some false)) else (none)) else (none)) else (some false)) else (none)))) else (some false)) else (some false)) else (some false)) = some r := H
    have A6 := Aside0.mk A60
    clear A60
    by_cases c7 : t279 = 0
    · rw [if_pos c7] at H
      have c7b0 : (t279 == 0) = true := beq_iff_eq.mpr c7
      have c7b1 : (t279 != 0) = false := bne_eq_false_iff_eq.mpr c7
      clear c7
      by_cases c8 : t283 = 0
      · rw [if_pos c8] at H
        have c8b0 : (t283 == 0) = true := beq_iff_eq.mpr c8
        have c8b1 : (t283 != 0) = false := bne_eq_false_iff_eq.mpr c8
        clear c8
        by_cases c9 : (t276.length : Int) = (wrap64 (5 + (t271.length : Int)))
        · rw [if_pos c9] at H
          have c9b0 : ((t276.length : Int) == (wrap64 (5 + (t271.length : Int)))) = true := beq_iff_eq.mpr c9
          have c9b1 : ((t276.length : Int) != (wrap64 (5 + (t271.length : Int)))) = false := bne_eq_false_iff_eq.mpr c9
          clear c9
          by_cases c10 : (t280.length : Int) < (wrap64 ((t276.length : Int) + 2))
          · rw [if_pos c10] at H
            have c10b0 : decide ((t280.length : Int) < (wrap64 ((t276.length : Int) + 2))) = true := decide_eq_true c10
            clear c10
            obtain rfl := Option.some.inj H
            go_enter Try.func4, Try.ntmps4
            go_wp2_with (first | ((with_reducible refine gate_callee (f := 16) rfl ?_); refine goesL_ (some 8) rfl rfl Try.func16 (by kernel_rfl) rfl #[] rfl (by (try simp only [List.map_toArray, List.map_cons, List.map_nil]); first | done | rfl | (simp only [List.length_drop, List.length_take]; rfl)) ?_; (with_reducible refine (spykeep2_carries.calls k  true _ A2.out).mono ?_); rintro e w11 ⟨rfl, hb⟩; refine ⟨_, rfl, ?_⟩; have n0_ := Aside0.mk (below_step (by exact HB.out) hb); clear HB; have HB := n0_; clear n0_; (try clear hb); (try clear hb2); (try clear hk); (try clear hi)) | ((with_reducible refine gate_dst (N := 12) rfl ?_); (try (refine gate_guard (by rfl) ?_; dsimp only)); refine box_event ?hg (N := 12) ?hd (cs := #[.slice A0 l0.length c0, .int .i64 0]) (t := 26) ?hr ?_; (case hd => rfl); (case hg => rfl); (case hr => first | (go_simp; done) | (go_simp; rfl)); intro gb267 hg w12 hbox hb; have n0_ := Aside0.mk (below_step (by exact HB.out) hb); have n1_ := Aside0.mk ((by rw [hg]; exact (below_size (by exact HB.out)) : w.heap.size ≤ gb267)); have n2_ := Aside0.mk ((by rw [hg]; exact (below_size (by exact HB.out)) : w.heap.size ≤ gb267)); have n3_ := Aside0.mk ((show IsS26 w w12 gb267 l0 0 from ⟨_, _, hbox, (by rw [hg]; exact (below_size (by exact HB.out)) : w.heap.size ≤ gb267), HR0.out⟩)); clear HB; have HB := n0_; have GW267 := n1_; have GE267 := n2_; have HI267 := n3_; clear n0_ n1_ n2_ n3_; clear hb hbox hg) | ((with_reducible refine gate_callee (f := 17) rfl ?_); refine goesL_ (some 13) rfl rfl Try.func17 (by kernel_rfl) rfl #[.pointer (some ⟨gb267, 0, none⟩)] rfl (by (try simp only [List.map_toArray, List.map_cons, List.map_nil]); first | done | rfl | (simp only [List.length_drop, List.length_take]; rfl)) ?_; (with_reducible refine (spykeep2_packet.calls k gb267 l0 0 t268 t269 t270 t271 t274 w _ ?side1 ?side2 A4.out).mono ?_); (case side1 => exact HI267.out); (case side2 => exact HB.out); rintro e w13 ⟨v272, rfl, ho0, hi, hb, hk⟩; refine ⟨_, rfl, ?_⟩; have n0_ := Aside0.mk (Kd.R_lower ho0 (below_size (by exact HB.out))); have n1_ := Aside0.mk (hb); have n2_ := Aside0.mk (hi); clear HB; clear HI267; have HO273 := n0_; have HB := n1_; have HI267 := n2_; clear n0_ n1_ n2_; (try clear hb); (try clear hb2); (try clear hk); (try clear hi); (try clear ho0)) | ((with_reducible refine gate_dst (N := 3) rfl ?_); (try (refine gate_guard (by rfl) ?_; dsimp only)); refine box_event ?hg (N := 3) ?hd (cs := #[.int .i64 0, .int .i64 0, .int .i64 0, .slice none 0 0]) (t := 40) ?hr ?_; (case hd => rfl); (case hg => rfl); (case hr => first | (go_simp; done) | (go_simp; rfl)); intro gb275 hg w14 hbox hb; have n0_ := Aside0.mk (Kd.R_below (by (with_reducible repeat (first | apply Kd.R_alloc | apply Kd.R_drewN | apply Kd.R_drew)); exact HO273.out) hb); have n1_ := Aside0.mk (IsS26.below (by exact HI267.out) hb); have n2_ := Aside0.mk (below_step (by exact HB.out) hb); have n3_ := Aside0.mk (hbox); have n4_ := Aside0.mk ((by rw [hg]; exact (below_size (by exact HB.out)) : w.heap.size ≤ gb275)); have n5_ := Aside0.mk ((by rw [hg]; exact (below_size (by exact HB.out)) : w.heap.size ≤ gb275)); have n6_ := Aside0.mk ((by rw [hg]; exact Nat.ne_of_lt (IsS26.lt (show IsS26 w _ gb267 l0 t274 from by exact HI267.out)) : gb267 ≠ gb275)); clear HO273; clear HI267; clear HB; have HO273 := n0_; have HI267 := n1_; have HB := n2_; have BK275 := n3_; have GW275 := n4_; have GE275 := n5_; have NB267_275 := n6_; clear n0_ n1_ n2_ n3_ n4_ n5_ n6_; clear hb hbox hg; obtain ⟨Ao15, co15, eo15⟩ := Kd.R_slice HO273.out; subst eo15) | ((with_reducible refine gate_store (t := 40) (p := 3) rfl ?_); refine store_row (t := 40) (p := 3) (v := ?vo_w16) ?hgd ?ho ?hN gb275 0 #[.int .i64 0, .int .i64 0, .int .i64 0, .slice none 0 0] [.int .i64 t268, .int .i64 t269, .int .i64 t270, .slice Ao15 t271.length co15] #[.int .i64 t268, .int .i64 t269, .int .i64 t270, .slice Ao15 t271.length co15] ?hx ?hy (by exact BK275.out) szi40 (Nat.le_of_ble_eq_true rfl) ?h1 ?hnew ?_; (case ho => rfl); (case hgd => rfl); (case hN => rfl); (case hx => rfl); (case hy => first | rfl | (go_simp; done) | (go_simp; rfl)); (case h1 => rfl); (case hnew => rfl); intro w16 hbox hg; have n0_ := Aside0.mk (Kd.R_mono (Kd.R_grown (Kd.R_types HO273.out (by exact BK275.out) (by decide)) hg (fun k_ hk e_ => hk.2 (Option.some.inj e_))) (fun k_ hk => hk.1)); have n1_ := Aside0.mk (IsS26.grown (by exact HI267.out) hg (fun e_ => NB267_275.out (Option.some.inj e_))); have n2_ := Aside0.mk (pw_below_grown (by exact HB.out) (some gb275) (below_size (by exact HB.out)) hg (fun k_ e_ => by cases e_; exact GE275.out)); have n3_ := Aside0.mk (hbox); clear HO273; clear HI267; clear HB; clear BK275; have HO273 := n0_; have HI267 := n1_; have HB := n2_; have BK275 := n3_; clear n0_ n1_ n2_ n3_; clear hbox hg; have hcz17_0 := tch4 BK275.out) | ((with_reducible refine gate_callee (f := 18) rfl ?_); refine goesL_ (some 16) rfl rfl Try.func18 (by kernel_rfl) rfl #[.agg #[.int .i64 t268, .int .i64 t269, .int .i64 t270, .slice Ao15 t271.length co15]] rfl (by (try simp only [List.map_toArray, List.map_cons, List.map_nil]); first | done | rfl | (simp only [List.length_drop, List.length_take]; rfl)) ?_; (with_reducible refine (bus_Body.calls k t268 t269 t270 _ _ t271 t276 t279 _ ?side1 ?side2 A5.out).mono ?_); (case side1 => repeat (first | exact (Kd.R_reads' HO273.out).2.2 | (with_reducible refine Kd.C_alloc ?_ _) | (with_reducible refine Kd.C_drewN ?_ _) | (with_reducible refine Kd.C_drew ?_))); (case side2 => exact (Kd.R_reads' HO273.out).2.1); rintro e w18 ⟨v277, rfl, ho0, hb⟩; refine ⟨_, rfl, ?_⟩; have n0_ := Aside0.mk (Kd.R_elder' (by (with_reducible repeat (first | apply Kd.R_alloc | apply Kd.R_drewN | apply Kd.R_drew)); exact HO273.out) (Kd.R_base ho0) hb); have n1_ := Aside0.mk (Kd.R_lower (Kd.R_new' ho0 (Kd.R_lt (by (with_reducible repeat (first | apply Kd.R_alloc | apply Kd.R_drewN | apply Kd.R_drew)); exact HO273.out))) (below_size (by exact HB.out))); have n2_ := Aside0.mk (IsS26.below (by exact HI267.out) hb); have n3_ := Aside0.mk (blk_below BK275.out hb); have n4_ := Aside0.mk (below_step (by exact HB.out) hb); clear HO273; clear HI267; clear BK275; clear HB; have HO273 := n0_; have HO278 := n1_; have HI267 := n2_; have BK275 := n3_; have HB := n4_; clear n0_ n1_ n2_ n3_ n4_; (try clear hb); (try clear hb2); (try clear hk); (try clear hi); (try clear ho0); have hcz19_0 := tch4 BK275.out) | ((with_reducible refine gate_callee (f := 19) rfl ?_); refine goesL_ (some 21) rfl rfl Try.func19 (by kernel_rfl) rfl #[.agg #[.int .i64 t268, .int .i64 t269, .int .i64 t270, .slice Ao15 t271.length co15]] rfl (by (try simp only [List.map_toArray, List.map_cons, List.map_nil]); first | done | rfl | (simp only [List.length_drop, List.length_take]; rfl)) ?_; (with_reducible refine (bus_Encode.calls k t268 t269 t270 _ _ t271 t280 t283 _ ?side1 ?side2 A6.out).mono ?_); (case side1 => repeat (first | exact (Kd.R_reads' HO273.out).2.2 | (with_reducible refine Kd.C_alloc ?_ _) | (with_reducible refine Kd.C_drewN ?_ _) | (with_reducible refine Kd.C_drew ?_))); (case side2 => exact (Kd.R_reads' HO273.out).2.1); rintro e w20 ⟨v281, rfl, ho0, hb⟩; refine ⟨_, rfl, ?_⟩; have n0_ := Aside0.mk (Kd.R_elder' (by (with_reducible repeat (first | apply Kd.R_alloc | apply Kd.R_drewN | apply Kd.R_drew)); exact HO273.out) (Kd.R_base ho0) hb); have n1_ := Aside0.mk (Kd.R_elder' (by (with_reducible repeat (first | apply Kd.R_alloc | apply Kd.R_drewN | apply Kd.R_drew)); exact HO278.out) (Kd.R_base ho0) hb); have n2_ := Aside0.mk (Kd.R_lower (Kd.R_new' (Kd.R_new' ho0 (Kd.R_lt (by (with_reducible repeat (first | apply Kd.R_alloc | apply Kd.R_drewN | apply Kd.R_drew)); exact HO273.out))) (Kd.R_lt (by (with_reducible repeat (first | apply Kd.R_alloc | apply Kd.R_drewN | apply Kd.R_drew)); exact HO278.out))) (below_size (by exact HB.out))); have n3_ := Aside0.mk (IsS26.below (by exact HI267.out) hb); have n4_ := Aside0.mk (blk_below BK275.out hb); have n5_ := Aside0.mk (below_step (by exact HB.out) hb); clear HO273; clear HO278; clear HI267; clear BK275; clear HB; have HO273 := n0_; have HO278 := n1_; have HO282 := n2_; have HI267 := n3_; have BK275 := n4_; have HB := n5_; clear n0_ n1_ n2_ n3_ n4_ n5_; (try clear hb); (try clear hb2); (try clear hk); (try clear hi); (try clear ho0); obtain ⟨Ao21, co21, eo21⟩ := Kd.R_slice HO278.out; subst eo21; have hcz22_0 := tch4 BK275.out; obtain ⟨Ao23, co23, eo23⟩ := Kd.R_slice HO282.out; subst eo23))
            go_ret
            exact ⟨by first | rfl | (simp [errW_none, errW_some] <;> rfl) | (simp [*, errW_none, errW_some] <;> rfl), by exact HB.out⟩
          · rw [if_neg c10] at H
            have c10b0 : decide ((t280.length : Int) < (wrap64 ((t276.length : Int) + 2))) = false := decide_eq_false c10
            clear c10
            have HC24 := Aside0.mk H
            clear H
            go_enter Try.func4, Try.ntmps4
            go_upto_if 55 with (first | ((with_reducible refine gate_callee (f := 16) rfl ?_); refine goesL_ (some 8) rfl rfl Try.func16 (by kernel_rfl) rfl #[] rfl (by (try simp only [List.map_toArray, List.map_cons, List.map_nil]); first | done | rfl | (simp only [List.length_drop, List.length_take]; rfl)) ?_; (with_reducible refine (spykeep2_carries.calls k  true _ A2.out).mono ?_); rintro e w25 ⟨rfl, hb⟩; refine ⟨_, rfl, ?_⟩; have n0_ := Aside0.mk (below_step (by exact HB.out) hb); clear HB; have HB := n0_; clear n0_; (try clear hb); (try clear hb2); (try clear hk); (try clear hi)) | ((with_reducible refine gate_dst (N := 12) rfl ?_); (try (refine gate_guard (by rfl) ?_; dsimp only)); refine box_event ?hg (N := 12) ?hd (cs := #[.slice A0 l0.length c0, .int .i64 0]) (t := 26) ?hr ?_; (case hd => rfl); (case hg => rfl); (case hr => first | (go_simp; done) | (go_simp; rfl)); intro gb267 hg w26 hbox hb; have n0_ := Aside0.mk (below_step (by exact HB.out) hb); have n1_ := Aside0.mk ((by rw [hg]; exact (below_size (by exact HB.out)) : w.heap.size ≤ gb267)); have n2_ := Aside0.mk ((by rw [hg]; exact (below_size (by exact HB.out)) : w.heap.size ≤ gb267)); have n3_ := Aside0.mk ((show IsS26 w w26 gb267 l0 0 from ⟨_, _, hbox, (by rw [hg]; exact (below_size (by exact HB.out)) : w.heap.size ≤ gb267), HR0.out⟩)); clear HB; have HB := n0_; have GW267 := n1_; have GE267 := n2_; have HI267 := n3_; clear n0_ n1_ n2_ n3_; clear hb hbox hg) | ((with_reducible refine gate_callee (f := 17) rfl ?_); refine goesL_ (some 13) rfl rfl Try.func17 (by kernel_rfl) rfl #[.pointer (some ⟨gb267, 0, none⟩)] rfl (by (try simp only [List.map_toArray, List.map_cons, List.map_nil]); first | done | rfl | (simp only [List.length_drop, List.length_take]; rfl)) ?_; (with_reducible refine (spykeep2_packet.calls k gb267 l0 0 t268 t269 t270 t271 t274 w _ ?side1 ?side2 A4.out).mono ?_); (case side1 => exact HI267.out); (case side2 => exact HB.out); rintro e w27 ⟨v272, rfl, ho0, hi, hb, hk⟩; refine ⟨_, rfl, ?_⟩; have n0_ := Aside0.mk (Kd.R_lower ho0 (below_size (by exact HB.out))); have n1_ := Aside0.mk (hb); have n2_ := Aside0.mk (hi); clear HB; clear HI267; have HO273 := n0_; have HB := n1_; have HI267 := n2_; clear n0_ n1_ n2_; (try clear hb); (try clear hb2); (try clear hk); (try clear hi); (try clear ho0)) | ((with_reducible refine gate_dst (N := 3) rfl ?_); (try (refine gate_guard (by rfl) ?_; dsimp only)); refine box_event ?hg (N := 3) ?hd (cs := #[.int .i64 0, .int .i64 0, .int .i64 0, .slice none 0 0]) (t := 40) ?hr ?_; (case hd => rfl); (case hg => rfl); (case hr => first | (go_simp; done) | (go_simp; rfl)); intro gb275 hg w28 hbox hb; have n0_ := Aside0.mk (Kd.R_below (by (with_reducible repeat (first | apply Kd.R_alloc | apply Kd.R_drewN | apply Kd.R_drew)); exact HO273.out) hb); have n1_ := Aside0.mk (IsS26.below (by exact HI267.out) hb); have n2_ := Aside0.mk (below_step (by exact HB.out) hb); have n3_ := Aside0.mk (hbox); have n4_ := Aside0.mk ((by rw [hg]; exact (below_size (by exact HB.out)) : w.heap.size ≤ gb275)); have n5_ := Aside0.mk ((by rw [hg]; exact (below_size (by exact HB.out)) : w.heap.size ≤ gb275)); have n6_ := Aside0.mk ((by rw [hg]; exact Nat.ne_of_lt (IsS26.lt (show IsS26 w _ gb267 l0 t274 from by exact HI267.out)) : gb267 ≠ gb275)); clear HO273; clear HI267; clear HB; have HO273 := n0_; have HI267 := n1_; have HB := n2_; have BK275 := n3_; have GW275 := n4_; have GE275 := n5_; have NB267_275 := n6_; clear n0_ n1_ n2_ n3_ n4_ n5_ n6_; clear hb hbox hg; obtain ⟨Ao29, co29, eo29⟩ := Kd.R_slice HO273.out; subst eo29) | ((with_reducible refine gate_store (t := 40) (p := 3) rfl ?_); refine store_row (t := 40) (p := 3) (v := ?vo_w30) ?hgd ?ho ?hN gb275 0 #[.int .i64 0, .int .i64 0, .int .i64 0, .slice none 0 0] [.int .i64 t268, .int .i64 t269, .int .i64 t270, .slice Ao29 t271.length co29] #[.int .i64 t268, .int .i64 t269, .int .i64 t270, .slice Ao29 t271.length co29] ?hx ?hy (by exact BK275.out) szi40 (Nat.le_of_ble_eq_true rfl) ?h1 ?hnew ?_; (case ho => rfl); (case hgd => rfl); (case hN => rfl); (case hx => rfl); (case hy => first | rfl | (go_simp; done) | (go_simp; rfl)); (case h1 => rfl); (case hnew => rfl); intro w30 hbox hg; have n0_ := Aside0.mk (Kd.R_mono (Kd.R_grown (Kd.R_types HO273.out (by exact BK275.out) (by decide)) hg (fun k_ hk e_ => hk.2 (Option.some.inj e_))) (fun k_ hk => hk.1)); have n1_ := Aside0.mk (IsS26.grown (by exact HI267.out) hg (fun e_ => NB267_275.out (Option.some.inj e_))); have n2_ := Aside0.mk (pw_below_grown (by exact HB.out) (some gb275) (below_size (by exact HB.out)) hg (fun k_ e_ => by cases e_; exact GE275.out)); have n3_ := Aside0.mk (hbox); clear HO273; clear HI267; clear HB; clear BK275; have HO273 := n0_; have HI267 := n1_; have HB := n2_; have BK275 := n3_; clear n0_ n1_ n2_ n3_; clear hbox hg; have hcz31_0 := tch4 BK275.out) | ((with_reducible refine gate_callee (f := 18) rfl ?_); refine goesL_ (some 16) rfl rfl Try.func18 (by kernel_rfl) rfl #[.agg #[.int .i64 t268, .int .i64 t269, .int .i64 t270, .slice Ao29 t271.length co29]] rfl (by (try simp only [List.map_toArray, List.map_cons, List.map_nil]); first | done | rfl | (simp only [List.length_drop, List.length_take]; rfl)) ?_; (with_reducible refine (bus_Body.calls k t268 t269 t270 _ _ t271 t276 t279 _ ?side1 ?side2 A5.out).mono ?_); (case side1 => repeat (first | exact (Kd.R_reads' HO273.out).2.2 | (with_reducible refine Kd.C_alloc ?_ _) | (with_reducible refine Kd.C_drewN ?_ _) | (with_reducible refine Kd.C_drew ?_))); (case side2 => exact (Kd.R_reads' HO273.out).2.1); rintro e w32 ⟨v277, rfl, ho0, hb⟩; refine ⟨_, rfl, ?_⟩; have n0_ := Aside0.mk (Kd.R_elder' (by (with_reducible repeat (first | apply Kd.R_alloc | apply Kd.R_drewN | apply Kd.R_drew)); exact HO273.out) (Kd.R_base ho0) hb); have n1_ := Aside0.mk (Kd.R_lower (Kd.R_new' ho0 (Kd.R_lt (by (with_reducible repeat (first | apply Kd.R_alloc | apply Kd.R_drewN | apply Kd.R_drew)); exact HO273.out))) (below_size (by exact HB.out))); have n2_ := Aside0.mk (IsS26.below (by exact HI267.out) hb); have n3_ := Aside0.mk (blk_below BK275.out hb); have n4_ := Aside0.mk (below_step (by exact HB.out) hb); clear HO273; clear HI267; clear BK275; clear HB; have HO273 := n0_; have HO278 := n1_; have HI267 := n2_; have BK275 := n3_; have HB := n4_; clear n0_ n1_ n2_ n3_ n4_; (try clear hb); (try clear hb2); (try clear hk); (try clear hi); (try clear ho0); have hcz33_0 := tch4 BK275.out) | ((with_reducible refine gate_callee (f := 19) rfl ?_); refine goesL_ (some 21) rfl rfl Try.func19 (by kernel_rfl) rfl #[.agg #[.int .i64 t268, .int .i64 t269, .int .i64 t270, .slice Ao29 t271.length co29]] rfl (by (try simp only [List.map_toArray, List.map_cons, List.map_nil]); first | done | rfl | (simp only [List.length_drop, List.length_take]; rfl)) ?_; (with_reducible refine (bus_Encode.calls k t268 t269 t270 _ _ t271 t280 t283 _ ?side1 ?side2 A6.out).mono ?_); (case side1 => repeat (first | exact (Kd.R_reads' HO273.out).2.2 | (with_reducible refine Kd.C_alloc ?_ _) | (with_reducible refine Kd.C_drewN ?_ _) | (with_reducible refine Kd.C_drew ?_))); (case side2 => exact (Kd.R_reads' HO273.out).2.1); rintro e w34 ⟨v281, rfl, ho0, hb⟩; refine ⟨_, rfl, ?_⟩; have n0_ := Aside0.mk (Kd.R_elder' (by (with_reducible repeat (first | apply Kd.R_alloc | apply Kd.R_drewN | apply Kd.R_drew)); exact HO273.out) (Kd.R_base ho0) hb); have n1_ := Aside0.mk (Kd.R_elder' (by (with_reducible repeat (first | apply Kd.R_alloc | apply Kd.R_drewN | apply Kd.R_drew)); exact HO278.out) (Kd.R_base ho0) hb); have n2_ := Aside0.mk (Kd.R_lower (Kd.R_new' (Kd.R_new' ho0 (Kd.R_lt (by (with_reducible repeat (first | apply Kd.R_alloc | apply Kd.R_drewN | apply Kd.R_drew)); exact HO273.out))) (Kd.R_lt (by (with_reducible repeat (first | apply Kd.R_alloc | apply Kd.R_drewN | apply Kd.R_drew)); exact HO278.out))) (below_size (by exact HB.out))); have n3_ := Aside0.mk (IsS26.below (by exact HI267.out) hb); have n4_ := Aside0.mk (blk_below BK275.out hb); have n5_ := Aside0.mk (below_step (by exact HB.out) hb); clear HO273; clear HO278; clear HI267; clear BK275; clear HB; have HO273 := n0_; have HO278 := n1_; have HO282 := n2_; have HI267 := n3_; have BK275 := n4_; have HB := n5_; clear n0_ n1_ n2_ n3_ n4_ n5_; (try clear hb); (try clear hb2); (try clear hk); (try clear hi); (try clear ho0); obtain ⟨Ao35, co35, eo35⟩ := Kd.R_slice HO278.out; subst eo35; have hcz36_0 := tch4 BK275.out; obtain ⟨Ao37, co37, eo37⟩ := Kd.R_slice HO282.out; subst eo37))
            have H := HC24.out
            clear HC24
            by_cases c38 : (t280.length : Int) > (wrap64 ((wrap64 (2 * (t276.length : Int))) + 2))
            · rw [if_pos c38] at H
              have c38b0 : decide ((wrap64 ((wrap64 (2 * (t276.length : Int))) + 2)) < (t280.length : Int)) = true := decide_eq_true c38
              clear c38
              (first | rw [c38b0] | (simp only [i64_w, i32_w]; rw [c38b0]) | skip)
              obtain rfl := Option.some.inj H
              go_wp2
              go_ret
              exact ⟨by first | rfl | (simp [errW_none, errW_some] <;> rfl) | (simp [*, errW_none, errW_some] <;> rfl), by exact HB.out⟩
            · rw [if_neg c38] at H
              have c38b0 : decide ((wrap64 ((wrap64 (2 * (t276.length : Int))) + 2)) < (t280.length : Int)) = false := decide_eq_false c38
              clear c38
              (first | rw [c38b0] | (simp only [i64_w, i32_w]; rw [c38b0]) | skip)
              by_cases c39 : 0 < (t280.length : Int)
              · rw [if_pos c39] at H
                have c39b0 : decide (0 < (t280.length : Int)) = true := decide_eq_true c39
                have c39b1 : decide (0 < t280.length) = true := decide_eq_true (by omega)
                clear c39
                by_cases c40 : (rd t280 0) = 126
                · rw [if_pos c40] at H
                  have c40b0 : ((rd t280 0) == 126) = true := beq_iff_eq.mpr c40
                  have c40b1 : ((rd t280 0) != 126) = false := bne_eq_false_iff_eq.mpr c40
                  clear c40
                  obtain ⟨ji41, hji41⟩ : ∃ j_ : Int, (wrap64 ((t280.length : Int) - 1)) = j_ := ⟨_, rfl⟩
                  replace H : (if 0 ≤ (ji41) then (if (ji41) < (t280.length : Int) then (if (rd t280 (ji41)) = 126 then (if 1 ≤ (ji41) then (if (ji41) ≤ (t280.length : Int) then ((slices_Contains_byte_byte.f k ((t280.take ((ji41) : Int).toNat).drop 1) 126).bind fun t290 => (some (!t290))) else (none)) else (none)) else (some false)) else (none)) else (none)) = some r := by first | (rw [hji41] at H; exact H) | (simp only [hji41] at H ⊢; exact H)
                  have hji41w : (IntKind.i64.wrap ((t280.length : Int) - 1)) = ji41 := (i64_w _).trans hji41
                  by_cases c42 : 0 ≤ (ji41)
                  · rw [if_pos c42] at H
                    have c42b0 : decide (0 ≤ (ji41)) = true := decide_eq_true c42
                    clear c42
                    by_cases c43 : (ji41) < (t280.length : Int)
                    · rw [if_pos c43] at H
                      have c43b0 : decide ((ji41) < (t280.length : Int)) = true := decide_eq_true c43
                      clear c43
                      by_cases c44 : (rd t280 (ji41)) = 126
                      · rw [if_pos c44] at H
                        have c44b0 : ((rd t280 (ji41)) == 126) = true := beq_iff_eq.mpr c44
                        have c44b1 : ((rd t280 (ji41)) != 126) = false := bne_eq_false_iff_eq.mpr c44
                        clear c44
                        by_cases c45 : 1 ≤ (ji41)
                        · rw [if_pos c45] at H
                          have c45b0 := eq_true c45
                          have c45b1 : decide (1 ≤ (ji41)) = true := decide_eq_true c45
                          clear c45
                          by_cases c46 : (ji41) ≤ (t280.length : Int)
                          · rw [if_pos c46] at H
                            have c46b0 := eq_true c46
                            have c46b1 : decide ((ji41) ≤ (t280.length : Int)) = true := decide_eq_true c46
                            clear c46
                            obtain ⟨y286, hy286⟩ : ∃ y_ : List Int, y_ = ((t280.take ((ji41) : Int).toNat).drop 1) := ⟨_, rfl⟩
                            replace H : ((slices_Contains_byte_byte.f k y286 126).bind fun t290 => (some (!t290))) = some r := by first | (rw [hy286]; with_reducible exact H) | (have H2_ := (Option.bind_some _ _).symm.trans H; rw [hy286]; with_reducible exact H2_) | (have H2_ := (Option.bind_some _ _).symm.trans H; with_reducible exact H2_) | with_reducible exact H | (rw [hy286]; exact H) | exact H
                            have Ny286 := Aside0.mk hy286
                            clear hy286
                            replace H := Option.bind_eq_some_iff.mp H
                            obtain ⟨t290, A470, H⟩ := H
                            replace H : (some (!t290)) = some r := H
                            have A47 := Aside0.mk A470
                            clear A470
                            obtain rfl := Option.some.inj H
                            have p284 : 0 ≤ (0 : Int) := (by omega)
                            have q284 : 0 < (t280.length : Int) := of_decide_eq_true (by first | (with_reducible assumption) | assumption)
                            obtain ⟨ad284, e284, hx284_0⟩ := Kd.at_int (Kd.R_reads' HO282.out).2.2 0 p284 q284
                            cases e284
                            have qi284 : (0 < t280.length) = True := eq_true (by omega)
                            (try rw [show ((0 : Int)).toNat = 0 from rfl] at hx284_0)
                            (try rw [Addr.add_zero'] at hx284_0)
                            replace p284 := eq_true p284
                            replace q284 := eq_true q284
                            have p285 : 0 ≤ ((ji41) : Int) := of_decide_eq_true (by first | (with_reducible assumption) | assumption)
                            have q285 : (ji41) < (t280.length : Int) := of_decide_eq_true (by first | (with_reducible assumption) | assumption)
                            obtain ⟨ad285, e285, hx285_0⟩ := Kd.at_int (Kd.R_reads' HO282.out).2.2 (ji41) p285 q285
                            obtain rfl : ad284 = ad285 := (by injection e285)
                            replace p285 := eq_true p285
                            replace q285 := eq_true q285
                            have q48 : ((ji41) : Int) ≤ ((t280.length : Int) : Int) := of_decide_eq_true (by first | (with_reducible assumption) | assumption)
                            obtain ⟨i048, hi048, _, hsz48, _⟩ := info_parts info5
                            have hroom48 : t280.length ≤ co37 := (Kd.R_reads' HO282.out).2.1
                            have hC48 : Kd.C (Kd.int .u8) _ (some ad284) t280.length t280 := (Kd.R_reads' HO282.out).2.2
                            have ql48 : (1 : Int) ≤ ((ji41) : Int) := of_decide_eq_true (by first | (with_reducible assumption) | assumption)
                            have hcut48 := cut_mid (P := Try.prog) 38 5 .i64 .i64 Try.underlying38 hi048 1 hsz48 (some ad284) t280.length co37 1 (ji41) (by omega) ql48 q48 hroom48
                            have hr48 := Kd.C_mid (lo := (1 : Int).toNat) (hi := ((ji41) : Int).toNat) (c := co37) hC48 (by omega) (by omega) hroom48
                            obtain ⟨A48, hA48⟩ : ∃ A1, A1 = (if co37 = (1 : Int).toNat then (some ad284) else ((some ad284) : Option Addr).map (·.add ((1 : Int).toNat * 1))) := ⟨_, rfl⟩
                            obtain ⟨c48, hc48⟩ : ∃ c1, c1 = co37 - (1 : Int).toNat := ⟨_, rfl⟩
                            have hy48 : y286.length = ((ji41) : Int).toNat - (1 : Int).toNat := (by rw [Ny286.out, List.length_drop, List.length_take] <;> omega)
                            rw [show ((t280).take ((ji41) : Int).toNat).drop (1 : Int).toNat = y286 from Ny286.out.symm] at hr48
                            replace hr48 : Kd.C (Kd.int .u8) _ A48 y286.length y286 := (by rw [hA48]; exact hr48)
                            rw [← hy48, ← hA48, ← hc48] at hcut48
                            have HR289 := Aside0.mk hr48
                            have HC289 := Aside0.mk (show y286.length ≤ c48 from by rw [hy48, hc48]; exact Nat.sub_le_sub_right (Nat.le_trans (by omega) hroom48) _)
                            clear hr48 hC48 hroom48 hi048 hsz48 hc48
                            have KY48 := Aside0.mk hy48
                            have KA48 := Aside0.mk hA48
                            clear hy48 hA48
                            have KL48 := Aside0.mk (show ((ji41) : Int).toNat ≤ t280.length from by omega)
                            have KM48 := Aside0.mk (show 1 ≤ ((ji41) : Int).toNat from by omega)
                            replace q48 := eq_true q48
                            go_wp2_with (first | (go_at_call 20; (with_reducible refine (slices_Contains_byte_byte.calls k _ _ y286 126 t290 _ ?side1 ?side2 A47.out).mono ?_); (case side1 => repeat (first | exact (by repeat (first | (with_reducible exact HR289.out) | (with_reducible refine Kd.C_alloc ?_ _) | (with_reducible refine Kd.C_drewN ?_ _) | (with_reducible refine Kd.C_drew ?_) | exact HR289.out)) | (with_reducible refine Kd.C_alloc ?_ _) | (with_reducible refine Kd.C_drewN ?_ _) | (with_reducible refine Kd.C_drew ?_))); (case side2 => exact HC289.out); rintro e w' ⟨rfl, hw_⟩; subst w'))
                            go_ret
                            exact ⟨by first | rfl | (simp [errW_none, errW_some] <;> rfl) | (simp only [← hji41]; first | rfl | (simp [errW_none, errW_some] <;> rfl)) | (simp [*, errW_none, errW_some] <;> rfl), by exact HB.out⟩
                          · rw [if_neg c46] at H
                            exact absurd H (by simp)
                        · rw [if_neg c45] at H
                          exact absurd H (by simp)
                      · rw [if_neg c44] at H
                        have c44b0 : ((rd t280 (ji41)) == 126) = false := beq_eq_false_iff_ne.mpr c44
                        have c44b1 : ((rd t280 (ji41)) != 126) = true := bne_iff_ne.mpr c44
                        clear c44
                        obtain rfl := Option.some.inj H
                        have p284 : 0 ≤ (0 : Int) := (by omega)
                        have q284 : 0 < (t280.length : Int) := of_decide_eq_true (by first | (with_reducible assumption) | assumption)
                        obtain ⟨ad284, e284, hx284_0⟩ := Kd.at_int (Kd.R_reads' HO282.out).2.2 0 p284 q284
                        cases e284
                        have qi284 : (0 < t280.length) = True := eq_true (by omega)
                        (try rw [show ((0 : Int)).toNat = 0 from rfl] at hx284_0)
                        (try rw [Addr.add_zero'] at hx284_0)
                        replace p284 := eq_true p284
                        replace q284 := eq_true q284
                        have p285 : 0 ≤ ((ji41) : Int) := of_decide_eq_true (by first | (with_reducible assumption) | assumption)
                        have q285 : (ji41) < (t280.length : Int) := of_decide_eq_true (by first | (with_reducible assumption) | assumption)
                        obtain ⟨ad285, e285, hx285_0⟩ := Kd.at_int (Kd.R_reads' HO282.out).2.2 (ji41) p285 q285
                        obtain rfl : ad284 = ad285 := (by injection e285)
                        replace p285 := eq_true p285
                        replace q285 := eq_true q285
                        go_wp2
                        go_ret
                        exact ⟨by first | rfl | (simp [errW_none, errW_some] <;> rfl) | (simp only [← hji41]; first | rfl | (simp [errW_none, errW_some] <;> rfl)) | (simp [*, errW_none, errW_some] <;> rfl), by exact HB.out⟩
                    · rw [if_neg c43] at H
                      exact absurd H (by simp)
                  · rw [if_neg c42] at H
                    exact absurd H (by simp)
                · rw [if_neg c40] at H
                  have c40b0 : ((rd t280 0) == 126) = false := beq_eq_false_iff_ne.mpr c40
                  have c40b1 : ((rd t280 0) != 126) = true := bne_iff_ne.mpr c40
                  obtain rfl := Option.some.inj H
                  have p284 : 0 ≤ (0 : Int) := (by omega)
                  have q284 : 0 < (t280.length : Int) := of_decide_eq_true (by first | (with_reducible assumption) | assumption)
                  obtain ⟨ad284, e284, hx284_0⟩ := Kd.at_int (Kd.R_reads' HO282.out).2.2 0 p284 q284
                  cases e284
                  have qi284 : (0 < t280.length) = True := eq_true (by omega)
                  (try rw [show ((0 : Int)).toNat = 0 from rfl] at hx284_0)
                  (try rw [Addr.add_zero'] at hx284_0)
                  replace p284 := eq_true p284
                  replace q284 := eq_true q284
                  go_wp2
                  go_ret
                  exact ⟨by first | rfl | (simp [errW_none, errW_some] <;> rfl) | (simp [*, errW_none, errW_some] <;> rfl), by exact HB.out⟩
              · rw [if_neg c39] at H
                exact absurd H (by simp)
        · rw [if_neg c9] at H
          have c9b0 : ((t276.length : Int) == (wrap64 (5 + (t271.length : Int)))) = false := beq_eq_false_iff_ne.mpr c9
          have c9b1 : ((t276.length : Int) != (wrap64 (5 + (t271.length : Int)))) = true := bne_iff_ne.mpr c9
          obtain rfl := Option.some.inj H
          go_enter Try.func4, Try.ntmps4
          go_wp2_with (first | ((with_reducible refine gate_callee (f := 16) rfl ?_); refine goesL_ (some 8) rfl rfl Try.func16 (by kernel_rfl) rfl #[] rfl (by (try simp only [List.map_toArray, List.map_cons, List.map_nil]); first | done | rfl | (simp only [List.length_drop, List.length_take]; rfl)) ?_; (with_reducible refine (spykeep2_carries.calls k  true _ A2.out).mono ?_); rintro e w49 ⟨rfl, hb⟩; refine ⟨_, rfl, ?_⟩; have n0_ := Aside0.mk (below_step (by exact HB.out) hb); clear HB; have HB := n0_; clear n0_; (try clear hb); (try clear hb2); (try clear hk); (try clear hi)) | ((with_reducible refine gate_dst (N := 12) rfl ?_); (try (refine gate_guard (by rfl) ?_; dsimp only)); refine box_event ?hg (N := 12) ?hd (cs := #[.slice A0 l0.length c0, .int .i64 0]) (t := 26) ?hr ?_; (case hd => rfl); (case hg => rfl); (case hr => first | (go_simp; done) | (go_simp; rfl)); intro gb267 hg w50 hbox hb; have n0_ := Aside0.mk (below_step (by exact HB.out) hb); have n1_ := Aside0.mk ((by rw [hg]; exact (below_size (by exact HB.out)) : w.heap.size ≤ gb267)); have n2_ := Aside0.mk ((by rw [hg]; exact (below_size (by exact HB.out)) : w.heap.size ≤ gb267)); have n3_ := Aside0.mk ((show IsS26 w w50 gb267 l0 0 from ⟨_, _, hbox, (by rw [hg]; exact (below_size (by exact HB.out)) : w.heap.size ≤ gb267), HR0.out⟩)); clear HB; have HB := n0_; have GW267 := n1_; have GE267 := n2_; have HI267 := n3_; clear n0_ n1_ n2_ n3_; clear hb hbox hg) | ((with_reducible refine gate_callee (f := 17) rfl ?_); refine goesL_ (some 13) rfl rfl Try.func17 (by kernel_rfl) rfl #[.pointer (some ⟨gb267, 0, none⟩)] rfl (by (try simp only [List.map_toArray, List.map_cons, List.map_nil]); first | done | rfl | (simp only [List.length_drop, List.length_take]; rfl)) ?_; (with_reducible refine (spykeep2_packet.calls k gb267 l0 0 t268 t269 t270 t271 t274 w _ ?side1 ?side2 A4.out).mono ?_); (case side1 => exact HI267.out); (case side2 => exact HB.out); rintro e w51 ⟨v272, rfl, ho0, hi, hb, hk⟩; refine ⟨_, rfl, ?_⟩; have n0_ := Aside0.mk (Kd.R_lower ho0 (below_size (by exact HB.out))); have n1_ := Aside0.mk (hb); have n2_ := Aside0.mk (hi); clear HB; clear HI267; have HO273 := n0_; have HB := n1_; have HI267 := n2_; clear n0_ n1_ n2_; (try clear hb); (try clear hb2); (try clear hk); (try clear hi); (try clear ho0)) | ((with_reducible refine gate_dst (N := 3) rfl ?_); (try (refine gate_guard (by rfl) ?_; dsimp only)); refine box_event ?hg (N := 3) ?hd (cs := #[.int .i64 0, .int .i64 0, .int .i64 0, .slice none 0 0]) (t := 40) ?hr ?_; (case hd => rfl); (case hg => rfl); (case hr => first | (go_simp; done) | (go_simp; rfl)); intro gb275 hg w52 hbox hb; have n0_ := Aside0.mk (Kd.R_below (by (with_reducible repeat (first | apply Kd.R_alloc | apply Kd.R_drewN | apply Kd.R_drew)); exact HO273.out) hb); have n1_ := Aside0.mk (IsS26.below (by exact HI267.out) hb); have n2_ := Aside0.mk (below_step (by exact HB.out) hb); have n3_ := Aside0.mk (hbox); have n4_ := Aside0.mk ((by rw [hg]; exact (below_size (by exact HB.out)) : w.heap.size ≤ gb275)); have n5_ := Aside0.mk ((by rw [hg]; exact (below_size (by exact HB.out)) : w.heap.size ≤ gb275)); have n6_ := Aside0.mk ((by rw [hg]; exact Nat.ne_of_lt (IsS26.lt (show IsS26 w _ gb267 l0 t274 from by exact HI267.out)) : gb267 ≠ gb275)); clear HO273; clear HI267; clear HB; have HO273 := n0_; have HI267 := n1_; have HB := n2_; have BK275 := n3_; have GW275 := n4_; have GE275 := n5_; have NB267_275 := n6_; clear n0_ n1_ n2_ n3_ n4_ n5_ n6_; clear hb hbox hg; obtain ⟨Ao53, co53, eo53⟩ := Kd.R_slice HO273.out; subst eo53) | ((with_reducible refine gate_store (t := 40) (p := 3) rfl ?_); refine store_row (t := 40) (p := 3) (v := ?vo_w54) ?hgd ?ho ?hN gb275 0 #[.int .i64 0, .int .i64 0, .int .i64 0, .slice none 0 0] [.int .i64 t268, .int .i64 t269, .int .i64 t270, .slice Ao53 t271.length co53] #[.int .i64 t268, .int .i64 t269, .int .i64 t270, .slice Ao53 t271.length co53] ?hx ?hy (by exact BK275.out) szi40 (Nat.le_of_ble_eq_true rfl) ?h1 ?hnew ?_; (case ho => rfl); (case hgd => rfl); (case hN => rfl); (case hx => rfl); (case hy => first | rfl | (go_simp; done) | (go_simp; rfl)); (case h1 => rfl); (case hnew => rfl); intro w54 hbox hg; have n0_ := Aside0.mk (Kd.R_mono (Kd.R_grown (Kd.R_types HO273.out (by exact BK275.out) (by decide)) hg (fun k_ hk e_ => hk.2 (Option.some.inj e_))) (fun k_ hk => hk.1)); have n1_ := Aside0.mk (IsS26.grown (by exact HI267.out) hg (fun e_ => NB267_275.out (Option.some.inj e_))); have n2_ := Aside0.mk (pw_below_grown (by exact HB.out) (some gb275) (below_size (by exact HB.out)) hg (fun k_ e_ => by cases e_; exact GE275.out)); have n3_ := Aside0.mk (hbox); clear HO273; clear HI267; clear HB; clear BK275; have HO273 := n0_; have HI267 := n1_; have HB := n2_; have BK275 := n3_; clear n0_ n1_ n2_ n3_; clear hbox hg; have hcz55_0 := tch4 BK275.out) | ((with_reducible refine gate_callee (f := 18) rfl ?_); refine goesL_ (some 16) rfl rfl Try.func18 (by kernel_rfl) rfl #[.agg #[.int .i64 t268, .int .i64 t269, .int .i64 t270, .slice Ao53 t271.length co53]] rfl (by (try simp only [List.map_toArray, List.map_cons, List.map_nil]); first | done | rfl | (simp only [List.length_drop, List.length_take]; rfl)) ?_; (with_reducible refine (bus_Body.calls k t268 t269 t270 _ _ t271 t276 t279 _ ?side1 ?side2 A5.out).mono ?_); (case side1 => repeat (first | exact (Kd.R_reads' HO273.out).2.2 | (with_reducible refine Kd.C_alloc ?_ _) | (with_reducible refine Kd.C_drewN ?_ _) | (with_reducible refine Kd.C_drew ?_))); (case side2 => exact (Kd.R_reads' HO273.out).2.1); rintro e w56 ⟨v277, rfl, ho0, hb⟩; refine ⟨_, rfl, ?_⟩; have n0_ := Aside0.mk (Kd.R_elder' (by (with_reducible repeat (first | apply Kd.R_alloc | apply Kd.R_drewN | apply Kd.R_drew)); exact HO273.out) (Kd.R_base ho0) hb); have n1_ := Aside0.mk (Kd.R_lower (Kd.R_new' ho0 (Kd.R_lt (by (with_reducible repeat (first | apply Kd.R_alloc | apply Kd.R_drewN | apply Kd.R_drew)); exact HO273.out))) (below_size (by exact HB.out))); have n2_ := Aside0.mk (IsS26.below (by exact HI267.out) hb); have n3_ := Aside0.mk (blk_below BK275.out hb); have n4_ := Aside0.mk (below_step (by exact HB.out) hb); clear HO273; clear HI267; clear BK275; clear HB; have HO273 := n0_; have HO278 := n1_; have HI267 := n2_; have BK275 := n3_; have HB := n4_; clear n0_ n1_ n2_ n3_ n4_; (try clear hb); (try clear hb2); (try clear hk); (try clear hi); (try clear ho0); have hcz57_0 := tch4 BK275.out) | ((with_reducible refine gate_callee (f := 19) rfl ?_); refine goesL_ (some 21) rfl rfl Try.func19 (by kernel_rfl) rfl #[.agg #[.int .i64 t268, .int .i64 t269, .int .i64 t270, .slice Ao53 t271.length co53]] rfl (by (try simp only [List.map_toArray, List.map_cons, List.map_nil]); first | done | rfl | (simp only [List.length_drop, List.length_take]; rfl)) ?_; (with_reducible refine (bus_Encode.calls k t268 t269 t270 _ _ t271 t280 t283 _ ?side1 ?side2 A6.out).mono ?_); (case side1 => repeat (first | exact (Kd.R_reads' HO273.out).2.2 | (with_reducible refine Kd.C_alloc ?_ _) | (with_reducible refine Kd.C_drewN ?_ _) | (with_reducible refine Kd.C_drew ?_))); (case side2 => exact (Kd.R_reads' HO273.out).2.1); rintro e w58 ⟨v281, rfl, ho0, hb⟩; refine ⟨_, rfl, ?_⟩; have n0_ := Aside0.mk (Kd.R_elder' (by (with_reducible repeat (first | apply Kd.R_alloc | apply Kd.R_drewN | apply Kd.R_drew)); exact HO273.out) (Kd.R_base ho0) hb); have n1_ := Aside0.mk (Kd.R_elder' (by (with_reducible repeat (first | apply Kd.R_alloc | apply Kd.R_drewN | apply Kd.R_drew)); exact HO278.out) (Kd.R_base ho0) hb); have n2_ := Aside0.mk (Kd.R_lower (Kd.R_new' (Kd.R_new' ho0 (Kd.R_lt (by (with_reducible repeat (first | apply Kd.R_alloc | apply Kd.R_drewN | apply Kd.R_drew)); exact HO273.out))) (Kd.R_lt (by (with_reducible repeat (first | apply Kd.R_alloc | apply Kd.R_drewN | apply Kd.R_drew)); exact HO278.out))) (below_size (by exact HB.out))); have n3_ := Aside0.mk (IsS26.below (by exact HI267.out) hb); have n4_ := Aside0.mk (blk_below BK275.out hb); have n5_ := Aside0.mk (below_step (by exact HB.out) hb); clear HO273; clear HO278; clear HI267; clear BK275; clear HB; have HO273 := n0_; have HO278 := n1_; have HO282 := n2_; have HI267 := n3_; have BK275 := n4_; have HB := n5_; clear n0_ n1_ n2_ n3_ n4_ n5_; (try clear hb); (try clear hb2); (try clear hk); (try clear hi); (try clear ho0); obtain ⟨Ao59, co59, eo59⟩ := Kd.R_slice HO278.out; subst eo59; have hcz60_0 := tch4 BK275.out))
          go_ret
          exact ⟨by first | rfl | (simp [errW_none, errW_some] <;> rfl) | (simp [*, errW_none, errW_some] <;> rfl), by exact HB.out⟩
      · rw [if_neg c8] at H
        have c8b0 : (t283 == 0) = false := beq_eq_false_iff_ne.mpr c8
        have c8b1 : (t283 != 0) = true := bne_iff_ne.mpr c8
        obtain rfl := Option.some.inj H
        go_enter Try.func4, Try.ntmps4
        go_wp2_with (first | ((with_reducible refine gate_callee (f := 16) rfl ?_); refine goesL_ (some 8) rfl rfl Try.func16 (by kernel_rfl) rfl #[] rfl (by (try simp only [List.map_toArray, List.map_cons, List.map_nil]); first | done | rfl | (simp only [List.length_drop, List.length_take]; rfl)) ?_; (with_reducible refine (spykeep2_carries.calls k  true _ A2.out).mono ?_); rintro e w61 ⟨rfl, hb⟩; refine ⟨_, rfl, ?_⟩; have n0_ := Aside0.mk (below_step (by exact HB.out) hb); clear HB; have HB := n0_; clear n0_; (try clear hb); (try clear hb2); (try clear hk); (try clear hi)) | ((with_reducible refine gate_dst (N := 12) rfl ?_); (try (refine gate_guard (by rfl) ?_; dsimp only)); refine box_event ?hg (N := 12) ?hd (cs := #[.slice A0 l0.length c0, .int .i64 0]) (t := 26) ?hr ?_; (case hd => rfl); (case hg => rfl); (case hr => first | (go_simp; done) | (go_simp; rfl)); intro gb267 hg w62 hbox hb; have n0_ := Aside0.mk (below_step (by exact HB.out) hb); have n1_ := Aside0.mk ((by rw [hg]; exact (below_size (by exact HB.out)) : w.heap.size ≤ gb267)); have n2_ := Aside0.mk ((by rw [hg]; exact (below_size (by exact HB.out)) : w.heap.size ≤ gb267)); have n3_ := Aside0.mk ((show IsS26 w w62 gb267 l0 0 from ⟨_, _, hbox, (by rw [hg]; exact (below_size (by exact HB.out)) : w.heap.size ≤ gb267), HR0.out⟩)); clear HB; have HB := n0_; have GW267 := n1_; have GE267 := n2_; have HI267 := n3_; clear n0_ n1_ n2_ n3_; clear hb hbox hg) | ((with_reducible refine gate_callee (f := 17) rfl ?_); refine goesL_ (some 13) rfl rfl Try.func17 (by kernel_rfl) rfl #[.pointer (some ⟨gb267, 0, none⟩)] rfl (by (try simp only [List.map_toArray, List.map_cons, List.map_nil]); first | done | rfl | (simp only [List.length_drop, List.length_take]; rfl)) ?_; (with_reducible refine (spykeep2_packet.calls k gb267 l0 0 t268 t269 t270 t271 t274 w _ ?side1 ?side2 A4.out).mono ?_); (case side1 => exact HI267.out); (case side2 => exact HB.out); rintro e w63 ⟨v272, rfl, ho0, hi, hb, hk⟩; refine ⟨_, rfl, ?_⟩; have n0_ := Aside0.mk (Kd.R_lower ho0 (below_size (by exact HB.out))); have n1_ := Aside0.mk (hb); have n2_ := Aside0.mk (hi); clear HB; clear HI267; have HO273 := n0_; have HB := n1_; have HI267 := n2_; clear n0_ n1_ n2_; (try clear hb); (try clear hb2); (try clear hk); (try clear hi); (try clear ho0)) | ((with_reducible refine gate_dst (N := 3) rfl ?_); (try (refine gate_guard (by rfl) ?_; dsimp only)); refine box_event ?hg (N := 3) ?hd (cs := #[.int .i64 0, .int .i64 0, .int .i64 0, .slice none 0 0]) (t := 40) ?hr ?_; (case hd => rfl); (case hg => rfl); (case hr => first | (go_simp; done) | (go_simp; rfl)); intro gb275 hg w64 hbox hb; have n0_ := Aside0.mk (Kd.R_below (by (with_reducible repeat (first | apply Kd.R_alloc | apply Kd.R_drewN | apply Kd.R_drew)); exact HO273.out) hb); have n1_ := Aside0.mk (IsS26.below (by exact HI267.out) hb); have n2_ := Aside0.mk (below_step (by exact HB.out) hb); have n3_ := Aside0.mk (hbox); have n4_ := Aside0.mk ((by rw [hg]; exact (below_size (by exact HB.out)) : w.heap.size ≤ gb275)); have n5_ := Aside0.mk ((by rw [hg]; exact (below_size (by exact HB.out)) : w.heap.size ≤ gb275)); have n6_ := Aside0.mk ((by rw [hg]; exact Nat.ne_of_lt (IsS26.lt (show IsS26 w _ gb267 l0 t274 from by exact HI267.out)) : gb267 ≠ gb275)); clear HO273; clear HI267; clear HB; have HO273 := n0_; have HI267 := n1_; have HB := n2_; have BK275 := n3_; have GW275 := n4_; have GE275 := n5_; have NB267_275 := n6_; clear n0_ n1_ n2_ n3_ n4_ n5_ n6_; clear hb hbox hg; obtain ⟨Ao65, co65, eo65⟩ := Kd.R_slice HO273.out; subst eo65) | ((with_reducible refine gate_store (t := 40) (p := 3) rfl ?_); refine store_row (t := 40) (p := 3) (v := ?vo_w66) ?hgd ?ho ?hN gb275 0 #[.int .i64 0, .int .i64 0, .int .i64 0, .slice none 0 0] [.int .i64 t268, .int .i64 t269, .int .i64 t270, .slice Ao65 t271.length co65] #[.int .i64 t268, .int .i64 t269, .int .i64 t270, .slice Ao65 t271.length co65] ?hx ?hy (by exact BK275.out) szi40 (Nat.le_of_ble_eq_true rfl) ?h1 ?hnew ?_; (case ho => rfl); (case hgd => rfl); (case hN => rfl); (case hx => rfl); (case hy => first | rfl | (go_simp; done) | (go_simp; rfl)); (case h1 => rfl); (case hnew => rfl); intro w66 hbox hg; have n0_ := Aside0.mk (Kd.R_mono (Kd.R_grown (Kd.R_types HO273.out (by exact BK275.out) (by decide)) hg (fun k_ hk e_ => hk.2 (Option.some.inj e_))) (fun k_ hk => hk.1)); have n1_ := Aside0.mk (IsS26.grown (by exact HI267.out) hg (fun e_ => NB267_275.out (Option.some.inj e_))); have n2_ := Aside0.mk (pw_below_grown (by exact HB.out) (some gb275) (below_size (by exact HB.out)) hg (fun k_ e_ => by cases e_; exact GE275.out)); have n3_ := Aside0.mk (hbox); clear HO273; clear HI267; clear HB; clear BK275; have HO273 := n0_; have HI267 := n1_; have HB := n2_; have BK275 := n3_; clear n0_ n1_ n2_ n3_; clear hbox hg; have hcz67_0 := tch4 BK275.out) | ((with_reducible refine gate_callee (f := 18) rfl ?_); refine goesL_ (some 16) rfl rfl Try.func18 (by kernel_rfl) rfl #[.agg #[.int .i64 t268, .int .i64 t269, .int .i64 t270, .slice Ao65 t271.length co65]] rfl (by (try simp only [List.map_toArray, List.map_cons, List.map_nil]); first | done | rfl | (simp only [List.length_drop, List.length_take]; rfl)) ?_; (with_reducible refine (bus_Body.calls k t268 t269 t270 _ _ t271 t276 t279 _ ?side1 ?side2 A5.out).mono ?_); (case side1 => repeat (first | exact (Kd.R_reads' HO273.out).2.2 | (with_reducible refine Kd.C_alloc ?_ _) | (with_reducible refine Kd.C_drewN ?_ _) | (with_reducible refine Kd.C_drew ?_))); (case side2 => exact (Kd.R_reads' HO273.out).2.1); rintro e w68 ⟨v277, rfl, ho0, hb⟩; refine ⟨_, rfl, ?_⟩; have n0_ := Aside0.mk (Kd.R_elder' (by (with_reducible repeat (first | apply Kd.R_alloc | apply Kd.R_drewN | apply Kd.R_drew)); exact HO273.out) (Kd.R_base ho0) hb); have n1_ := Aside0.mk (Kd.R_lower (Kd.R_new' ho0 (Kd.R_lt (by (with_reducible repeat (first | apply Kd.R_alloc | apply Kd.R_drewN | apply Kd.R_drew)); exact HO273.out))) (below_size (by exact HB.out))); have n2_ := Aside0.mk (IsS26.below (by exact HI267.out) hb); have n3_ := Aside0.mk (blk_below BK275.out hb); have n4_ := Aside0.mk (below_step (by exact HB.out) hb); clear HO273; clear HI267; clear BK275; clear HB; have HO273 := n0_; have HO278 := n1_; have HI267 := n2_; have BK275 := n3_; have HB := n4_; clear n0_ n1_ n2_ n3_ n4_; (try clear hb); (try clear hb2); (try clear hk); (try clear hi); (try clear ho0); have hcz69_0 := tch4 BK275.out) | ((with_reducible refine gate_callee (f := 19) rfl ?_); refine goesL_ (some 21) rfl rfl Try.func19 (by kernel_rfl) rfl #[.agg #[.int .i64 t268, .int .i64 t269, .int .i64 t270, .slice Ao65 t271.length co65]] rfl (by (try simp only [List.map_toArray, List.map_cons, List.map_nil]); first | done | rfl | (simp only [List.length_drop, List.length_take]; rfl)) ?_; (with_reducible refine (bus_Encode.calls k t268 t269 t270 _ _ t271 t280 t283 _ ?side1 ?side2 A6.out).mono ?_); (case side1 => repeat (first | exact (Kd.R_reads' HO273.out).2.2 | (with_reducible refine Kd.C_alloc ?_ _) | (with_reducible refine Kd.C_drewN ?_ _) | (with_reducible refine Kd.C_drew ?_))); (case side2 => exact (Kd.R_reads' HO273.out).2.1); rintro e w70 ⟨v281, rfl, ho0, hb⟩; refine ⟨_, rfl, ?_⟩; have n0_ := Aside0.mk (Kd.R_elder' (by (with_reducible repeat (first | apply Kd.R_alloc | apply Kd.R_drewN | apply Kd.R_drew)); exact HO273.out) (Kd.R_base ho0) hb); have n1_ := Aside0.mk (Kd.R_elder' (by (with_reducible repeat (first | apply Kd.R_alloc | apply Kd.R_drewN | apply Kd.R_drew)); exact HO278.out) (Kd.R_base ho0) hb); have n2_ := Aside0.mk (Kd.R_lower (Kd.R_new' (Kd.R_new' ho0 (Kd.R_lt (by (with_reducible repeat (first | apply Kd.R_alloc | apply Kd.R_drewN | apply Kd.R_drew)); exact HO273.out))) (Kd.R_lt (by (with_reducible repeat (first | apply Kd.R_alloc | apply Kd.R_drewN | apply Kd.R_drew)); exact HO278.out))) (below_size (by exact HB.out))); have n3_ := Aside0.mk (IsS26.below (by exact HI267.out) hb); have n4_ := Aside0.mk (blk_below BK275.out hb); have n5_ := Aside0.mk (below_step (by exact HB.out) hb); clear HO273; clear HO278; clear HI267; clear BK275; clear HB; have HO273 := n0_; have HO278 := n1_; have HO282 := n2_; have HI267 := n3_; have BK275 := n4_; have HB := n5_; clear n0_ n1_ n2_ n3_ n4_ n5_; (try clear hb); (try clear hb2); (try clear hk); (try clear hi); (try clear ho0)))
        go_ret
        exact ⟨by first | rfl | (simp [errW_none, errW_some] <;> rfl) | (simp [*, errW_none, errW_some] <;> rfl), by exact HB.out⟩
    · rw [if_neg c7] at H
      have c7b0 : (t279 == 0) = false := beq_eq_false_iff_ne.mpr c7
      have c7b1 : (t279 != 0) = true := bne_iff_ne.mpr c7
      obtain rfl := Option.some.inj H
      go_enter Try.func4, Try.ntmps4
      go_wp2_with (first | ((with_reducible refine gate_callee (f := 16) rfl ?_); refine goesL_ (some 8) rfl rfl Try.func16 (by kernel_rfl) rfl #[] rfl (by (try simp only [List.map_toArray, List.map_cons, List.map_nil]); first | done | rfl | (simp only [List.length_drop, List.length_take]; rfl)) ?_; (with_reducible refine (spykeep2_carries.calls k  true _ A2.out).mono ?_); rintro e w71 ⟨rfl, hb⟩; refine ⟨_, rfl, ?_⟩; have n0_ := Aside0.mk (below_step (by exact HB.out) hb); clear HB; have HB := n0_; clear n0_; (try clear hb); (try clear hb2); (try clear hk); (try clear hi)) | ((with_reducible refine gate_dst (N := 12) rfl ?_); (try (refine gate_guard (by rfl) ?_; dsimp only)); refine box_event ?hg (N := 12) ?hd (cs := #[.slice A0 l0.length c0, .int .i64 0]) (t := 26) ?hr ?_; (case hd => rfl); (case hg => rfl); (case hr => first | (go_simp; done) | (go_simp; rfl)); intro gb267 hg w72 hbox hb; have n0_ := Aside0.mk (below_step (by exact HB.out) hb); have n1_ := Aside0.mk ((by rw [hg]; exact (below_size (by exact HB.out)) : w.heap.size ≤ gb267)); have n2_ := Aside0.mk ((by rw [hg]; exact (below_size (by exact HB.out)) : w.heap.size ≤ gb267)); have n3_ := Aside0.mk ((show IsS26 w w72 gb267 l0 0 from ⟨_, _, hbox, (by rw [hg]; exact (below_size (by exact HB.out)) : w.heap.size ≤ gb267), HR0.out⟩)); clear HB; have HB := n0_; have GW267 := n1_; have GE267 := n2_; have HI267 := n3_; clear n0_ n1_ n2_ n3_; clear hb hbox hg) | ((with_reducible refine gate_callee (f := 17) rfl ?_); refine goesL_ (some 13) rfl rfl Try.func17 (by kernel_rfl) rfl #[.pointer (some ⟨gb267, 0, none⟩)] rfl (by (try simp only [List.map_toArray, List.map_cons, List.map_nil]); first | done | rfl | (simp only [List.length_drop, List.length_take]; rfl)) ?_; (with_reducible refine (spykeep2_packet.calls k gb267 l0 0 t268 t269 t270 t271 t274 w _ ?side1 ?side2 A4.out).mono ?_); (case side1 => exact HI267.out); (case side2 => exact HB.out); rintro e w73 ⟨v272, rfl, ho0, hi, hb, hk⟩; refine ⟨_, rfl, ?_⟩; have n0_ := Aside0.mk (Kd.R_lower ho0 (below_size (by exact HB.out))); have n1_ := Aside0.mk (hb); have n2_ := Aside0.mk (hi); clear HB; clear HI267; have HO273 := n0_; have HB := n1_; have HI267 := n2_; clear n0_ n1_ n2_; (try clear hb); (try clear hb2); (try clear hk); (try clear hi); (try clear ho0)) | ((with_reducible refine gate_dst (N := 3) rfl ?_); (try (refine gate_guard (by rfl) ?_; dsimp only)); refine box_event ?hg (N := 3) ?hd (cs := #[.int .i64 0, .int .i64 0, .int .i64 0, .slice none 0 0]) (t := 40) ?hr ?_; (case hd => rfl); (case hg => rfl); (case hr => first | (go_simp; done) | (go_simp; rfl)); intro gb275 hg w74 hbox hb; have n0_ := Aside0.mk (Kd.R_below (by (with_reducible repeat (first | apply Kd.R_alloc | apply Kd.R_drewN | apply Kd.R_drew)); exact HO273.out) hb); have n1_ := Aside0.mk (IsS26.below (by exact HI267.out) hb); have n2_ := Aside0.mk (below_step (by exact HB.out) hb); have n3_ := Aside0.mk (hbox); have n4_ := Aside0.mk ((by rw [hg]; exact (below_size (by exact HB.out)) : w.heap.size ≤ gb275)); have n5_ := Aside0.mk ((by rw [hg]; exact (below_size (by exact HB.out)) : w.heap.size ≤ gb275)); have n6_ := Aside0.mk ((by rw [hg]; exact Nat.ne_of_lt (IsS26.lt (show IsS26 w _ gb267 l0 t274 from by exact HI267.out)) : gb267 ≠ gb275)); clear HO273; clear HI267; clear HB; have HO273 := n0_; have HI267 := n1_; have HB := n2_; have BK275 := n3_; have GW275 := n4_; have GE275 := n5_; have NB267_275 := n6_; clear n0_ n1_ n2_ n3_ n4_ n5_ n6_; clear hb hbox hg; obtain ⟨Ao75, co75, eo75⟩ := Kd.R_slice HO273.out; subst eo75) | ((with_reducible refine gate_store (t := 40) (p := 3) rfl ?_); refine store_row (t := 40) (p := 3) (v := ?vo_w76) ?hgd ?ho ?hN gb275 0 #[.int .i64 0, .int .i64 0, .int .i64 0, .slice none 0 0] [.int .i64 t268, .int .i64 t269, .int .i64 t270, .slice Ao75 t271.length co75] #[.int .i64 t268, .int .i64 t269, .int .i64 t270, .slice Ao75 t271.length co75] ?hx ?hy (by exact BK275.out) szi40 (Nat.le_of_ble_eq_true rfl) ?h1 ?hnew ?_; (case ho => rfl); (case hgd => rfl); (case hN => rfl); (case hx => rfl); (case hy => first | rfl | (go_simp; done) | (go_simp; rfl)); (case h1 => rfl); (case hnew => rfl); intro w76 hbox hg; have n0_ := Aside0.mk (Kd.R_mono (Kd.R_grown (Kd.R_types HO273.out (by exact BK275.out) (by decide)) hg (fun k_ hk e_ => hk.2 (Option.some.inj e_))) (fun k_ hk => hk.1)); have n1_ := Aside0.mk (IsS26.grown (by exact HI267.out) hg (fun e_ => NB267_275.out (Option.some.inj e_))); have n2_ := Aside0.mk (pw_below_grown (by exact HB.out) (some gb275) (below_size (by exact HB.out)) hg (fun k_ e_ => by cases e_; exact GE275.out)); have n3_ := Aside0.mk (hbox); clear HO273; clear HI267; clear HB; clear BK275; have HO273 := n0_; have HI267 := n1_; have HB := n2_; have BK275 := n3_; clear n0_ n1_ n2_ n3_; clear hbox hg; have hcz77_0 := tch4 BK275.out) | ((with_reducible refine gate_callee (f := 18) rfl ?_); refine goesL_ (some 16) rfl rfl Try.func18 (by kernel_rfl) rfl #[.agg #[.int .i64 t268, .int .i64 t269, .int .i64 t270, .slice Ao75 t271.length co75]] rfl (by (try simp only [List.map_toArray, List.map_cons, List.map_nil]); first | done | rfl | (simp only [List.length_drop, List.length_take]; rfl)) ?_; (with_reducible refine (bus_Body.calls k t268 t269 t270 _ _ t271 t276 t279 _ ?side1 ?side2 A5.out).mono ?_); (case side1 => repeat (first | exact (Kd.R_reads' HO273.out).2.2 | (with_reducible refine Kd.C_alloc ?_ _) | (with_reducible refine Kd.C_drewN ?_ _) | (with_reducible refine Kd.C_drew ?_))); (case side2 => exact (Kd.R_reads' HO273.out).2.1); rintro e w78 ⟨v277, rfl, ho0, hb⟩; refine ⟨_, rfl, ?_⟩; have n0_ := Aside0.mk (Kd.R_elder' (by (with_reducible repeat (first | apply Kd.R_alloc | apply Kd.R_drewN | apply Kd.R_drew)); exact HO273.out) (Kd.R_base ho0) hb); have n1_ := Aside0.mk (Kd.R_lower (Kd.R_new' ho0 (Kd.R_lt (by (with_reducible repeat (first | apply Kd.R_alloc | apply Kd.R_drewN | apply Kd.R_drew)); exact HO273.out))) (below_size (by exact HB.out))); have n2_ := Aside0.mk (IsS26.below (by exact HI267.out) hb); have n3_ := Aside0.mk (blk_below BK275.out hb); have n4_ := Aside0.mk (below_step (by exact HB.out) hb); clear HO273; clear HI267; clear BK275; clear HB; have HO273 := n0_; have HO278 := n1_; have HI267 := n2_; have BK275 := n3_; have HB := n4_; clear n0_ n1_ n2_ n3_ n4_; (try clear hb); (try clear hb2); (try clear hk); (try clear hi); (try clear ho0); have hcz79_0 := tch4 BK275.out) | ((with_reducible refine gate_callee (f := 19) rfl ?_); refine goesL_ (some 21) rfl rfl Try.func19 (by kernel_rfl) rfl #[.agg #[.int .i64 t268, .int .i64 t269, .int .i64 t270, .slice Ao75 t271.length co75]] rfl (by (try simp only [List.map_toArray, List.map_cons, List.map_nil]); first | done | rfl | (simp only [List.length_drop, List.length_take]; rfl)) ?_; (with_reducible refine (bus_Encode.calls k t268 t269 t270 _ _ t271 t280 t283 _ ?side1 ?side2 A6.out).mono ?_); (case side1 => repeat (first | exact (Kd.R_reads' HO273.out).2.2 | (with_reducible refine Kd.C_alloc ?_ _) | (with_reducible refine Kd.C_drewN ?_ _) | (with_reducible refine Kd.C_drew ?_))); (case side2 => exact (Kd.R_reads' HO273.out).2.1); rintro e w80 ⟨v281, rfl, ho0, hb⟩; refine ⟨_, rfl, ?_⟩; have n0_ := Aside0.mk (Kd.R_elder' (by (with_reducible repeat (first | apply Kd.R_alloc | apply Kd.R_drewN | apply Kd.R_drew)); exact HO273.out) (Kd.R_base ho0) hb); have n1_ := Aside0.mk (Kd.R_elder' (by (with_reducible repeat (first | apply Kd.R_alloc | apply Kd.R_drewN | apply Kd.R_drew)); exact HO278.out) (Kd.R_base ho0) hb); have n2_ := Aside0.mk (Kd.R_lower (Kd.R_new' (Kd.R_new' ho0 (Kd.R_lt (by (with_reducible repeat (first | apply Kd.R_alloc | apply Kd.R_drewN | apply Kd.R_drew)); exact HO273.out))) (Kd.R_lt (by (with_reducible repeat (first | apply Kd.R_alloc | apply Kd.R_drewN | apply Kd.R_drew)); exact HO278.out))) (below_size (by exact HB.out))); have n3_ := Aside0.mk (IsS26.below (by exact HI267.out) hb); have n4_ := Aside0.mk (blk_below BK275.out hb); have n5_ := Aside0.mk (below_step (by exact HB.out) hb); clear HO273; clear HO278; clear HI267; clear BK275; clear HB; have HO273 := n0_; have HO278 := n1_; have HO282 := n2_; have HI267 := n3_; have BK275 := n4_; have HB := n5_; clear n0_ n1_ n2_ n3_ n4_ n5_; (try clear hb); (try clear hb2); (try clear hk); (try clear hi); (try clear ho0)))
      go_ret
      exact ⟨by first | rfl | (simp [errW_none, errW_some] <;> rfl) | (simp [*, errW_none, errW_some] <;> rfl), by exact HB.out⟩
  · replace c3 := Bool.eq_false_iff.mpr c3
    subst c3
    have H1 : (some false) = some r := by rw [if_neg (show ¬ (false = true) by decide)] at H; exact H
    clear H
    have H := H1
    clear H1
    obtain rfl := Option.some.inj H
    go_enter Try.func4, Try.ntmps4
    go_wp2_with (first | ((with_reducible refine gate_callee (f := 16) rfl ?_); refine goesL_ (some 8) rfl rfl Try.func16 (by kernel_rfl) rfl #[] rfl (by (try simp only [List.map_toArray, List.map_cons, List.map_nil]); first | done | rfl | (simp only [List.length_drop, List.length_take]; rfl)) ?_; (with_reducible refine (spykeep2_carries.calls k  false _ A2.out).mono ?_); rintro e w81 ⟨rfl, hb⟩; refine ⟨_, rfl, ?_⟩; have n0_ := Aside0.mk (below_step (by exact HB.out) hb); clear HB; have HB := n0_; clear n0_; (try clear hb); (try clear hb2); (try clear hk); (try clear hi)))
    go_ret
    exact ⟨by first | rfl | (simp [errW_none, errW_some] <;> rfl) | (simp [*, errW_none, errW_some] <;> rfl), by exact HB.out⟩

/-- THE ONE PURE STATEMENT of spykeep2_BusFlags: yours. -/
def spykeep2_BusFlags.Pure : Prop := ∀ (l0 : List Int), l0.length ≤ maxLen → l0.length * 8 ≤ 140737488351232 → (∀ x ∈ l0, (Lit.int .i64 x).wf = true) → ∃ k, spykeep2_BusFlags.f k l0 = some true
theorem spykeep2_BusFlags.walk (P : spykeep2_BusFlags.Pure) (a0 : Option Addr) (len0 cap0 : Nat) (z0 : List Int) (w : World) (w0 : (a0 = none ∧ len0 = 0 ∧ cap0 = 0 ∧ z0 = []) ∨ ∃ x, a0 = some x ∧ len0 ≤ cap0 ∧ cap0 ≤ maxLen ∧ z0.length = cap0 ∧ (∀ i, i < z0.length → w.cell? (x.add i) = some (.int .i64 (z0.getD i 0))) ∧ ∀ n ∈ z0, (Lit.int .i64 n).wf = true) (y0 : len0 * 8 ≤ 140737488351232) :
    Calls Try.prog 4 #[.slice a0 len0 cap0] w fun e w' => e = .returned (.bool true) ∧ Below w.heap.size w w' := by
  obtain ⟨l0, rfl, hr0, hm0, hw0, hc0⟩ := ReadsInt.ofRowC w0
  obtain ⟨k, h⟩ := P l0 hm0 y0 hw0
  refine (spykeep2_BusFlags.calls k _ _ l0 true w (Kd.C_of_reads (d := (0 : Int)) (h1 := fun _ => rfl) hr0) hc0 h).mono ?_
  rintro e w' ⟨rfl, hd⟩
  exact ⟨rfl, hd⟩

end Go.Proofs.Ytdnnjbokdckilaa.PBusFlags
