-- Written by a program of this session (its own turn of the print: wip/patch_print.py), not by hand. Lean checks it.
import Derived.Test.YtdbpdcjlbopkbaaDoorWAll
import Derived.Test.YtdbpdcjlbopkbaaDoorPx0
import Derived.Test.YtdbpdcjlbopkbaaDoorPx21
namespace Go.Proofs.YtdbpdcjlbopkbaaDoor.P
open Go.RowKit Go.Proofs.YtdbpdcjlbopkbaaDoorW.PrintWords Go.Proofs.YtdbpdcjlbopkbaaDoorW.PrintLast Go.Proofs.YtdbpdcjlbopkbaaDoorW.PrintMore
attribute [local go_sem] max2_int min2_int max_two min_two max_three min_three max_four min_four   -- for this text's walks alone
set_option linter.unusedVariables false
set_option linter.unusedSimpArgs false

/-! ### parallaxref08_Sound: function 20 -/
mutual
def parallaxref08_Sound.j0 : Nat → List (S33) → Bool → Option (Bool)
 | 0, _, _ => none
 | k + 1, x0, x40 => if x40 = true then (some false) else (parallaxref08_Sound.l0 k x0 0)
def parallaxref08_Sound.l0 : Nat → List (S33) → Int → Option (Bool)
 | 0, _, _ => none
 | k + 1, x0, x5 => if x5 < (x0.length : Int) then ((parallaxref08_Heights.f k x0 x5).bind fun bt417 => (if bt417.2 = true then (parallaxref08_Sound.l0 k x0 (wrap64 (x5 + 1))) else (some false))) else (some true)
end
def parallaxref08_Sound.f (k : Nat) (l0 : List (S33)) (a1 : Int) : Option (Bool) := if (l0.length : Int) = 0 then (parallaxref08_Sound.j0 k l0 true) else (if (l0.length : Int) > 40 then (parallaxref08_Sound.j0 k l0 true) else (if a1 < 0 then (parallaxref08_Sound.j0 k l0 true) else (if a1 ≥ (l0.length : Int) then (parallaxref08_Sound.j0 k l0 true) else (if 0 ≤ a1 then (if a1 < (l0.length : Int) then (if ((rd_T33 l0 a1).f2) = 0 then (parallaxref08_Sound.j0 k l0 ((rd_T33 l0 a1).f3)) else (parallaxref08_Sound.j0 k l0 true)) else (none)) else (none)))))
theorem parallaxref08_Sound.mono_l : ∀ k, (∀ y0 y1, LeO (parallaxref08_Sound.j0 k y0 y1) (parallaxref08_Sound.j0 (k + 1) y0 y1)) ∧ (∀ y0 y1, LeO (parallaxref08_Sound.l0 k y0 y1) (parallaxref08_Sound.l0 (k + 1) y0 y1))
 | 0 => ⟨fun _ _ r h => by simp [parallaxref08_Sound.j0] at h, fun _ _ r h => by simp [parallaxref08_Sound.l0] at h⟩
 | k + 1 => by
  obtain ⟨ih0, ih1⟩ := parallaxref08_Sound.mono_l k
  refine ⟨?_, ?_⟩
  ·intro y0 y1
   unfold parallaxref08_Sound.j0
   repeat' (with_reducible first | apply ih0 | apply ih1 | apply parallaxref08_Heights.mono | exact LeO.refl _ | exact LeO.none _ | refine LeO.ite ?_ ?_ | refine LeO.bind ?_ (fun _ => ?_))
  ·intro y0 y1
   unfold parallaxref08_Sound.l0
   repeat' (with_reducible first | apply ih0 | apply ih1 | apply parallaxref08_Heights.mono | exact LeO.refl _ | exact LeO.none _ | refine LeO.ite ?_ ?_ | refine LeO.bind ?_ (fun _ => ?_))
theorem parallaxref08_Sound.mono : ∀ a0 a1 k, LeO (parallaxref08_Sound.f k a0 a1) (parallaxref08_Sound.f (k + 1) a0 a1) := by
 intro a0 a1 k
 obtain ⟨ih0, ih1⟩ := parallaxref08_Sound.mono_l k
 unfold parallaxref08_Sound.f
 repeat' (with_reducible first | apply ih0 | apply ih1 | apply parallaxref08_Heights.mono | exact LeO.refl _ | exact LeO.none _ | refine LeO.ite ?_ ?_ | refine LeO.bind ?_ (fun _ => ?_))
set_option maxHeartbeats 8000000 in
set_option maxRecDepth 100000 in
theorem parallaxref08_Sound.calls (k : Nat) (A0 : Option Addr) (c0 : Nat) (l0 : List (S33)) (a1 : Int) (r : Bool) (w : World) (hr0 : Kd.C k33 w A0 l0.length l0) (hc0 : l0.length ≤ c0) (h : parallaxref08_Sound.f k l0 a1 = some r) :
  Calls Tryd.prog 20 #[.slice A0 l0.length c0, .int .i64 a1] w fun e w' => e = .returned (.bool r) ∧ Below w.heap.size w w' := by
 have HR0 := Aside0.mk hr0; have HC0 := Aside0.mk hc0; clear hr0 hc0; have HB := Aside0.mk (Below.refl w.heap.size w); have H : (if (l0.length : Int) = 0 then (parallaxref08_Sound.j0 k l0 true) else (if (l0.length : Int) > 40 then (parallaxref08_Sound.j0 k l0 true) else (if a1 < 0 then (parallaxref08_Sound.j0 k l0 true) else (if a1 ≥ (l0.length : Int) then (parallaxref08_Sound.j0 k l0 true) else (if 0 ≤ a1 then (if a1 < (l0.length : Int) then (if ((rd_T33 l0 a1).f2) = 0 then (parallaxref08_Sound.j0 k l0 ((rd_T33 l0 a1).f3)) else (parallaxref08_Sound.j0 k l0 true)) else (none)) else (none)))))) = some r := h; clear h; have HC3 := Aside0.mk H; clear H; go_enter Tryd.func20, Tryd.ntmps20
 go_upto_region 1 with (fail)
 go_cut [40] (fun v40 wc => ∃ (kq : Nat) (x40_2 : Bool), v40 = .bool x40_2 ∧ Aside0 (parallaxref08_Sound.j0 kq l0 x40_2 = some r) ∧ Aside0 (kq ≤ k) ∧ Aside0 (Below w.heap.size w wc))
 case first =>
  have H := HC3.out; clear HC3
  by_cases c4 : (l0.length : Int) = 0
  ·rw [if_pos c4] at H; have c4b0 : ((l0.length : Int) == 0) = true := beq_iff_eq.mpr c4; have c4b1 : ((l0.length : Int) != 0) = false := bne_eq_false_iff_eq.mpr c4; clear c4; (first | rw [c4b0] | (simp only [i64_w, i32_w]; rw [c4b0]) | skip); have H' := Aside0.mk H; clear H; go_wp2; go_meet
   case rel => exact ⟨_, (true), pr, H', ⟨by first | omega | exact Nat.le_refl _⟩, ⟨bl⟩⟩
  ·rw [if_neg c4] at H; have c4b0 : ((l0.length : Int) == 0) = false := beq_eq_false_iff_ne.mpr c4; have c4b1 : ((l0.length : Int) != 0) = true := bne_iff_ne.mpr c4; have c4b2 : ¬ (l0 = []) := fun h_ => c4 (by rw [h_]; rfl)
   (first | rw [c4b0] | (simp only [i64_w, i32_w]; rw [c4b0]) | skip)
   by_cases c5 : (l0.length : Int) > 40
   ·rw [if_pos c5] at H; have c5b0 : decide (40 < (l0.length : Int)) = true := decide_eq_true c5; have c5b1 : decide (40 < l0.length) = true := decide_eq_true (by omega); clear c5; have H' := Aside0.mk H; clear H; go_wp2; go_meet
    case rel => exact ⟨_, (true), pr, H', ⟨by first | omega | exact Nat.le_refl _⟩, ⟨bl⟩⟩
   ·rw [if_neg c5] at H; have c5b0 : decide (40 < (l0.length : Int)) = false := decide_eq_false c5; have c5b1 : decide (40 < l0.length) = false := decide_eq_false (by omega); clear c5
    by_cases c6 : a1 < 0
    ·rw [if_pos c6] at H; have c6b0 : decide (a1 < 0) = true := decide_eq_true c6; clear c6; have H' := Aside0.mk H; clear H; go_wp2; go_meet
     case rel => exact ⟨_, (true), pr, H', ⟨by first | omega | exact Nat.le_refl _⟩, ⟨bl⟩⟩
    ·rw [if_neg c6] at H; have c6b0 : decide (a1 < 0) = false := decide_eq_false c6; clear c6
     by_cases c7 : a1 ≥ (l0.length : Int)
     ·rw [if_pos c7] at H; have c7b0 : decide ((l0.length : Int) ≤ a1) = true := decide_eq_true c7; clear c7; have H' := Aside0.mk H; clear H; go_wp2; go_meet
      case rel => exact ⟨_, (true), pr, H', ⟨by first | omega | exact Nat.le_refl _⟩, ⟨bl⟩⟩
     ·rw [if_neg c7] at H; have c7b0 : decide ((l0.length : Int) ≤ a1) = false := decide_eq_false c7; clear c7
      by_cases c8 : 0 ≤ a1
      ·rw [if_pos c8] at H; have c8b0 : decide (0 ≤ a1) = true := decide_eq_true c8; clear c8
       by_cases c9 : a1 < (l0.length : Int)
       ·rw [if_pos c9] at H; have c9b0 : decide (a1 < (l0.length : Int)) = true := decide_eq_true c9; clear c9
        by_cases c10 : ((rd_T33 l0 a1).f2) = 0
        ·rw [if_pos c10] at H; have c10b0 : (((rd_T33 l0 a1).f2) == 0) = true := beq_iff_eq.mpr c10; have c10b1 : (((rd_T33 l0 a1).f2) != 0) = false := bne_eq_false_iff_eq.mpr c10; clear c10; have H' := Aside0.mk H; clear H
         have p415 : 0 ≤ (a1 : Int) := of_decide_eq_true pa
         have q415 : a1 < (l0.length : Int) := of_decide_eq_true pa
         obtain ⟨ad415, A415_0, c415_0, e415, hx415_0, hx415_1, hx415_2, hx415_3, hl415_0, hi415_0⟩ := at_T33 HR0.out a1 p415 q415
         cases e415
         replace hx415_0 := pc HB.out hx415_0; replace hx415_1 := pc HB.out hx415_1; replace hx415_2 := pc HB.out hx415_2; replace hx415_3 := pc HB.out hx415_3; have HR415_0 := Aside0.mk hi415_0; have HC415_0 := Aside0.mk hl415_0; clear hi415_0 hl415_0; replace p415 := eq_true p415; replace q415 := eq_true q415
         have p416 : 0 ≤ (a1 : Int) := of_decide_eq_true pa
         have q416 : a1 < (l0.length : Int) := of_decide_eq_true pa
         obtain ⟨ad416, A416_0, c416_0, e416, hx416_0, hx416_1, hx416_2, hx416_3, hl416_0, hi416_0⟩ := at_T33 HR0.out a1 p416 q416; obtain rfl : ad415 = ad416 := (by injection e416); replace hx416_0 := pc HB.out hx416_0; replace hx416_1 := pc HB.out hx416_1; replace hx416_2 := pc HB.out hx416_2; replace hx416_3 := pc HB.out hx416_3; have HR416_0 := Aside0.mk hi416_0; have HC416_0 := Aside0.mk hl416_0; clear hi416_0 hl416_0; replace p416 := eq_true p416; replace q416 := eq_true q416; have ea_ := Option.some.inj (hx415_0.symm.trans hx416_0)
         injection ea_ with ea_ en_ ec_
         subst ea_; subst ec_; clear en_; go_wp2; go_meet
         case rel => exact ⟨_, ((rd_T33 l0 a1).f3), pr, H', ⟨by first | omega | exact Nat.le_refl _⟩, ⟨bl⟩⟩
        ·rw [if_neg c10] at H; have c10b0 : (((rd_T33 l0 a1).f2) == 0) = false := beq_eq_false_iff_ne.mpr c10; have c10b1 : (((rd_T33 l0 a1).f2) != 0) = true := bne_iff_ne.mpr c10; have H' := Aside0.mk H; clear H
         have p415 : 0 ≤ (a1 : Int) := of_decide_eq_true pa
         have q415 : a1 < (l0.length : Int) := of_decide_eq_true pa
         obtain ⟨ad415, A415_0, c415_0, e415, hx415_0, hx415_1, hx415_2, hx415_3, hl415_0, hi415_0⟩ := at_T33 HR0.out a1 p415 q415
         cases e415
         replace hx415_0 := pc HB.out hx415_0; replace hx415_1 := pc HB.out hx415_1; replace hx415_2 := pc HB.out hx415_2; replace hx415_3 := pc HB.out hx415_3; have HR415_0 := Aside0.mk hi415_0; have HC415_0 := Aside0.mk hl415_0; clear hi415_0 hl415_0; replace p415 := eq_true p415; replace q415 := eq_true q415; go_wp2; go_meet
         case rel => exact ⟨_, (true), pr, H', ⟨by first | omega | exact Nat.le_refl _⟩, ⟨bl⟩⟩
       ·rw [if_neg c9] at H; exact absurd H (by simp)
      ·rw [if_neg c8] at H; exact absurd H (by simp)
 case rest =>
  clear HC3; obtain ⟨kq, x40_2, rfl, HA, HJ2, HB⟩ := hcut
  cases kq with
  | zero => exact absurd HA.out (by simp [parallaxref08_Sound.j0])
  | succ kj2 =>
   have H := HA.out; clear HA; simp only [parallaxref08_Sound.j0] at H
   by_cases c11 : x40_2 = true
   ·subst c11; rw [if_pos rfl] at H; obtain rfl := Option.some.inj H; go_wp2; go_ret; exact ⟨pe, bl⟩
   ·replace c11 := Bool.eq_false_iff.mpr c11; subst c11; rw [if_neg (show ¬ (false = true) by decide)] at H; have H' := Aside0.mk H; clear H; go_wp2
    go_loopg [5] kj2 (fun kq v5 w' => ∃ (x5_2 : Int), v5 = .int .i64 x5_2 ∧ Aside0 (parallaxref08_Sound.l0 kq l0 x5_2 = some r) ∧ Aside0 (kq ≤ kj2) ∧ Aside0 (Below w.heap.size w w'))
    case atStart => exact ⟨(0), pr, H', ⟨Nat.le_refl _⟩, ⟨bl⟩⟩
    case round =>
     clear H'; obtain ⟨x5_2, rfl, HA, HK2, HB⟩ := hrel
     cases gk with
     | zero => exact absurd HA.out (by simp [parallaxref08_Sound.l0])
     | succ k2 =>
      have H := HA.out; clear HA; simp only [parallaxref08_Sound.l0] at H
      by_cases c12 : x5_2 < (l0.length : Int)
      ·rw [if_pos c12] at H; have c12b0 : decide (x5_2 < (l0.length : Int)) = true := decide_eq_true c12; clear c12; replace H := Option.bind_eq_some_iff.mp H; obtain ⟨⟨t417, t418⟩, A130, H⟩ := H; have A13 := Aside0.mk A130; clear A130
       by_cases c14 : t418 = true
       ·subst c14; rw [if_pos rfl] at H; have H' := Aside0.mk H; clear H
        go_wp2_with (first | ((with_reducible refine gate_callee (f := 22) rfl ?_); refine goesL_ (some 50) rfl rfl Tryd.func22 (by kernel_rfl) rfl #[.slice A0 l0.length c0, .int .i64 x5_2] rfl (by (try simp only [List.map_toArray, List.map_cons, List.map_nil]); first | done | rfl | (simp only [List.length_drop, List.length_take]; rfl)) ?_; (with_reducible refine (parallaxref08_Heights.calls k2 _ _ l0 x5_2 t417 true _ ?side1 ?side2 A13.out).mono ?_); (case side1 => repeat (first | exact (Kd.C_below HR0.out HB.out) | (with_reducible refine Kd.C_alloc ?_ _) | (with_reducible refine Kd.C_drewN ?_ _) | (with_reducible refine Kd.C_drew ?_))); (case side2 => exact HC0.out); rintro e w15 ⟨v419, rfl, ho0, hb⟩; refine ⟨_, rfl, ?_⟩; have n0_ := Aside0.mk (Kd.R_lower ho0 (below_size bl)); have n1_ := Aside0.mk (below_step bl hb); clear HB; have HO420 := n0_; have HB := n1_; clear n0_ n1_; (try clear hb); (try clear ho0)))
        go_roundg k2
        case measure => have := HJ2.out; have := HK2.out; omega
        case rel => exact ⟨(wrap64 (x5_2 + 1)), pr, H', ⟨by have := HJ2.out; have := HK2.out; omega⟩, ⟨bl⟩⟩
       ·replace c14 := Bool.eq_false_iff.mpr c14; subst c14; rw [if_neg (show ¬ (false = true) by decide)] at H; obtain rfl := Option.some.inj H
        go_wp2_with (first | ((with_reducible refine gate_callee (f := 22) rfl ?_); refine goesL_ (some 50) rfl rfl Tryd.func22 (by kernel_rfl) rfl #[.slice A0 l0.length c0, .int .i64 x5_2] rfl (by (try simp only [List.map_toArray, List.map_cons, List.map_nil]); first | done | rfl | (simp only [List.length_drop, List.length_take]; rfl)) ?_; (with_reducible refine (parallaxref08_Heights.calls k2 _ _ l0 x5_2 t417 false _ ?side1 ?side2 A13.out).mono ?_); (case side1 => repeat (first | exact (Kd.C_below HR0.out HB.out) | (with_reducible refine Kd.C_alloc ?_ _) | (with_reducible refine Kd.C_drewN ?_ _) | (with_reducible refine Kd.C_drew ?_))); (case side2 => exact HC0.out); rintro e w16 ⟨v419, rfl, ho0, hb⟩; refine ⟨_, rfl, ?_⟩; have n0_ := Aside0.mk (Kd.R_lower ho0 (below_size bl)); have n1_ := Aside0.mk (below_step bl hb); clear HB; have HO420 := n0_; have HB := n1_; clear n0_ n1_; (try clear hb); (try clear ho0)))
        go_ret; exact ⟨pe, bl⟩
      ·rw [if_neg c12] at H; have c12b0 : decide (x5_2 < (l0.length : Int)) = false := decide_eq_false c12; clear c12; obtain rfl := Option.some.inj H; go_wp2; go_ret; exact ⟨pe, bl⟩

end Go.Proofs.YtdbpdcjlbopkbaaDoor.P
