-- Written by a program of this session (its own turn of the print: wip/patch_print.py), not by hand. Lean checks it.
import Derived.Test.YtmbjogpphegoaaaDoorWZip3
import Derived.Test.YtmbjogpphegoaaaDoorPx0
import Derived.Test.YtmbjogpphegoaaaDoorPx21
namespace Go.Proofs.YtmbjogpphegoaaaDoor.P
open Go.RowKit Go.Proofs.YtmbjogpphegoaaaDoorW.PrintWords Go.Proofs.YtmbjogpphegoaaaDoorW.PrintLast Go.Proofs.YtmbjogpphegoaaaDoorW.PrintMore
attribute [local go_sem] max2_int min2_int max_two min_two max_three min_three max_four min_four
set_option linter.unusedVariables false
set_option linter.unusedSimpArgs false

/-! ### parallaxref08_Sound: function 13 -/
mutual
def parallaxref08_Sound.j0 : Nat → List (S35) → Bool → Option (Bool)
 | 0, _, _ => none
 | k + 1, x0, x40 => if x40 = true then (some false) else (parallaxref08_Sound.l0 k x0 0)
def parallaxref08_Sound.l0 : Nat → List (S35) → Int → Option (Bool)
 | 0, _, _ => none
 | k + 1, x0, x5 => if x5 < (x0.length : Int) then ((parallaxref08_Heights.f k x0 x5).bind fun bt550 => (if bt550.2 = true then (parallaxref08_Sound.l0 k x0 (wrap64 (x5 + 1))) else (some false))) else (some true)
end
def parallaxref08_Sound.f (k : Nat) (l0 : List (S35)) (a1 : Int) : Option (Bool) := if (l0.length : Int) = 0 then (parallaxref08_Sound.j0 k l0 true) else (if (l0.length : Int) > 40 then (parallaxref08_Sound.j0 k l0 true) else (if a1 < 0 then (parallaxref08_Sound.j0 k l0 true) else (if a1 ≥ (l0.length : Int) then (parallaxref08_Sound.j0 k l0 true) else (if 0 ≤ a1 then (if a1 < (l0.length : Int) then (if ((rd_T35 l0 a1).f2) = 0 then (parallaxref08_Sound.j0 k l0 ((rd_T35 l0 a1).f3)) else (parallaxref08_Sound.j0 k l0 true)) else (none)) else (none)))))
set_option maxHeartbeats 8000000 in
set_option maxRecDepth 100000 in
theorem parallaxref08_Sound.calls (k : Nat) (A0 : Option Addr) (c0 : Nat) (l0 : List (S35)) (a1 : Int) (r : Bool) (w : World) (hr0 : Kd.C k35 w A0 l0.length l0) (hc0 : l0.length ≤ c0) (h : parallaxref08_Sound.f k l0 a1 = some r) :
  Calls Tryd.prog 13 #[.slice A0 l0.length c0, .int .i64 a1] w fun e w' => e = .returned (.bool r) ∧ Below w.heap.size w w' := by
 have HR0 := Aside0.mk hr0; have HC0 := Aside0.mk hc0; clear hr0 hc0; have HB := Aside0.mk (Below.refl w.heap.size w); have H : (if (l0.length : Int) = 0 then (parallaxref08_Sound.j0 k l0 true) else (if (l0.length : Int) > 40 then (parallaxref08_Sound.j0 k l0 true) else (if a1 < 0 then (parallaxref08_Sound.j0 k l0 true) else (if a1 ≥ (l0.length : Int) then (parallaxref08_Sound.j0 k l0 true) else (if 0 ≤ a1 then (if a1 < (l0.length : Int) then (if ((rd_T35 l0 a1).f2) = 0 then (parallaxref08_Sound.j0 k l0 ((rd_T35 l0 a1).f3)) else (parallaxref08_Sound.j0 k l0 true)) else (none)) else (none)))))) = some r := h; clear h; have HC3 := Aside0.mk H; clear H; go_enter Tryd.func13, Tryd.ntmps13
 go_upto_region 1 with (fail)
 go_cut [40] (fun v40 wc => ∃ (kq : Nat) (x40_2 : Bool), v40 = .bool x40_2 ∧ Aside0 (parallaxref08_Sound.j0 kq l0 x40_2 = some r) ∧ Aside0 (kq ≤ k) ∧ Aside0 (Below w.heap.size w wc))
 case first =>
  have H := HC3.out; clear HC3
  by_cases c4 : (l0.length : Int) = 0
  ·rw [if_pos c4] at H; obtain ⟨c4b0, c4b1⟩ := eqs c4; clear c4; (first | rw [c4b0] | (simp only [i64_w, i32_w]; rw [c4b0]) | skip); have H' := Aside0.mk H; clear H; go_wp2; go_meet
   case rel => exact ⟨_, (true), pr, H', ⟨by first | omega | exact Nat.le_refl _⟩, ⟨bl⟩⟩
  ·rw [if_neg c4] at H; obtain ⟨c4b0, c4b1⟩ := eqf c4; have c4b2 : ¬ (l0 = []) := fun h_ => c4 (by rw [h_]; rfl)
   (first | rw [c4b0] | (simp only [i64_w, i32_w]; rw [c4b0]) | skip)
   by_cases c5 : (l0.length : Int) > 40
   ·rw [if_pos c5] at H; have c5b0 : decide (40 < (l0.length : Int)) = true := decide_eq_true c5; have c5b1 : decide (40 < l0.length) = true := decide_eq_true (by omega); clear c5; have H' := Aside0.mk H; clear H; go_wp2; go_meet
    case rel => exact ⟨_, (true), pr, H', ⟨by first | omega | exact Nat.le_refl _⟩, ⟨bl⟩⟩
   ·rw [if_neg c5] at H; have c5b0 : decide (40 < (l0.length : Int)) = false := decide_eq_false c5; have c5b1 : decide (40 < l0.length) = false := decide_eq_false (by omega); clear c5
    by_cases c6 : a1 < 0
    ·rw [if_pos c6] at H; have c6b0 := decide_eq_true c6; clear c6; have H' := Aside0.mk H; clear H; go_wp2; go_meet
     case rel => exact ⟨_, (true), pr, H', ⟨by first | omega | exact Nat.le_refl _⟩, ⟨bl⟩⟩
    ·rw [if_neg c6] at H; have c6b0 := decide_eq_false c6; clear c6
     by_cases c7 : a1 ≥ (l0.length : Int)
     ·rw [if_pos c7] at H; have c7b0 : decide ((l0.length : Int) ≤ a1) = true := decide_eq_true c7; clear c7; have H' := Aside0.mk H; clear H; go_wp2; go_meet
      case rel => exact ⟨_, (true), pr, H', ⟨by first | omega | exact Nat.le_refl _⟩, ⟨bl⟩⟩
     ·rw [if_neg c7] at H; have c7b0 : decide ((l0.length : Int) ≤ a1) = false := decide_eq_false c7; clear c7
      replace H := it (c := 0 ≤ a1) H; obtain ⟨c8, H⟩ := H; have c8b0 := decide_eq_true c8; clear c8
      replace H := it (c := a1 < (l0.length : Int)) H; obtain ⟨c9, H⟩ := H; have c9b0 := decide_eq_true c9; clear c9; have HH_ := Aside0.mk H; clear H
      have p548 : 0 ≤ (a1 : Int) := of_decide_eq_true pa
      have q548 : a1 < (l0.length : Int) := of_decide_eq_true pa
      obtain ⟨ad548, A548_0, c548_0, e548, hx548_0, hx548_1, hx548_2, hx548_3, hl548_0, hi548_0⟩ := at_T35 HR0.out a1 p548 q548
      cases e548
      replace hx548_0 := pc HB.out hx548_0; replace hx548_1 := pc HB.out hx548_1; replace hx548_2 := pc HB.out hx548_2; replace hx548_3 := pc HB.out hx548_3; have HR548_0 := Aside0.mk hi548_0; have HC548_0 := Aside0.mk hl548_0; clear hi548_0 hl548_0; replace p548 := eq_true p548; replace q548 := eq_true q548; have H := HH_.out; clear HH_
      by_cases c10 : ((rd_T35 l0 a1).f2) = 0
      ·rw [if_pos c10] at H; obtain ⟨c10b0, c10b1⟩ := eqs c10; clear c10; have H' := Aside0.mk H; clear H
       have p549 : 0 ≤ (a1 : Int) := of_decide_eq_true pa
       have q549 : a1 < (l0.length : Int) := of_decide_eq_true pa
       obtain ⟨ad549, A549_0, c549_0, e549, hx549_0, hx549_1, hx549_2, hx549_3, hl549_0, hi549_0⟩ := at_T35 HR0.out a1 p549 q549; obtain rfl : ad548 = ad549 := (by injection e549); replace hx549_0 := pc HB.out hx549_0; replace hx549_1 := pc HB.out hx549_1; replace hx549_2 := pc HB.out hx549_2; replace hx549_3 := pc HB.out hx549_3; have HR549_0 := Aside0.mk hi549_0; have HC549_0 := Aside0.mk hl549_0; clear hi549_0 hl549_0; replace p549 := eq_true p549; replace q549 := eq_true q549; have ea_ := Option.some.inj (hx548_0.symm.trans hx549_0)
       injection ea_ with ea_ en_ ec_
       subst ea_; subst ec_; clear en_; go_wp2; go_meet
       case rel => exact ⟨_, ((rd_T35 l0 a1).f3), pr, H', ⟨by first | omega | exact Nat.le_refl _⟩, ⟨bl⟩⟩
      ·rw [if_neg c10] at H; obtain ⟨c10b0, c10b1⟩ := eqf c10; have H' := Aside0.mk H; clear H; go_wp2; go_meet
       case rel => exact ⟨_, (true), pr, H', ⟨by first | omega | exact Nat.le_refl _⟩, ⟨bl⟩⟩
 case rest =>
  clear HC3; obtain ⟨kq, x40_2, rfl, HA, HJ2, HB⟩ := hcut
  cases kq with
  | zero => exact absurd HA.out (by simp [parallaxref08_Sound.j0])
  | succ kj2 =>
   have H := HA.out; clear HA; simp only [parallaxref08_Sound.j0] at H
   by_cases c11 : x40_2 = true
   ·subst c11; rw [if_pos rfl] at H; obtain rfl := Option.some.inj H; go_wp2; go_ret; exact ⟨pe, bl⟩
   ·replace c11 := Bool.eq_false_iff.mpr c11; subst c11; rw [if_neg (show ¬ (false = true) by decide)] at H; have H' := Aside0.mk H; clear H; go_wp2
    go_loopg [5] kj2 (fun kq v5 w' => ∃ (x5_2 : Int), v5 = .int .i64 x5_2 ∧ Aside0 (parallaxref08_Sound.l0 kq l0 x5_2 = some r) ∧ Aside0 (kq ≤ kj2) ∧ Aside0 (Below w.heap.size w w'))
    case atStart => exact ⟨(0), pr, H', ⟨Nat.le_refl _⟩, ⟨bl⟩⟩
    case round =>
     clear H'; obtain ⟨x5_2, rfl, HA, HK2, HB⟩ := hrel
     cases gk with
     | zero => exact absurd HA.out (by simp [parallaxref08_Sound.l0])
     | succ k2 =>
      have H := HA.out; clear HA; simp only [parallaxref08_Sound.l0] at H
      by_cases c12 : x5_2 < (l0.length : Int)
      ·rw [if_pos c12] at H; have c12b0 := decide_eq_true c12; clear c12; replace H := ob H; obtain ⟨⟨t550, t551⟩, A13, H⟩ := H
       by_cases c14 : t551 = true
       ·subst c14; rw [if_pos rfl] at H; have H' := Aside0.mk H; clear H
        go_wp2_with (first | ((with_reducible refine gate_callee (f := 15) rfl ?_); refine goesL_ (some 50) rfl rfl Tryd.func15 (by kernel_rfl) rfl #[.slice A0 l0.length c0, .int .i64 x5_2] rfl (by (try simp only [List.map_toArray, List.map_cons, List.map_nil]); first | done | rfl | (simp only [List.length_drop, List.length_take]; rfl)) ?_; (with_reducible refine (parallaxref08_Heights.calls k2 _ _ l0 x5_2 t550 true _ ?side1 ?side2 A13.out).mono ?_); (case side1 => exact cb HR0.out); (case side2 => exact HC0.out); rintro e w15 ⟨v552, rfl, ho0, hb⟩; refine ⟨_, rfl, ?_⟩; have n_ := an2 (Kd.R_lower ho0 (below_size bl)) (below_step bl hb); clear HB; obtain ⟨HO553, HB⟩ := n_; (try clear hb); (try clear ho0)))
        go_roundg k2
        case measure => have := HJ2.out; have := HK2.out; omega
        case rel => exact ⟨(wrap64 (x5_2 + 1)), pr, H', ⟨by have := HJ2.out; have := HK2.out; omega⟩, ⟨bl⟩⟩
       ·replace c14 := Bool.eq_false_iff.mpr c14; subst c14; rw [if_neg (show ¬ (false = true) by decide)] at H; obtain rfl := Option.some.inj H
        go_wp2_with (first | ((with_reducible refine gate_callee (f := 15) rfl ?_); refine goesL_ (some 50) rfl rfl Tryd.func15 (by kernel_rfl) rfl #[.slice A0 l0.length c0, .int .i64 x5_2] rfl (by (try simp only [List.map_toArray, List.map_cons, List.map_nil]); first | done | rfl | (simp only [List.length_drop, List.length_take]; rfl)) ?_; (with_reducible refine (parallaxref08_Heights.calls k2 _ _ l0 x5_2 t550 false _ ?side1 ?side2 A13.out).mono ?_); (case side1 => exact cb HR0.out); (case side2 => exact HC0.out); rintro e w16 ⟨v552, rfl, ho0, hb⟩; refine ⟨_, rfl, ?_⟩; have n_ := an2 (Kd.R_lower ho0 (below_size bl)) (below_step bl hb); clear HB; obtain ⟨HO553, HB⟩ := n_; (try clear hb); (try clear ho0)))
        go_ret; exact ⟨pe, bl⟩
      ·rw [if_neg c12] at H; have c12b0 := decide_eq_false c12; clear c12; obtain rfl := Option.some.inj H; go_wp2; go_ret; exact ⟨pe, bl⟩

end Go.Proofs.YtmbjogpphegoaaaDoor.P
