-- Written by a program of this session (its own turn of the print: wip/patch_print.py), not by hand. Lean checks it.
import Derived.Test.YtmbjogpphegoaaaDoorWZip3
import Derived.Test.YtmbjogpphegoaaaDoorPx0
namespace Go.Proofs.YtmbjogpphegoaaaDoor.P
open Go.RowKit Go.Proofs.YtmbjogpphegoaaaDoorW.PrintWords Go.Proofs.YtmbjogpphegoaaaDoorW.PrintLast Go.Proofs.YtmbjogpphegoaaaDoorW.PrintMore
attribute [local go_sem] max2_int min2_int max_two min_two max_three min_three max_four min_four
set_option linter.unusedVariables false
set_option linter.unusedSimpArgs false

/-! ### parallaxref08_Size: function 28 -/
def parallaxref08_Size.l0 : Nat → List (S35) → Int → Int → Int → Option (Int)
 | 0, _, _, _, _ => none
 | k + 1, x0, x1, x5, x6 => if x6 < (x0.length : Int) then (if x5 ≤ x1 then (if 0 ≤ x6 then (parallaxref08_Size.l0 k x0 x1 (wrap64 ((wrap64 (x5 + 1)) + (((rd_T35 x0 x6).f0).length : Int))) (wrap64 (x6 + 1))) else (none)) else (some x5)) else (some x5)
def parallaxref08_Size.f (k : Nat) (l0 : List (S35)) (a1 : Int) : Option (Int) := parallaxref08_Size.l0 k l0 a1 0 0
set_option maxHeartbeats 8000000 in
set_option maxRecDepth 100000 in
theorem parallaxref08_Size.calls (k : Nat) (A0 : Option Addr) (c0 : Nat) (l0 : List (S35)) (a1 : Int) (r : Int) (w : World) (hr0 : Kd.C k35 w A0 l0.length l0) (hc0 : l0.length ≤ c0) (h : parallaxref08_Size.f k l0 a1 = some r) :
  Calls Tryd.prog 28 #[.slice A0 l0.length c0, .int .i64 a1] w fun e w' => e = .returned (.int .i64 r) ∧ Drawn0 w w' := by
 have HR0 := Aside0.mk hr0; have HC0 := Aside0.mk hc0; clear hr0 hc0; have H : (parallaxref08_Size.l0 k l0 a1 0 0) = some r := h; clear h; have H' := Aside0.mk H; clear H; go_enter Tryd.func28, Tryd.ntmps28; go_wp2
 go_loopg [5, 6] k (fun kq v5 v6 w' => ∃ (x5_1 : Int) (x6_1 : Int), v5 = .int .i64 x5_1 ∧ v6 = .int .i64 x6_1 ∧ Aside0 (parallaxref08_Size.l0 kq l0 a1 x5_1 x6_1 = some r) ∧ Aside0 (kq ≤ k) ∧ Drawn0 w w')
 case atStart => exact ⟨(0), (0), pr, pr, H', ⟨Nat.le_refl _⟩, by repeat (first | exact Drawn0.refl _ | apply Drawn0.step)⟩
 case round =>
  clear H'; (try clear c2); (try clear p2); obtain ⟨x5_1, x6_1, rfl, rfl, HA, HK1, ⟨m1, rfl⟩⟩ := hrel
  cases gk with
  | zero => exact absurd HA.out (by simp [parallaxref08_Size.l0])
  | succ k1 =>
   have H := HA.out; clear HA; simp only [parallaxref08_Size.l0] at H
   by_cases c3 : x6_1 < (l0.length : Int)
   ·rw [if_pos c3] at H; have c3b0 := decide_eq_true c3; clear c3
    by_cases c4 : x5_1 ≤ a1
    ·rw [if_pos c4] at H; have c4b0 := decide_eq_true c4; clear c4
     replace H := it (c := 0 ≤ x6_1) H; obtain ⟨c5, H⟩ := H; have c5b0 := decide_eq_true c5; clear c5; have H' := Aside0.mk H; clear H
     have p101 : 0 ≤ (x6_1 : Int) := of_decide_eq_true pa
     have q101 : x6_1 < (l0.length : Int) := of_decide_eq_true pa
     obtain ⟨ad101, A101_0, c101_0, e101, hx101_0, hx101_1, hx101_2, hx101_3, hl101_0, hi101_0⟩ := at_T35 HR0.out x6_1 p101 q101
     cases e101
     have HR101_0 := Aside0.mk hi101_0; have HC101_0 := Aside0.mk hl101_0; clear hi101_0 hl101_0; replace p101 := eq_true p101; replace q101 := eq_true q101; go_wp2
     go_roundg k1
     case measure => have := HK1.out; omega
     case rel => exact ⟨(wrap64 ((wrap64 (x5_1 + 1)) + (((rd_T35 l0 x6_1).f0).length : Int))), (wrap64 (x6_1 + 1)), pr, pr, H', ⟨by have := HK1.out; omega⟩, by repeat (first | exact Drawn0.refl _ | apply Drawn0.step)⟩
    ·rw [if_neg c4] at H; have c4b0 := decide_eq_false c4; clear c4; obtain rfl := Option.some.inj H; go_wp2; go_ret; exact ⟨by first | rfl | (simp; done) | (simp [*]; done), by repeat (first | exact Drawn0.refl _ | apply Drawn0.step)⟩
   ·rw [if_neg c3] at H; have c3b0 := decide_eq_false c3; clear c3; obtain rfl := Option.some.inj H; go_wp2; go_ret; exact ⟨by first | rfl | (simp; done) | (simp [*]; done), by repeat (first | exact Drawn0.refl _ | apply Drawn0.step)⟩

/-! ### parallaxlaw10_great: function 8 -/
mutual
def parallaxlaw10_great.j0 : Nat → List (S35) → Bool → Option (Bool)
 | 0, _, _ => none
 | k + 1, x0, x11 => if x11 = true then (some true) else (parallaxlaw10_great.l0 k x0 0)
def parallaxlaw10_great.l0 : Nat → List (S35) → Int → Option (Bool)
 | 0, _, _ => none
 | k + 1, x0, x3 => if x3 < (x0.length : Int) then (if 0 ≤ x3 then (if ((rd_T35 x0 x3).f1) > 300 then (if ((rd_T35 x0 x3).f1) ≤ 65536 then (some true) else (parallaxlaw10_great.l0 k x0 (wrap64 (x3 + 1)))) else (parallaxlaw10_great.l0 k x0 (wrap64 (x3 + 1)))) else (none)) else (some false)
end
def parallaxlaw10_great.f (k : Nat) (l0 : List (S35)) : Option (Bool) := if (l0.length : Int) > 50 then (parallaxlaw10_great.j0 k l0 true) else ((parallaxref08_Size.f k l0 400).bind fun t102 => (parallaxlaw10_great.j0 k l0 (decide (t102 > 400))))
set_option maxHeartbeats 8000000 in
set_option maxRecDepth 100000 in
theorem parallaxlaw10_great.calls (k : Nat) (A0 : Option Addr) (c0 : Nat) (l0 : List (S35)) (r : Bool) (w : World) (hr0 : Kd.C k35 w A0 l0.length l0) (hc0 : l0.length ≤ c0) (h : parallaxlaw10_great.f k l0 = some r) :
  Calls Tryd.prog 8 #[.slice A0 l0.length c0] w fun e w' => e = .returned (.bool r) ∧ Drawn0 w w' := by
 have HR0 := Aside0.mk hr0; have HC0 := Aside0.mk hc0; clear hr0 hc0; have H : (if (l0.length : Int) > 50 then (parallaxlaw10_great.j0 k l0 true) else ((parallaxref08_Size.f k l0 400).bind fun t102 => (parallaxlaw10_great.j0 k l0 (decide (t102 > 400))))) = some r := h; clear h; have HC2 := Aside0.mk H; clear H; go_enter Tryd.func8, Tryd.ntmps8
 go_upto_region 1 with (fail)
 go_cut [11] (fun v11 wc => ∃ (kq : Nat) (x11_1 : Bool), v11 = .bool x11_1 ∧ Aside0 (parallaxlaw10_great.j0 kq l0 x11_1 = some r) ∧ Aside0 (kq ≤ k) ∧ Drawn0 w wc)
 case first =>
  have H := HC2.out; clear HC2
  by_cases c3 : (l0.length : Int) > 50
  ·rw [if_pos c3] at H; have c3b0 : decide (50 < (l0.length : Int)) = true := decide_eq_true c3; have c3b1 : decide (50 < l0.length) = true := decide_eq_true (by omega); clear c3; (first | rw [c3b0] | (simp only [i64_w, i32_w]; rw [c3b0]) | skip); have H' := Aside0.mk H; clear H; go_wp2; go_meet
   case rel => exact ⟨_, (true), pr, H', ⟨by first | omega | exact Nat.le_refl _⟩, by repeat (first | exact Drawn0.refl _ | apply Drawn0.step)⟩
  ·rw [if_neg c3] at H; have c3b0 : decide (50 < (l0.length : Int)) = false := decide_eq_false c3; have c3b1 : decide (50 < l0.length) = false := decide_eq_false (by omega); clear c3; (first | rw [c3b0] | (simp only [i64_w, i32_w]; rw [c3b0]) | skip); replace H := ob H; obtain ⟨t102, A4, H⟩ := H; have H' := Aside0.mk H; clear H
   go_wp2_with (first | (go_at_call 28; (with_reducible refine (parallaxref08_Size.calls k _ _ l0 400 t102 _ ?side1 ?side2 A4.out).mono ?_); (case side1 => repeat (first | exact HR0.out | (with_reducible refine Kd.C_alloc ?_ _) | (with_reducible refine Kd.C_drewN ?_ _) | (with_reducible refine Kd.C_drew ?_))); (case side2 => exact HC0.out); rintro e w' ⟨rfl, ⟨nd, rfl⟩⟩))
   go_meet
   case rel => exact ⟨_, (decide (t102 > 400)), pr, H', ⟨by first | omega | exact Nat.le_refl _⟩, by repeat (first | exact Drawn0.refl _ | apply Drawn0.step)⟩
 case rest =>
  clear HC2; (try clear p2); (try clear c3); (try clear c3b0); (try clear c3b1); obtain ⟨kq, x11_1, rfl, HA, HJ1, ⟨mc1, rfl⟩⟩ := hcut
  cases kq with
  | zero => exact absurd HA.out (by simp [parallaxlaw10_great.j0])
  | succ kj1 =>
   have H := HA.out; clear HA; simp only [parallaxlaw10_great.j0] at H
   by_cases c5 : x11_1 = true
   ·subst c5; rw [if_pos rfl] at H; obtain rfl := Option.some.inj H; go_wp2; go_ret; exact ⟨by first | rfl | (simp; done) | (simp [*]; done), by repeat (first | exact Drawn0.refl _ | apply Drawn0.step)⟩
   ·replace c5 := Bool.eq_false_iff.mpr c5; subst c5; rw [if_neg (show ¬ (false = true) by decide)] at H; have H' := Aside0.mk H; clear H; go_wp2
    go_loopg [3] kj1 (fun kq v3 w' => ∃ (x3_2 : Int), v3 = .int .i64 x3_2 ∧ Aside0 (parallaxlaw10_great.l0 kq l0 x3_2 = some r) ∧ Aside0 (kq ≤ kj1) ∧ Drawn0 w w')
    case atStart => exact ⟨(0), pr, H', ⟨Nat.le_refl _⟩, by repeat (first | exact Drawn0.refl _ | apply Drawn0.step)⟩
    case round =>
     clear H'; (try clear c1); (try clear p2); (try clear c3); (try clear c3b0); (try clear c3b1); (try clear c5); (try clear p2); obtain ⟨x3_2, rfl, HA, HK2, ⟨m2, rfl⟩⟩ := hrel
     cases gk with
     | zero => exact absurd HA.out (by simp [parallaxlaw10_great.l0])
     | succ k2 =>
      have H := HA.out; clear HA; simp only [parallaxlaw10_great.l0] at H
      by_cases c6 : x3_2 < (l0.length : Int)
      ·rw [if_pos c6] at H; have c6b0 := decide_eq_true c6; clear c6
       replace H := it (c := 0 ≤ x3_2) H; obtain ⟨c7, H⟩ := H; have c7b0 := decide_eq_true c7; clear c7; have HH_ := Aside0.mk H; clear H
       have p103 : 0 ≤ (x3_2 : Int) := of_decide_eq_true pa
       have q103 : x3_2 < (l0.length : Int) := of_decide_eq_true pa
       obtain ⟨ad103, A103_0, c103_0, e103, hx103_0, hx103_1, hx103_2, hx103_3, hl103_0, hi103_0⟩ := at_T35 HR0.out x3_2 p103 q103
       cases e103
       have HR103_0 := Aside0.mk hi103_0; have HC103_0 := Aside0.mk hl103_0; clear hi103_0 hl103_0; replace p103 := eq_true p103; replace q103 := eq_true q103; have H := HH_.out; clear HH_
       by_cases c8 : ((rd_T35 l0 x3_2).f1) > 300
       ·rw [if_pos c8] at H; have c8b0 : decide (300 < ((rd_T35 l0 x3_2).f1)) = true := decide_eq_true c8; clear c8; have HH_ := Aside0.mk H; clear H
        have p104 : 0 ≤ (x3_2 : Int) := of_decide_eq_true pa
        have q104 : x3_2 < (l0.length : Int) := of_decide_eq_true pa
        obtain ⟨ad104, A104_0, c104_0, e104, hx104_0, hx104_1, hx104_2, hx104_3, hl104_0, hi104_0⟩ := at_T35 HR0.out x3_2 p104 q104; obtain rfl : ad103 = ad104 := (by injection e104); have HR104_0 := Aside0.mk hi104_0; have HC104_0 := Aside0.mk hl104_0; clear hi104_0 hl104_0; replace p104 := eq_true p104; replace q104 := eq_true q104; have ea_ := Option.some.inj (hx103_0.symm.trans hx104_0)
        injection ea_ with ea_ en_ ec_
        subst ea_; subst ec_; clear en_; have H := HH_.out; clear HH_
        by_cases c9 : ((rd_T35 l0 x3_2).f1) ≤ 65536
        ·rw [if_pos c9] at H; have c9b0 := decide_eq_true c9; clear c9; obtain rfl := Option.some.inj H; go_wp2; go_ret; exact ⟨by first | rfl | (simp; done) | (simp [*]; done), by repeat (first | exact Drawn0.refl _ | apply Drawn0.step)⟩
        ·rw [if_neg c9] at H; have c9b0 := decide_eq_false c9; clear c9; have H' := Aside0.mk H; clear H; go_wp2
         go_roundg k2
         case measure => have := HJ1.out; have := HK2.out; omega
         case rel => exact ⟨(wrap64 (x3_2 + 1)), pr, H', ⟨by have := HJ1.out; have := HK2.out; omega⟩, by repeat (first | exact Drawn0.refl _ | apply Drawn0.step)⟩
       ·rw [if_neg c8] at H; have c8b0 : decide (300 < ((rd_T35 l0 x3_2).f1)) = false := decide_eq_false c8; clear c8; have H' := Aside0.mk H; clear H; go_wp2
        go_roundg k2
        case measure => have := HJ1.out; have := HK2.out; omega
        case rel => exact ⟨(wrap64 (x3_2 + 1)), pr, H', ⟨by have := HJ1.out; have := HK2.out; omega⟩, by repeat (first | exact Drawn0.refl _ | apply Drawn0.step)⟩
      ·rw [if_neg c6] at H; have c6b0 := decide_eq_false c6; clear c6; obtain rfl := Option.some.inj H; go_wp2; go_ret; exact ⟨by first | rfl | (simp; done) | (simp [*]; done), by repeat (first | exact Drawn0.refl _ | apply Drawn0.step)⟩

/-! ### code_numbers: function 109 -/
def code_numbers.j0 : Nat → Int → Bool → Option (Int)
 | 0, _, _ => none
 | k + 1, x3, x4 => if x4 = true then (some 2) else (if x3 = 1 then (some 1) else (if x3 = 2 then (some 1) else (if x3 = 3 then (some 1) else (if x3 = 17 then (some 1) else (if x3 = 18 then (some 1) else (if x3 = 20 then (some 1) else (some 0)))))))
def code_numbers.f (k : Nat) (a0 : Int) : Option (Int) := if a0 = 4 then (code_numbers.j0 k a0 (a0 == 4)) else (if a0 = 5 then (code_numbers.j0 k a0 (a0 == 5)) else (if a0 = 6 then (code_numbers.j0 k a0 (a0 == 6)) else (if a0 = 19 then (code_numbers.j0 k a0 (a0 == 19)) else (code_numbers.j0 k a0 (a0 == 24)))))
theorem code_numbers.mono_l : ∀ k, (∀ y0 y1, LeO (code_numbers.j0 k y0 y1) (code_numbers.j0 (k + 1) y0 y1))
 | 0 => fun _ _ r h => by simp [code_numbers.j0] at h
 | k + 1 => by
  have ih0 := code_numbers.mono_l k
  ·intro y0 y1
   unfold code_numbers.j0
   repeat' (with_reducible first | apply ih0 | exact LeO.refl _ | exact LeO.none _ | refine LeO.ite ?_ ?_ | refine LeO.bind ?_ (fun _ => ?_))
theorem code_numbers.mono : ∀ a0 k, LeO (code_numbers.f k a0) (code_numbers.f (k + 1) a0) := by
 intro a0 k
 have ih0 := code_numbers.mono_l k
 unfold code_numbers.f
 repeat' (with_reducible first | apply ih0 | exact LeO.refl _ | exact LeO.none _ | refine LeO.ite ?_ ?_ | refine LeO.bind ?_ (fun _ => ?_))
set_option maxHeartbeats 8000000 in
set_option maxRecDepth 100000 in
theorem code_numbers.calls (k : Nat) (a0 : Int) (r : Int) (w : World) (h : code_numbers.f k a0 = some r) :
  Calls Tryd.prog 109 #[.int .i64 a0] w fun e w' => e = .returned (.int .i64 r) ∧ Drawn0 w w' := by
 have H : (if a0 = 4 then (code_numbers.j0 k a0 (a0 == 4)) else (if a0 = 5 then (code_numbers.j0 k a0 (a0 == 5)) else (if a0 = 6 then (code_numbers.j0 k a0 (a0 == 6)) else (if a0 = 19 then (code_numbers.j0 k a0 (a0 == 19)) else (code_numbers.j0 k a0 (a0 == 24)))))) = some r := h; clear h; have HC2 := Aside0.mk H; clear H; go_enter Tryd.func109, Tryd.ntmps109
 go_upto_if 4 with (fail)
 go_cut [4] (fun v4 wc => ∃ (kq : Nat) (x4_1 : Bool), v4 = .bool x4_1 ∧ Aside0 (code_numbers.j0 kq a0 x4_1 = some r) ∧ Aside0 (kq ≤ k) ∧ Drawn0 w wc)
 case first =>
  have H := HC2.out; clear HC2
  by_cases c3 : a0 = 4
  ·rw [if_pos c3] at H; obtain ⟨c3b0, c3b1⟩ := eqs c3; clear c3; (first | rw [c3b0] | (simp only [i64_w, i32_w]; rw [c3b0]) | skip); have H' := Aside0.mk H; clear H; go_wp2; go_meet
   case rel => exact ⟨_, ((a0 == 4)), pr, H', ⟨by first | omega | exact Nat.le_refl _⟩, by repeat (first | exact Drawn0.refl _ | apply Drawn0.step)⟩
  ·rw [if_neg c3] at H; obtain ⟨c3b0, c3b1⟩ := eqf c3; (first | rw [c3b0] | (simp only [i64_w, i32_w]; rw [c3b0]) | skip)
   by_cases c4 : a0 = 5
   ·rw [if_pos c4] at H; obtain ⟨c4b0, c4b1⟩ := eqs c4; clear c4; have H' := Aside0.mk H; clear H; go_wp2; go_meet
    case rel => exact ⟨_, ((a0 == 5)), pr, H', ⟨by first | omega | exact Nat.le_refl _⟩, by repeat (first | exact Drawn0.refl _ | apply Drawn0.step)⟩
   ·rw [if_neg c4] at H; obtain ⟨c4b0, c4b1⟩ := eqf c4
    by_cases c5 : a0 = 6
    ·rw [if_pos c5] at H; obtain ⟨c5b0, c5b1⟩ := eqs c5; clear c5; have H' := Aside0.mk H; clear H; go_wp2; go_meet
     case rel => exact ⟨_, ((a0 == 6)), pr, H', ⟨by first | omega | exact Nat.le_refl _⟩, by repeat (first | exact Drawn0.refl _ | apply Drawn0.step)⟩
    ·rw [if_neg c5] at H; obtain ⟨c5b0, c5b1⟩ := eqf c5
     by_cases c6 : a0 = 19
     ·rw [if_pos c6] at H; obtain ⟨c6b0, c6b1⟩ := eqs c6; clear c6; have H' := Aside0.mk H; clear H; go_wp2; go_meet
      case rel => exact ⟨_, ((a0 == 19)), pr, H', ⟨by first | omega | exact Nat.le_refl _⟩, by repeat (first | exact Drawn0.refl _ | apply Drawn0.step)⟩
     ·rw [if_neg c6] at H; obtain ⟨c6b0, c6b1⟩ := eqf c6; have H' := Aside0.mk H; clear H; go_wp2; go_meet
      case rel => exact ⟨_, ((a0 == 24)), pr, H', ⟨by first | omega | exact Nat.le_refl _⟩, by repeat (first | exact Drawn0.refl _ | apply Drawn0.step)⟩
 case rest =>
  clear HC2; (try clear c1); (try clear p2); (try clear c3); (try clear c3b0); (try clear c3b1); (try clear c4); (try clear c4b0); (try clear c4b1); (try clear c5); (try clear c5b0); (try clear c5b1); (try clear c6); (try clear c6b0); (try clear c6b1); obtain ⟨kq, x4_1, rfl, HA, HJ1, ⟨mc1, rfl⟩⟩ := hcut
  cases kq with
  | zero => exact absurd HA.out (by simp [code_numbers.j0])
  | succ kj1 =>
   have H := HA.out; clear HA; simp only [code_numbers.j0] at H
   by_cases c7 : x4_1 = true
   ·subst c7; rw [if_pos rfl] at H; obtain rfl := Option.some.inj H; go_wp2; go_ret; exact ⟨by first | rfl | (simp; done) | (simp [*]; done), by repeat (first | exact Drawn0.refl _ | apply Drawn0.step)⟩
   ·replace c7 := Bool.eq_false_iff.mpr c7; subst c7; rw [if_neg (show ¬ (false = true) by decide)] at H
    by_cases c8 : a0 = 1
    ·rw [if_pos c8] at H; obtain ⟨c8b0, c8b1⟩ := eqs c8; clear c8; obtain rfl := Option.some.inj H; go_wp2; go_ret; exact ⟨by first | rfl | (simp; done) | (simp [*]; done), by repeat (first | exact Drawn0.refl _ | apply Drawn0.step)⟩
    ·rw [if_neg c8] at H; obtain ⟨c8b0, c8b1⟩ := eqf c8
     by_cases c9 : a0 = 2
     ·rw [if_pos c9] at H; obtain ⟨c9b0, c9b1⟩ := eqs c9; clear c9; obtain rfl := Option.some.inj H; go_wp2; go_ret; exact ⟨by first | rfl | (simp; done) | (simp [*]; done), by repeat (first | exact Drawn0.refl _ | apply Drawn0.step)⟩
     ·rw [if_neg c9] at H; obtain ⟨c9b0, c9b1⟩ := eqf c9
      by_cases c10 : a0 = 3
      ·rw [if_pos c10] at H; obtain ⟨c10b0, c10b1⟩ := eqs c10; clear c10; obtain rfl := Option.some.inj H; go_wp2; go_ret; exact ⟨by first | rfl | (simp; done) | (simp [*]; done), by repeat (first | exact Drawn0.refl _ | apply Drawn0.step)⟩
      ·rw [if_neg c10] at H; obtain ⟨c10b0, c10b1⟩ := eqf c10
       by_cases c11 : a0 = 17
       ·rw [if_pos c11] at H; obtain ⟨c11b0, c11b1⟩ := eqs c11; clear c11; obtain rfl := Option.some.inj H; go_wp2; go_ret; exact ⟨by first | rfl | (simp; done) | (simp [*]; done), by repeat (first | exact Drawn0.refl _ | apply Drawn0.step)⟩
       ·rw [if_neg c11] at H; obtain ⟨c11b0, c11b1⟩ := eqf c11
        by_cases c12 : a0 = 18
        ·rw [if_pos c12] at H; obtain ⟨c12b0, c12b1⟩ := eqs c12; clear c12; obtain rfl := Option.some.inj H; go_wp2; go_ret; exact ⟨by first | rfl | (simp; done) | (simp [*]; done), by repeat (first | exact Drawn0.refl _ | apply Drawn0.step)⟩
        ·rw [if_neg c12] at H; obtain ⟨c12b0, c12b1⟩ := eqf c12
         by_cases c13 : a0 = 20
         ·rw [if_pos c13] at H; obtain ⟨c13b0, c13b1⟩ := eqs c13; clear c13; obtain rfl := Option.some.inj H; go_wp2; go_ret; exact ⟨by first | rfl | (simp; done) | (simp [*]; done), by repeat (first | exact Drawn0.refl _ | apply Drawn0.step)⟩
         ·rw [if_neg c13] at H; obtain ⟨c13b0, c13b1⟩ := eqf c13; obtain rfl := Option.some.inj H; go_wp2; go_ret; exact ⟨by first | rfl | (simp; done) | (simp [*]; done), by repeat (first | exact Drawn0.refl _ | apply Drawn0.step)⟩

/-! ### num_Text: function 110 -/
def num_Text.digs : Nat → Int → List Int → List Int
  | 0, _, acc => acc
  | k + 1, u, acc => if u / 10 = 0 then (48 + u % 10) :: acc else num_Text.digs k (u / 10) ((48 + u % 10) :: acc)
def num_Text.abs (a : Int) : Int := if a < 0 then -a else a
def num_Text.f (a0 : Int) : Option (ByteArray) := if -9223372036854775808 ≤ a0 then (if a0 ≤ 9223372036854775807 then (if a0 < 0 then some (strOfNums (45 :: num_Text.digs 20 (num_Text.abs a0) [])) else some (strOfNums (num_Text.digs 20 (num_Text.abs a0) []))) else none) else none

theorem num_Text.digs_succ (k : Nat) (u : Int) (acc : List Int) : num_Text.digs (k + 1) u acc = if u / 10 = 0 then (48 + u % 10) :: acc else num_Text.digs k (u / 10) ((48 + u % 10) :: acc) := rfl
/-- What holds at the head of the loop: m cells are left (and one); the digits so far lie behind them. -/
def num_Text.Rel (w wr : World) (D : List Int) (m : Nat) (x : Int) : Prop := 1 ≤ m ∧ m ≤ 19 ∧ 0 ≤ x ∧ x ≤ 9223372036854775808 ∧ x < 10 ^ m ∧ ∃ zs : List Int, zs.length = 20 ∧ wr.heap[w.heap.size]? = some (.cells (nums .u8 zs).toArray 161 (0, 0)) ∧ num_Text.digs (m + 1) x (zs.drop (m + 1)) = D ∧ Below w.heap.size w wr
theorem num_Text.start (w : World) (a : Int) (h1 : -9223372036854775808 ≤ a) (h2 : a ≤ 9223372036854775807) : num_Text.Rel w (w.alloc (.cells (nums .u8 (List.replicate 20 0)).toArray 161)) (num_Text.digs 20 (num_Text.abs a) []) 19 (num_Text.abs a) := by
  refine ⟨by omega, by omega, by unfold num_Text.abs; split <;> omega, by unfold num_Text.abs; split <;> omega, by unfold num_Text.abs; split <;> omega, List.replicate 20 0, by simp, ?_, by simp, ?_⟩
  · simpa using heap_alloc_new w _
  · exact (Below.refl _ _).alloc (Nat.le_refl _) _
/-- A digit more is laid. -/
theorem num_Text.lay {w wr : World} {zs : List Int} (hz : zs.length = 20) (hb : wr.heap[w.heap.size]? = some (.cells (nums .u8 zs).toArray 161 (0, 0))) (hB : Below w.heap.size w wr) (m : Nat) (hm : m ≤ 19) (d : Int) :
    (zs.set m d).length = 20 ∧ (wr.setCell ⟨w.heap.size, m, none⟩ (.int .u8 d)).heap[w.heap.size]? = some (.cells (nums .u8 (zs.set m d)).toArray 161 (0, 0)) ∧ Below w.heap.size w (wr.setCell ⟨w.heap.size, m, none⟩ (.int .u8 d)) ∧ (zs.set m d).drop m = d :: zs.drop (m + 1) := by
  refine ⟨by simpa using hz, ?_, hB.setCell (Nat.le_refl _) _, ?_⟩
  · rw [blk_set hb]
    simp [nums, List.map_set]
  · rw [List.drop_set, if_neg (by omega), Nat.sub_self, List.drop_eq_getElem_cons (show m < zs.length by omega)]
    rfl
/-- The round's end: a digit is laid, and there are more. -/
theorem num_Text.more {w wr : World} {D : List Int} {m : Nat} {x : Int} (h : num_Text.Rel w wr D m x) (hq : x / 10 ≠ 0) : 2 ≤ m ∧ num_Text.Rel w (wr.setCell ⟨w.heap.size, m, none⟩ (.int .u8 (48 + x % 10))) D (m - 1) (x / 10) := by
  obtain ⟨hm1, hm2, hx1, hx3, hx2, zs, hz, hb, hd, hB⟩ := h
  obtain ⟨l1, l2, l3, l4⟩ := num_Text.lay hz hb hB m (by omega) (48 + x % 10)
  have h2 : 2 ≤ m := by
    rcases Nat.lt_or_ge 1 m with h | h
    · omega
    · obtain rfl : m = 1 := by omega
      simp at hx2
      omega
  obtain ⟨j, rfl⟩ : ∃ j, m = j + 1 := ⟨m - 1, by omega⟩
  refine ⟨h2, by omega, by omega, by omega, by omega, ?_, _, l1, l2, ?_, l3⟩
  · rw [show (10 : Int) ^ (j + 1) = 10 ^ j * 10 from Int.pow_succ ..] at hx2
    simp only [Nat.add_sub_cancel]
    omega
  · rw [num_Text.digs_succ, if_neg hq] at hd
    rw [Nat.add_sub_cancel, l4]
    exact hd
/-- The loop's end. -/
theorem num_Text.last {w wr : World} {D : List Int} {m : Nat} {x : Int} (h : num_Text.Rel w wr D m x) (hq : x / 10 = 0) : ∃ zs : List Int, zs.length = 20 ∧ (wr.setCell ⟨w.heap.size, m, none⟩ (.int .u8 (48 + x % 10))).heap[w.heap.size]? = some (.cells (nums .u8 zs).toArray 161 (0, 0)) ∧ zs.drop m = D ∧ Below w.heap.size w (wr.setCell ⟨w.heap.size, m, none⟩ (.int .u8 (48 + x % 10))) := by
  obtain ⟨hm1, hm2, hx1, hx3, hx2, zs, hz, hb, hd, hB⟩ := h
  obtain ⟨l1, l2, l3, l4⟩ := num_Text.lay hz hb hB m (by omega) (48 + x % 10)
  refine ⟨_, l1, l2, ?_, l3⟩
  rw [num_Text.digs_succ, if_pos hq] at hd
  rw [l4]
  exact hd
theorem num_Text.conv {W : World} {zs : List Int} {g : Nat} (hz : zs.length = 20) (hb : W.heap[g]? = some (.cells (nums .u8 zs).toArray 161 (0, 0))) (m : Nat) (hm : m ≤ 19) :
    (convert 159 9 (.slice (some ⟨g, m, none⟩) (20 - m) (20 - m))).run Tryd.prog W = .ok (.string (strOfNums (zs.drop m))) W := by
  refine string_of_reads Tryd.underlying159 Tryd.underlying5 Tryd.underlying9 ⟨by simp [hz], by omega, fun _ => ⟨⟨g, m, none⟩, rfl, fun j hj => ?_⟩⟩
  have e : (⟨g, m, none⟩ : Addr).add j = ⟨g, m + j, none⟩ := by unfold Addr.add; split <;> simp_all
  rw [e, blk_cell hb]
  simp [nums, List.getD, List.getElem?_eq_getElem (show m + j < zs.length by omega)]
set_option maxHeartbeats 8000000 in
set_option maxRecDepth 100000 in
theorem num_Text.calls (a0 : Int) (r : ByteArray) (w : World) (h : num_Text.f a0 = some r) :
    Calls Tryd.prog 110 #[.int .i64 a0] w fun e w' => e = .returned (.string r) ∧ Below w.heap.size w w' := by
  unfold num_Text.f at h
  split at h
  case isFalse => cases h
  rename_i h1
  split at h
  case isFalse => cases h
  rename_i h2
  have hst := Aside0.mk (num_Text.start w a0 h1 h2); have hlen : Tryd.prog.arrayLen 161 = 20 := by kernel_rfl
  have hel : Tryd.prog.elem 161 = 5 := by kernel_rfl
  have hun : Tryd.prog.underlying 161 = some (.array (Tryd.prog.arrayLen 161) (Tryd.prog.elem 161)) := by kernel_rfl
  have hsz : ∀ W, (sizeOf (Tryd.prog.elem 161)).run Tryd.prog W = .ok 1 W := fun W => by rw [hel]; rfl
  have hsl : ∀ (W : World) (g m : Nat), m ≤ 19 → (Instr.sliceAt 161 (.pointer (some ⟨g, 0, none⟩)) (some (.int .i64 m)) none none).run Tryd.prog W = .ok (.slice (some ⟨g, m, none⟩) (20 - m) (20 - m)) W := fun W g m hm => by
    rw [run_sliceAt_array_l W 161 ⟨g, 0, none⟩ hun .i64 m (by omega) (by rw [hlen]; omega), hsz]; simp only [Result.andThen, slicedAt, hlen, Int.toNat_natCast, Nat.mul_one, add_plain]; rw [if_neg (by omega)]
  have HSL := Aside0.mk hsl; clear hlen hel hun hsz hsl
  by_cases hn : a0 < 0
  · rw [if_pos hn] at h
    obtain rfl := Option.some.inj h; have hu : IntKind.u64.wrap (-IntKind.u64.wrap a0) = num_Text.abs a0 := by unfold num_Text.abs; simp [IntKind.wrap, IntKind.bits, IntKind.signed]; omega
    have HU := Aside0.mk hu; clear hu; go_enter Tryd.func110, Tryd.ntmps110; go_wp2
    go_loopw [4, 5] (fun k u wr => ∃ (m : Nat) (x : Int), k = .int .i64 ((m : Int) + 1) ∧ u = .int .u64 x ∧ num_Text.Rel w wr (num_Text.digs 20 (num_Text.abs a0) []) m x) (fun k u _ => (intOf k).toNat)
    case atStart => exact ⟨19, _, rfl, by rw [HU.out], hst.out⟩
    case round =>
      obtain ⟨m, x, rfl, rfl, hR⟩ := hrel; have HR := Aside0.mk hR; obtain ⟨hm1, hm2, hx1, hx3, _, zs, hz, hb, _, _⟩ := hR; have hc := blk_cell hb m; have hf := blk_frozen hb m; have hc2 : (nums .u8 zs).toArray[m]? = some (.int .u8 (zs.getD m 0)) := by
        simp [nums, List.getD, List.getElem?_eq_getElem (show m < zs.length by omega)]
      rw [hc2] at hc; clear hz hb hc2; have hx10 : IntKind.u64.wrap (x.tdiv 10) = x / 10 := by
        rw [Int.tdiv_eq_ediv_of_nonneg hx1]; simp only [IntKind.wrap, IntKind.bits, IntKind.signed]; simp; omega
      by_cases hq : x / 10 = 0
      · obtain ⟨zs', hz', hb', hd', hB'⟩ := num_Text.last HR.out hq
        have hq1 : (IntKind.u64.wrap (x.tdiv 10) == 0) = true := by rw [hx10, hq]; rfl
        have hq2 : (x / 10 == 0) = true := by rw [hq]; rfl
        obtain ⟨j, rfl⟩ : ∃ j, m = j + 1 := ⟨m - 1, by omega⟩; have hc' := blk_cell hb' j; have hf' := blk_frozen hb' j; have hc2' : (nums .u8 zs').toArray[j]? = some (.int .u8 (zs'.getD j 0)) := by
          simp [nums, List.getD, List.getElem?_eq_getElem (show j < zs'.length by omega)]
        rw [hc2'] at hc'; obtain ⟨l1, l2, l3, l4⟩ := num_Text.lay hz' hb' hB' j (by omega) 45; have hcv := num_Text.conv l1 l2 j (by omega); rw [l4, hd'] at hcv; have L3 := Aside0.mk l3; have hsl2 := HSL.out ((wr.setCell ⟨w.heap.size, j + 1, none⟩ (.int .u8 (48 + x % 10))).setCell ⟨w.heap.size, j, none⟩ (.int .u8 45)) w.heap.size j (by omega); clear hx10 hq hz' hb' hd' hB' hc2' l1 l2 l3 l4 HSL; go_wp2; go_ret; exact ⟨rfl, L3.out⟩
      · obtain ⟨m2, HR2⟩ := num_Text.more HR.out hq
        have HR3 := Aside0.mk HR2; have hq1 : (IntKind.u64.wrap (x.tdiv 10) == 0) = false := by rw [hx10]; simpa using hq
        have hq2 : (x / 10 == 0) = false := by simpa using hq
        clear HR2 hq; go_wp2
        go_roundw
        case rel => exact ⟨m - 1, x / 10, by go_num, by first | rfl | rw [hx10], HR3.out⟩
        case measure => simp [intOf]; try omega
  · rw [if_neg hn] at h
    obtain rfl := Option.some.inj h; have hu : IntKind.u64.wrap a0 = num_Text.abs a0 := by unfold num_Text.abs; simp [IntKind.wrap, IntKind.bits, IntKind.signed]; omega
    have HU := Aside0.mk hu; clear hu; go_enter Tryd.func110, Tryd.ntmps110; go_wp2
    go_loopw [4, 5] (fun k u wr => ∃ (m : Nat) (x : Int), k = .int .i64 ((m : Int) + 1) ∧ u = .int .u64 x ∧ num_Text.Rel w wr (num_Text.digs 20 (num_Text.abs a0) []) m x) (fun k u _ => (intOf k).toNat)
    case atStart => exact ⟨19, _, rfl, by congr 1; unfold num_Text.abs; rw [if_neg (by omega)], hst.out⟩
    case round =>
      obtain ⟨m, x, rfl, rfl, hR⟩ := hrel; have HR := Aside0.mk hR; obtain ⟨hm1, hm2, hx1, hx3, _, zs, hz, hb, _, _⟩ := hR; have hc := blk_cell hb m; have hf := blk_frozen hb m; have hc2 : (nums .u8 zs).toArray[m]? = some (.int .u8 (zs.getD m 0)) := by
        simp [nums, List.getD, List.getElem?_eq_getElem (show m < zs.length by omega)]
      rw [hc2] at hc; clear hz hb hc2; have hx10 : IntKind.u64.wrap (x.tdiv 10) = x / 10 := by
        rw [Int.tdiv_eq_ediv_of_nonneg hx1]; simp only [IntKind.wrap, IntKind.bits, IntKind.signed]; simp; omega
      by_cases hq : x / 10 = 0
      · obtain ⟨zs', hz', hb', hd', hB'⟩ := num_Text.last HR.out hq
        have hq1 : (IntKind.u64.wrap (x.tdiv 10) == 0) = true := by rw [hx10, hq]; rfl
        have hq2 : (x / 10 == 0) = true := by rw [hq]; rfl
        have hcv := num_Text.conv hz' hb' m (by omega); rw [hd'] at hcv; have L3 := Aside0.mk hB'; have hsl2 := HSL.out (wr.setCell ⟨w.heap.size, m, none⟩ (.int .u8 (48 + x % 10))) w.heap.size m (by omega); clear hx10 hq hz' hb' hd' hB' HSL; go_wp2; go_ret; exact ⟨rfl, L3.out⟩
      · obtain ⟨m2, HR2⟩ := num_Text.more HR.out hq
        have HR3 := Aside0.mk HR2; have hq1 : (IntKind.u64.wrap (x.tdiv 10) == 0) = false := by rw [hx10]; simpa using hq
        have hq2 : (x / 10 == 0) = false := by simpa using hq
        clear HR2 hq; go_wp2
        go_roundw
        case rel => exact ⟨m - 1, x / 10, by go_num, by first | rfl | rw [hx10], HR3.out⟩
        case measure => simp [intOf]; try omega

end Go.Proofs.YtmbjogpphegoaaaDoor.P
