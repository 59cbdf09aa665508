-- Written by a program of this session (its own turn of the print: wip/patch_print.py), not by hand. Lean checks it.
import Derived.Test.YthckiolgpgplpaaDoorWAll
import Derived.Test.YthckiolgpgplpaaDoorPx0
namespace Go.Proofs.YthckiolgpgplpaaDoor.P
open Go.RowKit Go.Proofs.YthckiolgpgplpaaDoorW.PrintWords Go.Proofs.YthckiolgpgplpaaDoorW.PrintLast Go.Proofs.YthckiolgpgplpaaDoorW.PrintMore
attribute [local go_sem] max2_int min2_int max_two min_two max_three min_three max_four min_four
set_option linter.unusedVariables false
set_option linter.unusedSimpArgs false

/-! ### parallaxref08_Size: function 45 -/
def parallaxref08_Size.l0 : Nat → List (S46) → Int → Int → Int → Option (Int)
 | 0, _, _, _, _ => none
 | k + 1, x0, x1, x5, x6 => if x6 < (x0.length : Int) then (if x5 ≤ x1 then (if 0 ≤ x6 then (parallaxref08_Size.l0 k x0 x1 (wrap64 ((wrap64 (x5 + 1)) + (((rd_T46 x0 x6).f0).length : Int))) (wrap64 (x6 + 1))) else (none)) else (some x5)) else (some x5)
def parallaxref08_Size.f (k : Nat) (l0 : List (S46)) (a1 : Int) : Option (Int) := parallaxref08_Size.l0 k l0 a1 0 0
set_option maxHeartbeats 8000000 in
set_option maxRecDepth 100000 in
theorem parallaxref08_Size.calls (k : Nat) (A0 : Option Addr) (c0 : Nat) (l0 : List (S46)) (a1 : Int) (r : Int) (w : World) (hr0 : Kd.C k46 w A0 l0.length l0) (hc0 : l0.length ≤ c0) (h : parallaxref08_Size.f k l0 a1 = some r) :
  Calls Tryd.prog 45 #[.slice A0 l0.length c0, .int .i64 a1] w fun e w' => e = .returned (.int .i64 r) ∧ Drawn0 w w' := by
 have HR0 := Aside0.mk hr0; have HC0 := Aside0.mk hc0; clear hr0 hc0; have H : (parallaxref08_Size.l0 k l0 a1 0 0) = some r := h; clear h; have H' := Aside0.mk H; clear H; go_enter Tryd.func45, Tryd.ntmps45; go_wp2
 go_loopg [5, 6] k (fun kq v5 v6 w' => ∃ (x5_1 : Int) (x6_1 : Int), v5 = .int .i64 x5_1 ∧ v6 = .int .i64 x6_1 ∧ Aside0 (parallaxref08_Size.l0 kq l0 a1 x5_1 x6_1 = some r) ∧ Aside0 (kq ≤ k) ∧ Drawn0 w w')
 case atStart => exact ⟨(0), (0), pr, pr, H', ⟨Nat.le_refl _⟩, by repeat (first | exact Drawn0.refl _ | apply Drawn0.step)⟩
 case round =>
  clear H'; (try clear p2); obtain ⟨x5_1, x6_1, rfl, rfl, HA, HK1, ⟨m1, rfl⟩⟩ := hrel
  cases gk with
  | zero => exact absurd HA.out (by simp [parallaxref08_Size.l0])
  | succ k1 =>
   have H := HA.out; clear HA; simp only [parallaxref08_Size.l0] at H
   by_cases c3 : x6_1 < (l0.length : Int)
   ·rw [if_pos c3] at H; have c3b0 : decide (x6_1 < (l0.length : Int)) = true := decide_eq_true c3; clear c3
    by_cases c4 : x5_1 ≤ a1
    ·rw [if_pos c4] at H; have c4b0 : decide (x5_1 ≤ a1) = true := decide_eq_true c4; clear c4
     by_cases c5 : 0 ≤ x6_1
     ·rw [if_pos c5] at H; have c5b0 : decide (0 ≤ x6_1) = true := decide_eq_true c5; clear c5; have H' := Aside0.mk H; clear H
      have p208 : 0 ≤ (x6_1 : Int) := of_decide_eq_true pa
      have q208 : x6_1 < (l0.length : Int) := of_decide_eq_true pa
      obtain ⟨ad208, A208_0, c208_0, e208, hx208_0, hx208_1, hx208_2, hx208_3, hl208_0, hi208_0⟩ := at_T46 HR0.out x6_1 p208 q208
      cases e208
      have HR208_0 := Aside0.mk hi208_0; have HC208_0 := Aside0.mk hl208_0; clear hi208_0 hl208_0; replace p208 := eq_true p208; replace q208 := eq_true q208; go_wp2
      go_roundg k1
      case measure => have := HK1.out; omega
      case rel => exact ⟨(wrap64 ((wrap64 (x5_1 + 1)) + (((rd_T46 l0 x6_1).f0).length : Int))), (wrap64 (x6_1 + 1)), pr, pr, H', ⟨by have := HK1.out; omega⟩, by repeat (first | exact Drawn0.refl _ | apply Drawn0.step)⟩
     ·rw [if_neg c5] at H; exact absurd H (by simp)
    ·rw [if_neg c4] at H; have c4b0 : decide (x5_1 ≤ a1) = false := decide_eq_false c4; clear c4; obtain rfl := Option.some.inj H; go_wp2; go_ret; exact ⟨by first | rfl | (simp; done) | (simp [*]; done), by repeat (first | exact Drawn0.refl _ | apply Drawn0.step)⟩
   ·rw [if_neg c3] at H; have c3b0 : decide (x6_1 < (l0.length : Int)) = false := decide_eq_false c3; clear c3; obtain rfl := Option.some.inj H; go_wp2; go_ret; exact ⟨by first | rfl | (simp; done) | (simp [*]; done), by repeat (first | exact Drawn0.refl _ | apply Drawn0.step)⟩

/-! ### parallaxlaw09_great: function 25 -/
mutual
def parallaxlaw09_great.j0 : Nat → List (S46) → Bool → Option (Bool)
 | 0, _, _ => none
 | k + 1, x0, x11 => if x11 = true then (some true) else (parallaxlaw09_great.l0 k x0 0)
def parallaxlaw09_great.l0 : Nat → List (S46) → Int → Option (Bool)
 | 0, _, _ => none
 | k + 1, x0, x3 => if x3 < (x0.length : Int) then (if 0 ≤ x3 then (if ((rd_T46 x0 x3).f1) > 300 then (if ((rd_T46 x0 x3).f1) ≤ 65536 then (some true) else (parallaxlaw09_great.l0 k x0 (wrap64 (x3 + 1)))) else (parallaxlaw09_great.l0 k x0 (wrap64 (x3 + 1)))) else (none)) else (some false)
end
def parallaxlaw09_great.f (k : Nat) (l0 : List (S46)) : Option (Bool) := if (l0.length : Int) > 50 then (parallaxlaw09_great.j0 k l0 true) else ((parallaxref08_Size.f k l0 1000).bind fun t209 => (parallaxlaw09_great.j0 k l0 (decide (t209 > 1000))))
set_option maxHeartbeats 8000000 in
set_option maxRecDepth 100000 in
theorem parallaxlaw09_great.calls (k : Nat) (A0 : Option Addr) (c0 : Nat) (l0 : List (S46)) (r : Bool) (w : World) (hr0 : Kd.C k46 w A0 l0.length l0) (hc0 : l0.length ≤ c0) (h : parallaxlaw09_great.f k l0 = some r) :
  Calls Tryd.prog 25 #[.slice A0 l0.length c0] w fun e w' => e = .returned (.bool r) ∧ Drawn0 w w' := by
 have HR0 := Aside0.mk hr0; have HC0 := Aside0.mk hc0; clear hr0 hc0; have H : (if (l0.length : Int) > 50 then (parallaxlaw09_great.j0 k l0 true) else ((parallaxref08_Size.f k l0 1000).bind fun t209 => (parallaxlaw09_great.j0 k l0 (decide (t209 > 1000))))) = some r := h; clear h; have HC2 := Aside0.mk H; clear H; go_enter Tryd.func25, Tryd.ntmps25
 go_upto_region 1 with (fail)
 go_cut [11] (fun v11 wc => ∃ (kq : Nat) (x11_1 : Bool), v11 = .bool x11_1 ∧ Aside0 (parallaxlaw09_great.j0 kq l0 x11_1 = some r) ∧ Aside0 (kq ≤ k) ∧ Drawn0 w wc)
 case first =>
  have H := HC2.out; clear HC2
  by_cases c3 : (l0.length : Int) > 50
  ·rw [if_pos c3] at H; have c3b0 : decide (50 < (l0.length : Int)) = true := decide_eq_true c3; have c3b1 : decide (50 < l0.length) = true := decide_eq_true (by omega); clear c3; (first | rw [c3b0] | (simp only [i64_w, i32_w]; rw [c3b0]) | skip); have H' := Aside0.mk H; clear H; go_wp2; go_meet
   case rel => exact ⟨_, (true), pr, H', ⟨by first | omega | exact Nat.le_refl _⟩, by repeat (first | exact Drawn0.refl _ | apply Drawn0.step)⟩
  ·rw [if_neg c3] at H; have c3b0 : decide (50 < (l0.length : Int)) = false := decide_eq_false c3; have c3b1 : decide (50 < l0.length) = false := decide_eq_false (by omega); clear c3; (first | rw [c3b0] | (simp only [i64_w, i32_w]; rw [c3b0]) | skip); replace H := Option.bind_eq_some_iff.mp H; obtain ⟨t209, A40, H⟩ := H; have A4 := Aside0.mk A40; clear A40; have H' := Aside0.mk H; clear H
   go_wp2_with (first | (go_at_call 45; (with_reducible refine (parallaxref08_Size.calls k _ _ l0 1000 t209 _ ?side1 ?side2 A4.out).mono ?_); (case side1 => repeat (first | exact HR0.out | (with_reducible refine Kd.C_alloc ?_ _) | (with_reducible refine Kd.C_drewN ?_ _) | (with_reducible refine Kd.C_drew ?_))); (case side2 => exact HC0.out); rintro e w' ⟨rfl, ⟨nd, rfl⟩⟩))
   go_meet
   case rel => exact ⟨_, (decide (t209 > 1000)), pr, H', ⟨by first | omega | exact Nat.le_refl _⟩, by repeat (first | exact Drawn0.refl _ | apply Drawn0.step)⟩
 case rest =>
  clear HC2; (try clear c2); (try clear p2); (try clear c3); (try clear c3b0); (try clear c3b1); obtain ⟨kq, x11_1, rfl, HA, HJ1, ⟨mc1, rfl⟩⟩ := hcut
  cases kq with
  | zero => exact absurd HA.out (by simp [parallaxlaw09_great.j0])
  | succ kj1 =>
   have H := HA.out; clear HA; simp only [parallaxlaw09_great.j0] at H
   by_cases c5 : x11_1 = true
   ·subst c5; rw [if_pos rfl] at H; obtain rfl := Option.some.inj H; go_wp2; go_ret; exact ⟨by first | rfl | (simp; done) | (simp [*]; done), by repeat (first | exact Drawn0.refl _ | apply Drawn0.step)⟩
   ·replace c5 := Bool.eq_false_iff.mpr c5; subst c5; rw [if_neg (show ¬ (false = true) by decide)] at H; have H' := Aside0.mk H; clear H; go_wp2
    go_loopg [3] kj1 (fun kq v3 w' => ∃ (x3_2 : Int), v3 = .int .i64 x3_2 ∧ Aside0 (parallaxlaw09_great.l0 kq l0 x3_2 = some r) ∧ Aside0 (kq ≤ kj1) ∧ Drawn0 w w')
    case atStart => exact ⟨(0), pr, H', ⟨Nat.le_refl _⟩, by repeat (first | exact Drawn0.refl _ | apply Drawn0.step)⟩
    case round =>
     clear H'; (try clear c1); (try clear c2); (try clear p2); (try clear c3); (try clear c3b0); (try clear c3b1); (try clear c5); (try clear p2); obtain ⟨x3_2, rfl, HA, HK2, ⟨m2, rfl⟩⟩ := hrel
     cases gk with
     | zero => exact absurd HA.out (by simp [parallaxlaw09_great.l0])
     | succ k2 =>
      have H := HA.out; clear HA; simp only [parallaxlaw09_great.l0] at H
      by_cases c6 : x3_2 < (l0.length : Int)
      ·rw [if_pos c6] at H; have c6b0 : decide (x3_2 < (l0.length : Int)) = true := decide_eq_true c6; clear c6
       by_cases c7 : 0 ≤ x3_2
       ·rw [if_pos c7] at H; have c7b0 : decide (0 ≤ x3_2) = true := decide_eq_true c7; clear c7; have HH_ := Aside0.mk H; clear H
        have p210 : 0 ≤ (x3_2 : Int) := of_decide_eq_true pa
        have q210 : x3_2 < (l0.length : Int) := of_decide_eq_true pa
        obtain ⟨ad210, A210_0, c210_0, e210, hx210_0, hx210_1, hx210_2, hx210_3, hl210_0, hi210_0⟩ := at_T46 HR0.out x3_2 p210 q210
        cases e210
        have HR210_0 := Aside0.mk hi210_0; have HC210_0 := Aside0.mk hl210_0; clear hi210_0 hl210_0; replace p210 := eq_true p210; replace q210 := eq_true q210; have H := HH_.out; clear HH_
        by_cases c8 : ((rd_T46 l0 x3_2).f1) > 300
        ·rw [if_pos c8] at H; have c8b0 : decide (300 < ((rd_T46 l0 x3_2).f1)) = true := decide_eq_true c8; clear c8; have HH_ := Aside0.mk H; clear H
         have p211 : 0 ≤ (x3_2 : Int) := of_decide_eq_true pa
         have q211 : x3_2 < (l0.length : Int) := of_decide_eq_true pa
         obtain ⟨ad211, A211_0, c211_0, e211, hx211_0, hx211_1, hx211_2, hx211_3, hl211_0, hi211_0⟩ := at_T46 HR0.out x3_2 p211 q211; obtain rfl : ad210 = ad211 := (by injection e211); have HR211_0 := Aside0.mk hi211_0; have HC211_0 := Aside0.mk hl211_0; clear hi211_0 hl211_0; replace p211 := eq_true p211; replace q211 := eq_true q211; have ea_ := Option.some.inj (hx210_0.symm.trans hx211_0)
         injection ea_ with ea_ en_ ec_
         subst ea_; subst ec_; clear en_; have H := HH_.out; clear HH_
         by_cases c9 : ((rd_T46 l0 x3_2).f1) ≤ 65536
         ·rw [if_pos c9] at H; have c9b0 : decide (((rd_T46 l0 x3_2).f1) ≤ 65536) = true := decide_eq_true c9; clear c9; obtain rfl := Option.some.inj H; go_wp2; go_ret; exact ⟨by first | rfl | (simp; done) | (simp [*]; done), by repeat (first | exact Drawn0.refl _ | apply Drawn0.step)⟩
         ·rw [if_neg c9] at H; have c9b0 : decide (((rd_T46 l0 x3_2).f1) ≤ 65536) = false := decide_eq_false c9; clear c9; have H' := Aside0.mk H; clear H; go_wp2
          go_roundg k2
          case measure => have := HJ1.out; have := HK2.out; omega
          case rel => exact ⟨(wrap64 (x3_2 + 1)), pr, H', ⟨by have := HJ1.out; have := HK2.out; omega⟩, by repeat (first | exact Drawn0.refl _ | apply Drawn0.step)⟩
        ·rw [if_neg c8] at H; have c8b0 : decide (300 < ((rd_T46 l0 x3_2).f1)) = false := decide_eq_false c8; clear c8; have H' := Aside0.mk H; clear H; go_wp2
         go_roundg k2
         case measure => have := HJ1.out; have := HK2.out; omega
         case rel => exact ⟨(wrap64 (x3_2 + 1)), pr, H', ⟨by have := HJ1.out; have := HK2.out; omega⟩, by repeat (first | exact Drawn0.refl _ | apply Drawn0.step)⟩
       ·rw [if_neg c7] at H; exact absurd H (by simp)
      ·rw [if_neg c6] at H; have c6b0 : decide (x3_2 < (l0.length : Int)) = false := decide_eq_false c6; clear c6; obtain rfl := Option.some.inj H; go_wp2; go_ret; exact ⟨by first | rfl | (simp; done) | (simp [*]; done), by repeat (first | exact Drawn0.refl _ | apply Drawn0.step)⟩

/-! ### parallaxref08_Of: function 54 -/
def parallaxref08_Of.f (a0 : Int) : Option (ByteArray × Int × Int × Int) := (some (([(⟨(⟨#[]⟩ : ByteArray), 0, 0, 0⟩ : S94), (⟨(⟨#[112, 117, 115, 104]⟩ : ByteArray), 1, 0, 1⟩ : S94), (⟨(⟨#[108, 111, 97, 100]⟩ : ByteArray), 1, 0, 1⟩ : S94), (⟨(⟨#[115, 116, 111, 114, 101]⟩ : ByteArray), 1, 1, 0⟩ : S94), (⟨(⟨#[105, 110, 100, 101, 120]⟩ : ByteArray), 2, 1, 1⟩ : S94), (⟨(⟨#[112, 117, 116]⟩ : ByteArray), 2, 2, 0⟩ : S94), (⟨(⟨#[99, 108, 101, 97, 114]⟩ : ByteArray), 2, 0, 0⟩ : S94), (⟨(⟨#[97, 100, 100]⟩ : ByteArray), 0, 2, 1⟩ : S94), (⟨(⟨#[115, 117, 98]⟩ : ByteArray), 0, 2, 1⟩ : S94), (⟨(⟨#[109, 117, 108]⟩ : ByteArray), 0, 2, 1⟩ : S94), (⟨(⟨#[100, 105, 118]⟩ : ByteArray), 0, 2, 1⟩ : S94), (⟨(⟨#[109, 111, 100]⟩ : ByteArray), 0, 2, 1⟩ : S94), (⟨(⟨#[108, 101, 115, 115]⟩ : ByteArray), 0, 2, 1⟩ : S94), (⟨(⟨#[109, 111, 115, 116]⟩ : ByteArray), 0, 2, 1⟩ : S94), (⟨(⟨#[115, 97, 109, 101]⟩ : ByteArray), 0, 2, 1⟩ : S94), (⟨(⟨#[110, 111, 116]⟩ : ByteArray), 0, 1, 1⟩ : S94), (⟨(⟨#[110, 101, 103]⟩ : ByteArray), 0, 1, 1⟩ : S94), (⟨(⟨#[106, 117, 109, 112]⟩ : ByteArray), 1, 0, 0⟩ : S94), (⟨(⟨#[122, 101, 114, 111]⟩ : ByteArray), 1, 1, 0⟩ : S94), (⟨(⟨#[99, 97, 108, 108]⟩ : ByteArray), 2, 0, 0⟩ : S94), (⟨(⟨#[108, 101, 97, 118, 101]⟩ : ByteArray), 1, 0, 0⟩ : S94), (⟨(⟨#[112, 114, 105, 110, 116]⟩ : ByteArray), 0, 1, 0⟩ : S94), (⟨(⟨#[114, 101, 97, 100]⟩ : ByteArray), 0, 0, 1⟩ : S94), (⟨(⟨#[116, 101, 115, 116]⟩ : ByteArray), 0, 1, 0⟩ : S94), (⟨(⟨#[109, 97, 114, 107]⟩ : ByteArray), 2, 0, 0⟩ : S94), (⟨(⟨#[100, 114, 111, 112]⟩ : ByteArray), 0, 1, 0⟩ : S94)] : List (S94)) : List (S94))).bind fun y213 => (if a0 < 1 then (some ((⟨#[]⟩ : ByteArray), 0, 0, 0)) else (if a0 ≥ (y213.length : Int) then (some ((⟨#[]⟩ : ByteArray), 0, 0, 0)) else (if 0 ≤ a0 then (if a0 < (y213.length : Int) then (some ((rd_T94 y213 a0).f0, (rd_T94 y213 a0).f1, (rd_T94 y213 a0).f2, (rd_T94 y213 a0).f3)) else (none)) else (none))))
set_option maxHeartbeats 8000000 in
set_option maxRecDepth 100000 in
theorem parallaxref08_Of.calls (a0 : Int) (r1 : ByteArray) (r2 : Int) (r3 : Int) (r4 : Int) (w : World) (h : parallaxref08_Of.f a0 = some (r1, r2, r3, r4)) :
  Calls Tryd.prog 54 #[.int .i64 a0] w fun e w' => e = .returned (.agg #[.string r1, .int .i64 r2, .int .i64 r3, .int .i64 r4]) ∧ Below w.heap.size w w' := by
 have hu94 := Tryd.underlying94; have HB := Aside0.mk (Below.refl w.heap.size w); have H : ((some (([(⟨(⟨#[]⟩ : ByteArray), 0, 0, 0⟩ : S94), (⟨(⟨#[112, 117, 115, 104]⟩ : ByteArray), 1, 0, 1⟩ : S94), (⟨(⟨#[108, 111, 97, 100]⟩ : ByteArray), 1, 0, 1⟩ : S94), (⟨(⟨#[115, 116, 111, 114, 101]⟩ : ByteArray), 1, 1, 0⟩ : S94), (⟨(⟨#[105, 110, 100, 101, 120]⟩ : ByteArray), 2, 1, 1⟩ : S94), (⟨(⟨#[112, 117, 116]⟩ : ByteArray), 2, 2, 0⟩ : S94), (⟨(⟨#[99, 108, 101, 97, 114]⟩ : ByteArray), 2, 0, 0⟩ : S94), (⟨(⟨#[97, 100, 100]⟩ : ByteArray), 0, 2, 1⟩ : S94), (⟨(⟨#[115, 117, 98]⟩ : ByteArray), 0, 2, 1⟩ : S94), (⟨(⟨#[109, 117, 108]⟩ : ByteArray), 0, 2, 1⟩ : S94), (⟨(⟨#[100, 105, 118]⟩ : ByteArray), 0, 2, 1⟩ : S94), (⟨(⟨#[109, 111, 100]⟩ : ByteArray), 0, 2, 1⟩ : S94), (⟨(⟨#[108, 101, 115, 115]⟩ : ByteArray), 0, 2, 1⟩ : S94), (⟨(⟨#[109, 111, 115, 116]⟩ : ByteArray), 0, 2, 1⟩ : S94), (⟨(⟨#[115, 97, 109, 101]⟩ : ByteArray), 0, 2, 1⟩ : S94), (⟨(⟨#[110, 111, 116]⟩ : ByteArray), 0, 1, 1⟩ : S94), (⟨(⟨#[110, 101, 103]⟩ : ByteArray), 0, 1, 1⟩ : S94), (⟨(⟨#[106, 117, 109, 112]⟩ : ByteArray), 1, 0, 0⟩ : S94), (⟨(⟨#[122, 101, 114, 111]⟩ : ByteArray), 1, 1, 0⟩ : S94), (⟨(⟨#[99, 97, 108, 108]⟩ : ByteArray), 2, 0, 0⟩ : S94), (⟨(⟨#[108, 101, 97, 118, 101]⟩ : ByteArray), 1, 0, 0⟩ : S94), (⟨(⟨#[112, 114, 105, 110, 116]⟩ : ByteArray), 0, 1, 0⟩ : S94), (⟨(⟨#[114, 101, 97, 100]⟩ : ByteArray), 0, 0, 1⟩ : S94), (⟨(⟨#[116, 101, 115, 116]⟩ : ByteArray), 0, 1, 0⟩ : S94), (⟨(⟨#[109, 97, 114, 107]⟩ : ByteArray), 2, 0, 0⟩ : S94), (⟨(⟨#[100, 114, 111, 112]⟩ : ByteArray), 0, 1, 0⟩ : S94)] : List (S94)) : List (S94))).bind fun y213 => (if a0 < 1 then (some ((⟨#[]⟩ : ByteArray), 0, 0, 0)) else (if a0 ≥ (y213.length : Int) then (some ((⟨#[]⟩ : ByteArray), 0, 0, 0)) else (if 0 ≤ a0 then (if a0 < (y213.length : Int) then (some ((rd_T94 y213 a0).f0, (rd_T94 y213 a0).f1, (rd_T94 y213 a0).f2, (rd_T94 y213 a0).f3)) else (none)) else (none))))) = some (r1, r2, r3, r4) := h; clear h; obtain ⟨y213, hy213⟩ : ∃ y_ : List (S94), y_ = (([(⟨(⟨#[]⟩ : ByteArray), 0, 0, 0⟩ : S94), (⟨(⟨#[112, 117, 115, 104]⟩ : ByteArray), 1, 0, 1⟩ : S94), (⟨(⟨#[108, 111, 97, 100]⟩ : ByteArray), 1, 0, 1⟩ : S94), (⟨(⟨#[115, 116, 111, 114, 101]⟩ : ByteArray), 1, 1, 0⟩ : S94), (⟨(⟨#[105, 110, 100, 101, 120]⟩ : ByteArray), 2, 1, 1⟩ : S94), (⟨(⟨#[112, 117, 116]⟩ : ByteArray), 2, 2, 0⟩ : S94), (⟨(⟨#[99, 108, 101, 97, 114]⟩ : ByteArray), 2, 0, 0⟩ : S94), (⟨(⟨#[97, 100, 100]⟩ : ByteArray), 0, 2, 1⟩ : S94), (⟨(⟨#[115, 117, 98]⟩ : ByteArray), 0, 2, 1⟩ : S94), (⟨(⟨#[109, 117, 108]⟩ : ByteArray), 0, 2, 1⟩ : S94), (⟨(⟨#[100, 105, 118]⟩ : ByteArray), 0, 2, 1⟩ : S94), (⟨(⟨#[109, 111, 100]⟩ : ByteArray), 0, 2, 1⟩ : S94), (⟨(⟨#[108, 101, 115, 115]⟩ : ByteArray), 0, 2, 1⟩ : S94), (⟨(⟨#[109, 111, 115, 116]⟩ : ByteArray), 0, 2, 1⟩ : S94), (⟨(⟨#[115, 97, 109, 101]⟩ : ByteArray), 0, 2, 1⟩ : S94), (⟨(⟨#[110, 111, 116]⟩ : ByteArray), 0, 1, 1⟩ : S94), (⟨(⟨#[110, 101, 103]⟩ : ByteArray), 0, 1, 1⟩ : S94), (⟨(⟨#[106, 117, 109, 112]⟩ : ByteArray), 1, 0, 0⟩ : S94), (⟨(⟨#[122, 101, 114, 111]⟩ : ByteArray), 1, 1, 0⟩ : S94), (⟨(⟨#[99, 97, 108, 108]⟩ : ByteArray), 2, 0, 0⟩ : S94), (⟨(⟨#[108, 101, 97, 118, 101]⟩ : ByteArray), 1, 0, 0⟩ : S94), (⟨(⟨#[112, 114, 105, 110, 116]⟩ : ByteArray), 0, 1, 0⟩ : S94), (⟨(⟨#[114, 101, 97, 100]⟩ : ByteArray), 0, 0, 1⟩ : S94), (⟨(⟨#[116, 101, 115, 116]⟩ : ByteArray), 0, 1, 0⟩ : S94), (⟨(⟨#[109, 97, 114, 107]⟩ : ByteArray), 2, 0, 0⟩ : S94), (⟨(⟨#[100, 114, 111, 112]⟩ : ByteArray), 0, 1, 0⟩ : S94)] : List (S94))) := ⟨_, rfl⟩
 (first | replace H := hs hy213 H | rw [← hy213] at H)
 have Ny213 := Aside0.mk hy213; clear hy213; have HH_ := Aside0.mk H; clear H; go_enter Tryd.func54, Tryd.ntmps54
 go_wp2_with (first | ((with_reducible refine gate_dst (N := 2) rfl ?_); (try (refine gate_guard (by rfl) ?_; dsimp only)); refine box_event ?hg (N := 2) ?hd (cs := #[.string (⟨#[]⟩ : ByteArray), .int .i64 0, .int .i64 0, .int .i64 0]) (t := 94) ?hr ?_; (case hd => rfl); (case hg => rfl); (case hr => first | (go_simp; done) | (go_simp; rfl)); intro gb212 hg w3 hbox hb; have n0_ := Aside0.mk (below_step bl hb); have n1_ := Aside0.mk (hbox); have n2_ := Aside0.mk ((by rw [hg]; exact (below_size bl) : w.heap.size ≤ gb212)); have n3_ := Aside0.mk ((by rw [hg]; exact (below_size bl) : w.heap.size ≤ gb212)); clear HB; have HB := n0_; have BK212 := n1_; have GW212 := n2_; have GE212 := n3_; clear n0_ n1_ n2_ n3_; clear hb hbox hg) | ((with_reducible refine gate_dst (N := 30) rfl ?_); (try (refine gate_guard (by rfl) ?_; dsimp only)); refine Kd.R_lit k94 _ 94 ?hg (N := 30) ?hd (xs := ([(⟨(⟨#[]⟩ : ByteArray), 0, 0, 0⟩ : S94), (⟨(⟨#[112, 117, 115, 104]⟩ : ByteArray), 1, 0, 1⟩ : S94), (⟨(⟨#[108, 111, 97, 100]⟩ : ByteArray), 1, 0, 1⟩ : S94), (⟨(⟨#[115, 116, 111, 114, 101]⟩ : ByteArray), 1, 1, 0⟩ : S94), (⟨(⟨#[105, 110, 100, 101, 120]⟩ : ByteArray), 2, 1, 1⟩ : S94), (⟨(⟨#[112, 117, 116]⟩ : ByteArray), 2, 2, 0⟩ : S94), (⟨(⟨#[99, 108, 101, 97, 114]⟩ : ByteArray), 2, 0, 0⟩ : S94), (⟨(⟨#[97, 100, 100]⟩ : ByteArray), 0, 2, 1⟩ : S94), (⟨(⟨#[115, 117, 98]⟩ : ByteArray), 0, 2, 1⟩ : S94), (⟨(⟨#[109, 117, 108]⟩ : ByteArray), 0, 2, 1⟩ : S94), (⟨(⟨#[100, 105, 118]⟩ : ByteArray), 0, 2, 1⟩ : S94), (⟨(⟨#[109, 111, 100]⟩ : ByteArray), 0, 2, 1⟩ : S94), (⟨(⟨#[108, 101, 115, 115]⟩ : ByteArray), 0, 2, 1⟩ : S94), (⟨(⟨#[109, 111, 115, 116]⟩ : ByteArray), 0, 2, 1⟩ : S94), (⟨(⟨#[115, 97, 109, 101]⟩ : ByteArray), 0, 2, 1⟩ : S94), (⟨(⟨#[110, 111, 116]⟩ : ByteArray), 0, 1, 1⟩ : S94), (⟨(⟨#[110, 101, 103]⟩ : ByteArray), 0, 1, 1⟩ : S94), (⟨(⟨#[106, 117, 109, 112]⟩ : ByteArray), 1, 0, 0⟩ : S94), (⟨(⟨#[122, 101, 114, 111]⟩ : ByteArray), 1, 1, 0⟩ : S94), (⟨(⟨#[99, 97, 108, 108]⟩ : ByteArray), 2, 0, 0⟩ : S94), (⟨(⟨#[108, 101, 97, 118, 101]⟩ : ByteArray), 1, 0, 0⟩ : S94), (⟨(⟨#[112, 114, 105, 110, 116]⟩ : ByteArray), 0, 1, 0⟩ : S94), (⟨(⟨#[114, 101, 97, 100]⟩ : ByteArray), 0, 0, 1⟩ : S94), (⟨(⟨#[116, 101, 115, 116]⟩ : ByteArray), 0, 1, 0⟩ : S94), (⟨(⟨#[109, 97, 114, 107]⟩ : ByteArray), 2, 0, 0⟩ : S94), (⟨(⟨#[100, 114, 111, 112]⟩ : ByteArray), 0, 1, 0⟩ : S94)] : List (S94))) (inner := [.string (⟨#[]⟩ : ByteArray), .int .i64 0, .int .i64 0, .int .i64 0, .string (⟨#[112, 117, 115, 104]⟩ : ByteArray), .int .i64 1, .int .i64 0, .int .i64 1, .string (⟨#[108, 111, 97, 100]⟩ : ByteArray), .int .i64 1, .int .i64 0, .int .i64 1, .string (⟨#[115, 116, 111, 114, 101]⟩ : ByteArray), .int .i64 1, .int .i64 1, .int .i64 0, .string (⟨#[105, 110, 100, 101, 120]⟩ : ByteArray), .int .i64 2, .int .i64 1, .int .i64 1, .string (⟨#[112, 117, 116]⟩ : ByteArray), .int .i64 2, .int .i64 2, .int .i64 0, .string (⟨#[99, 108, 101, 97, 114]⟩ : ByteArray), .int .i64 2, .int .i64 0, .int .i64 0, .string (⟨#[97, 100, 100]⟩ : ByteArray), .int .i64 0, .int .i64 2, .int .i64 1, .string (⟨#[115, 117, 98]⟩ : ByteArray), .int .i64 0, .int .i64 2, .int .i64 1, .string (⟨#[109, 117, 108]⟩ : ByteArray), .int .i64 0, .int .i64 2, .int .i64 1, .string (⟨#[100, 105, 118]⟩ : ByteArray), .int .i64 0, .int .i64 2, .int .i64 1, .string (⟨#[109, 111, 100]⟩ : ByteArray), .int .i64 0, .int .i64 2, .int .i64 1, .string (⟨#[108, 101, 115, 115]⟩ : ByteArray), .int .i64 0, .int .i64 2, .int .i64 1, .string (⟨#[109, 111, 115, 116]⟩ : ByteArray), .int .i64 0, .int .i64 2, .int .i64 1, .string (⟨#[115, 97, 109, 101]⟩ : ByteArray), .int .i64 0, .int .i64 2, .int .i64 1, .string (⟨#[110, 111, 116]⟩ : ByteArray), .int .i64 0, .int .i64 1, .int .i64 1, .string (⟨#[110, 101, 103]⟩ : ByteArray), .int .i64 0, .int .i64 1, .int .i64 1, .string (⟨#[106, 117, 109, 112]⟩ : ByteArray), .int .i64 1, .int .i64 0, .int .i64 0, .string (⟨#[122, 101, 114, 111]⟩ : ByteArray), .int .i64 1, .int .i64 1, .int .i64 0, .string (⟨#[99, 97, 108, 108]⟩ : ByteArray), .int .i64 2, .int .i64 0, .int .i64 0, .string (⟨#[108, 101, 97, 118, 101]⟩ : ByteArray), .int .i64 1, .int .i64 0, .int .i64 0, .string (⟨#[112, 114, 105, 110, 116]⟩ : ByteArray), .int .i64 0, .int .i64 1, .int .i64 0, .string (⟨#[114, 101, 97, 100]⟩ : ByteArray), .int .i64 0, .int .i64 0, .int .i64 1, .string (⟨#[116, 101, 115, 116]⟩ : ByteArray), .int .i64 0, .int .i64 1, .int .i64 0, .string (⟨#[109, 97, 114, 107]⟩ : ByteArray), .int .i64 2, .int .i64 0, .int .i64 0, .string (⟨#[100, 114, 111, 112]⟩ : ByteArray), .int .i64 0, .int .i64 1, .int .i64 0]) (ok := fun _ => True) (okp := fun _ => True) ?hr ?hp (fun _ hk => hk) trivial (Below.refl _ _) (Nat.le_refl _) (by simp) ?_; (case hd => rfl); (case hg => rfl); (case hr => first | (go_simp; done) | (go_simp; rfl)); (case hp => exact (Reps.c4 (show Kd.M k94 _ _ _ (⟨(⟨#[]⟩ : ByteArray), 0, 0, 0⟩ : S94) [.string (⟨#[]⟩ : ByteArray), .int .i64 0, .int .i64 0, .int .i64 0] from (k94_mkM _ _ _ (⟨(⟨#[]⟩ : ByteArray), 0, 0, 0⟩ : S94) )) (Reps.c4 (show Kd.M k94 _ _ _ (⟨(⟨#[112, 117, 115, 104]⟩ : ByteArray), 1, 0, 1⟩ : S94) [.string (⟨#[112, 117, 115, 104]⟩ : ByteArray), .int .i64 1, .int .i64 0, .int .i64 1] from (k94_mkM _ _ _ (⟨(⟨#[112, 117, 115, 104]⟩ : ByteArray), 1, 0, 1⟩ : S94) )) (Reps.c4 (show Kd.M k94 _ _ _ (⟨(⟨#[108, 111, 97, 100]⟩ : ByteArray), 1, 0, 1⟩ : S94) [.string (⟨#[108, 111, 97, 100]⟩ : ByteArray), .int .i64 1, .int .i64 0, .int .i64 1] from (k94_mkM _ _ _ (⟨(⟨#[108, 111, 97, 100]⟩ : ByteArray), 1, 0, 1⟩ : S94) )) (Reps.c4 (show Kd.M k94 _ _ _ (⟨(⟨#[115, 116, 111, 114, 101]⟩ : ByteArray), 1, 1, 0⟩ : S94) [.string (⟨#[115, 116, 111, 114, 101]⟩ : ByteArray), .int .i64 1, .int .i64 1, .int .i64 0] from (k94_mkM _ _ _ (⟨(⟨#[115, 116, 111, 114, 101]⟩ : ByteArray), 1, 1, 0⟩ : S94) )) (Reps.c4 (show Kd.M k94 _ _ _ (⟨(⟨#[105, 110, 100, 101, 120]⟩ : ByteArray), 2, 1, 1⟩ : S94) [.string (⟨#[105, 110, 100, 101, 120]⟩ : ByteArray), .int .i64 2, .int .i64 1, .int .i64 1] from (k94_mkM _ _ _ (⟨(⟨#[105, 110, 100, 101, 120]⟩ : ByteArray), 2, 1, 1⟩ : S94) )) (Reps.c4 (show Kd.M k94 _ _ _ (⟨(⟨#[112, 117, 116]⟩ : ByteArray), 2, 2, 0⟩ : S94) [.string (⟨#[112, 117, 116]⟩ : ByteArray), .int .i64 2, .int .i64 2, .int .i64 0] from (k94_mkM _ _ _ (⟨(⟨#[112, 117, 116]⟩ : ByteArray), 2, 2, 0⟩ : S94) )) (Reps.c4 (show Kd.M k94 _ _ _ (⟨(⟨#[99, 108, 101, 97, 114]⟩ : ByteArray), 2, 0, 0⟩ : S94) [.string (⟨#[99, 108, 101, 97, 114]⟩ : ByteArray), .int .i64 2, .int .i64 0, .int .i64 0] from (k94_mkM _ _ _ (⟨(⟨#[99, 108, 101, 97, 114]⟩ : ByteArray), 2, 0, 0⟩ : S94) )) (Reps.c4 (show Kd.M k94 _ _ _ (⟨(⟨#[97, 100, 100]⟩ : ByteArray), 0, 2, 1⟩ : S94) [.string (⟨#[97, 100, 100]⟩ : ByteArray), .int .i64 0, .int .i64 2, .int .i64 1] from (k94_mkM _ _ _ (⟨(⟨#[97, 100, 100]⟩ : ByteArray), 0, 2, 1⟩ : S94) )) (Reps.c4 (show Kd.M k94 _ _ _ (⟨(⟨#[115, 117, 98]⟩ : ByteArray), 0, 2, 1⟩ : S94) [.string (⟨#[115, 117, 98]⟩ : ByteArray), .int .i64 0, .int .i64 2, .int .i64 1] from (k94_mkM _ _ _ (⟨(⟨#[115, 117, 98]⟩ : ByteArray), 0, 2, 1⟩ : S94) )) (Reps.c4 (show Kd.M k94 _ _ _ (⟨(⟨#[109, 117, 108]⟩ : ByteArray), 0, 2, 1⟩ : S94) [.string (⟨#[109, 117, 108]⟩ : ByteArray), .int .i64 0, .int .i64 2, .int .i64 1] from (k94_mkM _ _ _ (⟨(⟨#[109, 117, 108]⟩ : ByteArray), 0, 2, 1⟩ : S94) )) (Reps.c4 (show Kd.M k94 _ _ _ (⟨(⟨#[100, 105, 118]⟩ : ByteArray), 0, 2, 1⟩ : S94) [.string (⟨#[100, 105, 118]⟩ : ByteArray), .int .i64 0, .int .i64 2, .int .i64 1] from (k94_mkM _ _ _ (⟨(⟨#[100, 105, 118]⟩ : ByteArray), 0, 2, 1⟩ : S94) )) (Reps.c4 (show Kd.M k94 _ _ _ (⟨(⟨#[109, 111, 100]⟩ : ByteArray), 0, 2, 1⟩ : S94) [.string (⟨#[109, 111, 100]⟩ : ByteArray), .int .i64 0, .int .i64 2, .int .i64 1] from (k94_mkM _ _ _ (⟨(⟨#[109, 111, 100]⟩ : ByteArray), 0, 2, 1⟩ : S94) )) (Reps.c4 (show Kd.M k94 _ _ _ (⟨(⟨#[108, 101, 115, 115]⟩ : ByteArray), 0, 2, 1⟩ : S94) [.string (⟨#[108, 101, 115, 115]⟩ : ByteArray), .int .i64 0, .int .i64 2, .int .i64 1] from (k94_mkM _ _ _ (⟨(⟨#[108, 101, 115, 115]⟩ : ByteArray), 0, 2, 1⟩ : S94) )) (Reps.c4 (show Kd.M k94 _ _ _ (⟨(⟨#[109, 111, 115, 116]⟩ : ByteArray), 0, 2, 1⟩ : S94) [.string (⟨#[109, 111, 115, 116]⟩ : ByteArray), .int .i64 0, .int .i64 2, .int .i64 1] from (k94_mkM _ _ _ (⟨(⟨#[109, 111, 115, 116]⟩ : ByteArray), 0, 2, 1⟩ : S94) )) (Reps.c4 (show Kd.M k94 _ _ _ (⟨(⟨#[115, 97, 109, 101]⟩ : ByteArray), 0, 2, 1⟩ : S94) [.string (⟨#[115, 97, 109, 101]⟩ : ByteArray), .int .i64 0, .int .i64 2, .int .i64 1] from (k94_mkM _ _ _ (⟨(⟨#[115, 97, 109, 101]⟩ : ByteArray), 0, 2, 1⟩ : S94) )) (Reps.c4 (show Kd.M k94 _ _ _ (⟨(⟨#[110, 111, 116]⟩ : ByteArray), 0, 1, 1⟩ : S94) [.string (⟨#[110, 111, 116]⟩ : ByteArray), .int .i64 0, .int .i64 1, .int .i64 1] from (k94_mkM _ _ _ (⟨(⟨#[110, 111, 116]⟩ : ByteArray), 0, 1, 1⟩ : S94) )) (Reps.c4 (show Kd.M k94 _ _ _ (⟨(⟨#[110, 101, 103]⟩ : ByteArray), 0, 1, 1⟩ : S94) [.string (⟨#[110, 101, 103]⟩ : ByteArray), .int .i64 0, .int .i64 1, .int .i64 1] from (k94_mkM _ _ _ (⟨(⟨#[110, 101, 103]⟩ : ByteArray), 0, 1, 1⟩ : S94) )) (Reps.c4 (show Kd.M k94 _ _ _ (⟨(⟨#[106, 117, 109, 112]⟩ : ByteArray), 1, 0, 0⟩ : S94) [.string (⟨#[106, 117, 109, 112]⟩ : ByteArray), .int .i64 1, .int .i64 0, .int .i64 0] from (k94_mkM _ _ _ (⟨(⟨#[106, 117, 109, 112]⟩ : ByteArray), 1, 0, 0⟩ : S94) )) (Reps.c4 (show Kd.M k94 _ _ _ (⟨(⟨#[122, 101, 114, 111]⟩ : ByteArray), 1, 1, 0⟩ : S94) [.string (⟨#[122, 101, 114, 111]⟩ : ByteArray), .int .i64 1, .int .i64 1, .int .i64 0] from (k94_mkM _ _ _ (⟨(⟨#[122, 101, 114, 111]⟩ : ByteArray), 1, 1, 0⟩ : S94) )) (Reps.c4 (show Kd.M k94 _ _ _ (⟨(⟨#[99, 97, 108, 108]⟩ : ByteArray), 2, 0, 0⟩ : S94) [.string (⟨#[99, 97, 108, 108]⟩ : ByteArray), .int .i64 2, .int .i64 0, .int .i64 0] from (k94_mkM _ _ _ (⟨(⟨#[99, 97, 108, 108]⟩ : ByteArray), 2, 0, 0⟩ : S94) )) (Reps.c4 (show Kd.M k94 _ _ _ (⟨(⟨#[108, 101, 97, 118, 101]⟩ : ByteArray), 1, 0, 0⟩ : S94) [.string (⟨#[108, 101, 97, 118, 101]⟩ : ByteArray), .int .i64 1, .int .i64 0, .int .i64 0] from (k94_mkM _ _ _ (⟨(⟨#[108, 101, 97, 118, 101]⟩ : ByteArray), 1, 0, 0⟩ : S94) )) (Reps.c4 (show Kd.M k94 _ _ _ (⟨(⟨#[112, 114, 105, 110, 116]⟩ : ByteArray), 0, 1, 0⟩ : S94) [.string (⟨#[112, 114, 105, 110, 116]⟩ : ByteArray), .int .i64 0, .int .i64 1, .int .i64 0] from (k94_mkM _ _ _ (⟨(⟨#[112, 114, 105, 110, 116]⟩ : ByteArray), 0, 1, 0⟩ : S94) )) (Reps.c4 (show Kd.M k94 _ _ _ (⟨(⟨#[114, 101, 97, 100]⟩ : ByteArray), 0, 0, 1⟩ : S94) [.string (⟨#[114, 101, 97, 100]⟩ : ByteArray), .int .i64 0, .int .i64 0, .int .i64 1] from (k94_mkM _ _ _ (⟨(⟨#[114, 101, 97, 100]⟩ : ByteArray), 0, 0, 1⟩ : S94) )) (Reps.c4 (show Kd.M k94 _ _ _ (⟨(⟨#[116, 101, 115, 116]⟩ : ByteArray), 0, 1, 0⟩ : S94) [.string (⟨#[116, 101, 115, 116]⟩ : ByteArray), .int .i64 0, .int .i64 1, .int .i64 0] from (k94_mkM _ _ _ (⟨(⟨#[116, 101, 115, 116]⟩ : ByteArray), 0, 1, 0⟩ : S94) )) (Reps.c4 (show Kd.M k94 _ _ _ (⟨(⟨#[109, 97, 114, 107]⟩ : ByteArray), 2, 0, 0⟩ : S94) [.string (⟨#[109, 97, 114, 107]⟩ : ByteArray), .int .i64 2, .int .i64 0, .int .i64 0] from (k94_mkM _ _ _ (⟨(⟨#[109, 97, 114, 107]⟩ : ByteArray), 2, 0, 0⟩ : S94) )) (Reps.c4 (show Kd.M k94 _ _ _ (⟨(⟨#[100, 114, 111, 112]⟩ : ByteArray), 0, 1, 0⟩ : S94) [.string (⟨#[100, 114, 111, 112]⟩ : ByteArray), .int .i64 0, .int .i64 1, .int .i64 0] from (k94_mkM _ _ _ (⟨(⟨#[100, 114, 111, 112]⟩ : ByteArray), 0, 1, 0⟩ : S94) )) (Reps.none _ _)))))))))))))))))))))))))))); intro v214 w4 ho5 hb hg_ hnew_; clear hg_ hnew_; (first | rw [← Ny213.out] at ho5 | (simp only [Int.reduceToNat] at ho5; rw [← Ny213.out] at ho5)); have n0_ := Aside0.mk (Kd.R_lower (Kd.R_newB ho5 (g := gb212) (o := .cells #[.string (⟨#[]⟩ : ByteArray), .int .i64 0, .int .i64 0, .int .i64 0] 94 (0, 0)) bk) (below_size bl)); have n1_ := Aside0.mk (blk_below (g := gb212) (o := .cells #[.string (⟨#[]⟩ : ByteArray), .int .i64 0, .int .i64 0, .int .i64 0] 94 (0, 0)) bk hb); have n2_ := Aside0.mk (below_step bl hb); clear BK212 HB; have HO215 := n0_; have BK212 := n1_; have HB := n2_; clear n0_ n1_ n2_; clear hb ho5; refine ?roundEnd))
 case roundEnd =>
  have H := HH_.out; clear HH_
  by_cases c2 : a0 < 1
  ·rw [if_pos c2] at H; have c2b0 : decide (a0 < 1) = true := decide_eq_true c2; clear c2; simp only [Option.some.injEq, Prod.mk.injEq] at H; obtain ⟨rfl, rfl, rfl, rfl⟩ := H; obtain ⟨hcz6_0, hcz6_1, hcz6_2, hcz6_3, hfz6_0, hfz6_1, hfz6_2, hfz6_3⟩ := bc4 BK212.out; go_wp2
   refine bodyPost_ret (results_cell_row rfl _ _ gb212 94 #[.string (⟨#[]⟩ : ByteArray), .int .i64 0, .int .i64 0, .int .i64 0] (0, 0) _ rfl (by (with_reducible repeat (first | refine blk_drewN ?_ _ | refine blk_drew ?_ | refine blk_alloc ?_ _)); refine blk_put (cs := #[.string (⟨#[]⟩ : ByteArray), .int .i64 0, .int .i64 0, .int .i64 0]) ?_ 3 _ rfl; (with_reducible repeat (first | refine blk_drewN ?_ _ | refine blk_drew ?_ | refine blk_alloc ?_ _)); refine blk_put (cs := #[.string (⟨#[]⟩ : ByteArray), .int .i64 0, .int .i64 0, .int .i64 0]) ?_ 2 _ rfl; (with_reducible repeat (first | refine blk_drewN ?_ _ | refine blk_drew ?_ | refine blk_alloc ?_ _)); refine blk_put (cs := #[.string (⟨#[]⟩ : ByteArray), .int .i64 0, .int .i64 0, .int .i64 0]) ?_ 1 _ rfl; (with_reducible repeat (first | refine blk_drewN ?_ _ | refine blk_drew ?_ | refine blk_alloc ?_ _)); refine blk_put (cs := #[.string (⟨#[]⟩ : ByteArray), .int .i64 0, .int .i64 0, .int .i64 0]) ?_ 0 _ rfl; (with_reducible repeat (first | refine blk_drewN ?_ _ | refine blk_drew ?_ | refine blk_alloc ?_ _)); exact BK212.out) Tryd.underlying94 rfl (by kernel_rfl)) rfl ?_
   exact ⟨pe, bl⟩
  ·rw [if_neg c2] at H; have c2b0 : decide (a0 < 1) = false := decide_eq_false c2; clear c2; have HH_ := Aside0.mk H; clear H; obtain ⟨Ao11, co11, eo11⟩ := Kd.R_slice HO215.out; subst eo11; refine ?roundEnd; go_wp2
   case roundEnd =>
    have H := HH_.out; clear HH_
    by_cases c7 : a0 ≥ (y213.length : Int)
    ·rw [if_pos c7] at H; have c7b0 : decide ((y213.length : Int) ≤ a0) = true := decide_eq_true c7; clear c7; simp only [Option.some.injEq, Prod.mk.injEq] at H; obtain ⟨rfl, rfl, rfl, rfl⟩ := H; obtain ⟨hcz12_0, hcz12_1, hcz12_2, hcz12_3, hfz12_0, hfz12_1, hfz12_2, hfz12_3⟩ := bc4 BK212.out; go_wp2
     refine bodyPost_ret (results_cell_row rfl _ _ gb212 94 #[.string (⟨#[]⟩ : ByteArray), .int .i64 0, .int .i64 0, .int .i64 0] (0, 0) _ rfl (by (with_reducible repeat (first | refine blk_drewN ?_ _ | refine blk_drew ?_ | refine blk_alloc ?_ _)); refine blk_put (cs := #[.string (⟨#[]⟩ : ByteArray), .int .i64 0, .int .i64 0, .int .i64 0]) ?_ 3 _ rfl; (with_reducible repeat (first | refine blk_drewN ?_ _ | refine blk_drew ?_ | refine blk_alloc ?_ _)); refine blk_put (cs := #[.string (⟨#[]⟩ : ByteArray), .int .i64 0, .int .i64 0, .int .i64 0]) ?_ 2 _ rfl; (with_reducible repeat (first | refine blk_drewN ?_ _ | refine blk_drew ?_ | refine blk_alloc ?_ _)); refine blk_put (cs := #[.string (⟨#[]⟩ : ByteArray), .int .i64 0, .int .i64 0, .int .i64 0]) ?_ 1 _ rfl; (with_reducible repeat (first | refine blk_drewN ?_ _ | refine blk_drew ?_ | refine blk_alloc ?_ _)); refine blk_put (cs := #[.string (⟨#[]⟩ : ByteArray), .int .i64 0, .int .i64 0, .int .i64 0]) ?_ 0 _ rfl; (with_reducible repeat (first | refine blk_drewN ?_ _ | refine blk_drew ?_ | refine blk_alloc ?_ _)); exact BK212.out) Tryd.underlying94 rfl (by kernel_rfl)) rfl ?_
     exact ⟨pe, bl⟩
    ·rw [if_neg c7] at H; have c7b0 : decide ((y213.length : Int) ≤ a0) = false := decide_eq_false c7; clear c7
     by_cases c13 : 0 ≤ a0
     ·rw [if_pos c13] at H; have c13b0 : decide (0 ≤ a0) = true := decide_eq_true c13; clear c13
      by_cases c14 : a0 < (y213.length : Int)
      ·rw [if_pos c14] at H; have c14b0 : decide (a0 < (y213.length : Int)) = true := decide_eq_true c14; clear c14; simp only [Option.some.injEq, Prod.mk.injEq] at H; obtain ⟨rfl, rfl, rfl, rfl⟩ := H
       have p216 : 0 ≤ (a0 : Int) := of_decide_eq_true pa
       have q216 : a0 < (y213.length : Int) := of_decide_eq_true pa
       obtain ⟨ad216, e216, hx216_0, hx216_1, hx216_2, hx216_3⟩ := at_T94 (Kd.R_reads' HO215.out).2.2 a0 p216 q216
       cases e216
       replace p216 := eq_true p216; replace q216 := eq_true q216; obtain ⟨hcz19_0, hcz19_1, hcz19_2, hcz19_3, hfz19_0, hfz19_1, hfz19_2, hfz19_3⟩ := bc4 BK212.out; go_wp2
       refine bodyPost_ret (results_cell_row rfl _ _ gb212 94 #[.string ((rd_T94 y213 a0).f0), .int .i64 ((rd_T94 y213 a0).f1), .int .i64 ((rd_T94 y213 a0).f2), .int .i64 ((rd_T94 y213 a0).f3)] (0, 0) _ rfl (by (with_reducible repeat (first | refine blk_drewN ?_ _ | refine blk_drew ?_ | refine blk_alloc ?_ _)); refine blk_put (cs := #[.string ((rd_T94 y213 a0).f0), .int .i64 ((rd_T94 y213 a0).f1), .int .i64 ((rd_T94 y213 a0).f2), .int .i64 0]) ?_ 3 _ rfl; (with_reducible repeat (first | refine blk_drewN ?_ _ | refine blk_drew ?_ | refine blk_alloc ?_ _)); refine blk_put (cs := #[.string ((rd_T94 y213 a0).f0), .int .i64 ((rd_T94 y213 a0).f1), .int .i64 0, .int .i64 0]) ?_ 2 _ rfl; (with_reducible repeat (first | refine blk_drewN ?_ _ | refine blk_drew ?_ | refine blk_alloc ?_ _)); refine blk_put (cs := #[.string ((rd_T94 y213 a0).f0), .int .i64 0, .int .i64 0, .int .i64 0]) ?_ 1 _ rfl; (with_reducible repeat (first | refine blk_drewN ?_ _ | refine blk_drew ?_ | refine blk_alloc ?_ _)); refine blk_put (cs := #[.string (⟨#[]⟩ : ByteArray), .int .i64 0, .int .i64 0, .int .i64 0]) ?_ 0 _ rfl; (with_reducible repeat (first | refine blk_drewN ?_ _ | refine blk_drew ?_ | refine blk_alloc ?_ _)); exact BK212.out) Tryd.underlying94 rfl (by kernel_rfl)) rfl ?_
       exact ⟨pe, bl⟩
      ·rw [if_neg c14] at H; exact absurd H (by simp)
     ·rw [if_neg c13] at H; exact absurd H (by simp)

/-! ### parallaxref01_number: function 76 -/
def parallaxref01_number.l0 : Nat → List Int → Int → Int → Option (Int)
 | 0, _, _, _ => none
 | k + 1, x0, x3, x4 => if x4 ≥ 0 then (if 0 ≤ x4 then (if x4 < (x0.length : Int) then (parallaxref01_number.l0 k x0 (IntKind.u64.wrap ((IntKind.u64.wrap (x3 * 2)) + (IntKind.u64.wrap (rd x0 x4)))) (wrap64 (x4 - 1))) else (none)) else (none)) else (some (wrap64 (x3)))
def parallaxref01_number.f (k : Nat) (l0 : List Int) : Option (Int) := parallaxref01_number.l0 k l0 0 63
set_option maxHeartbeats 8000000 in
set_option maxRecDepth 100000 in
theorem parallaxref01_number.calls (k : Nat) (A0 : Option Addr) (c0 : Nat) (l0 : List Int) (r : Int) (w : World) (hr0 : Kd.C (Kd.int .i64) w A0 l0.length l0) (hc0 : l0.length ≤ c0) (h : parallaxref01_number.f k l0 = some r) :
  Calls Tryd.prog 76 #[.slice A0 l0.length c0] w fun e w' => e = .returned (.int .i64 r) ∧ Drawn0 w w' := by
 have HR0 := Aside0.mk hr0; have HC0 := Aside0.mk hc0; clear hr0 hc0; have H : (parallaxref01_number.l0 k l0 0 63) = some r := h; clear h; have H' := Aside0.mk H; clear H; go_enter Tryd.func76, Tryd.ntmps76; go_wp2
 go_loopg [3, 4] k (fun kq v3 v4 w' => ∃ (x3_1 : Int) (x4_1 : Int), v3 = .int .u64 x3_1 ∧ v4 = .int .i64 x4_1 ∧ Aside0 (parallaxref01_number.l0 kq l0 x3_1 x4_1 = some r) ∧ Aside0 (kq ≤ k) ∧ Drawn0 w w')
 case atStart => exact ⟨(0), (63), pr, pr, H', ⟨Nat.le_refl _⟩, by repeat (first | exact Drawn0.refl _ | apply Drawn0.step)⟩
 case round =>
  clear H'; obtain ⟨x3_1, x4_1, rfl, rfl, HA, HK1, ⟨m1, rfl⟩⟩ := hrel
  cases gk with
  | zero => exact absurd HA.out (by simp [parallaxref01_number.l0])
  | succ k1 =>
   have H := HA.out; clear HA; simp only [parallaxref01_number.l0] at H
   by_cases c2 : x4_1 ≥ 0
   ·rw [if_pos c2] at H; have c2b0 : decide (0 ≤ x4_1) = true := decide_eq_true c2; clear c2
    by_cases c3 : 0 ≤ x4_1
    ·rw [if_pos c3] at H; have c3b0 : decide (0 ≤ x4_1) = true := decide_eq_true c3; clear c3
     by_cases c4 : x4_1 < (l0.length : Int)
     ·rw [if_pos c4] at H; have c4b0 : decide (x4_1 < (l0.length : Int)) = true := decide_eq_true c4; clear c4; have H' := Aside0.mk H; clear H
      have p217 : 0 ≤ (x4_1 : Int) := of_decide_eq_true pa
      have q217 : x4_1 < (l0.length : Int) := of_decide_eq_true pa
      obtain ⟨ad217, e217, hx217_0⟩ := Kd.at_int HR0.out x4_1 p217 q217
      cases e217
      replace p217 := eq_true p217; replace q217 := eq_true q217; go_wp2
      go_roundg k1
      case measure => have := HK1.out; omega
      case rel => exact ⟨(IntKind.u64.wrap ((IntKind.u64.wrap (x3_1 * 2)) + (IntKind.u64.wrap (rd l0 x4_1)))), (wrap64 (x4_1 - 1)), pr, pr, H', ⟨by have := HK1.out; omega⟩, by repeat (first | exact Drawn0.refl _ | apply Drawn0.step)⟩
     ·rw [if_neg c4] at H; exact absurd H (by simp)
    ·rw [if_neg c3] at H; exact absurd H (by simp)
   ·rw [if_neg c2] at H; have c2b0 : decide (0 ≤ x4_1) = false := decide_eq_false c2; clear c2; obtain rfl := Option.some.inj H; go_wp2; go_ret; exact ⟨by first | rfl | (simp; done) | (simp [*]; done), by repeat (first | exact Drawn0.refl _ | apply Drawn0.step)⟩

/-! ### parallaxref01_plus: function 77 -/
def parallaxref01_plus.l0 : Nat → List Int → List Int → Int → List Int → Int → Option (List Int)
 | 0, _, _, _, _, _ => none
 | k + 1, x0, x1, x2, x7, x8 => if x8 < 64 then (if 0 ≤ x8 then (if x8 < (x0.length : Int) then (if x8 < (x1.length : Int) then (if x7.length < 17592186044416 then (parallaxref01_plus.l0 k x0 x1 (wrap64 (Int.tdiv (wrap64 ((wrap64 ((rd x0 x8) + (rd x1 x8))) + x2)) 2)) (x7 ++ [Int.tmod (wrap64 ((wrap64 ((rd x0 x8) + (rd x1 x8))) + x2)) 2]) (wrap64 (x8 + 1))) else (none)) else (none)) else (none)) else (none)) else (some x7)
def parallaxref01_plus.f (k : Nat) (l0 : List Int) (l1 : List Int) (a2 : Int) : Option (List Int) := parallaxref01_plus.l0 k l0 l1 a2 ([] : List Int) 0
set_option maxHeartbeats 8000000 in
set_option maxRecDepth 100000 in
theorem parallaxref01_plus.calls (k : Nat) (A0 : Option Addr) (c0 : Nat) (l0 : List Int) (A1 : Option Addr) (c1 : Nat) (l1 : List Int) (a2 : Int) (r : List Int) (w : World) (hr0 : Kd.C (Kd.int .i64) w A0 l0.length l0) (hc0 : l0.length ≤ c0) (hr1 : Kd.C (Kd.int .i64) w A1 l1.length l1) (hc1 : l1.length ≤ c1) (h : parallaxref01_plus.f k l0 l1 a2 = some r) :
  Calls Tryd.prog 77 #[.slice A0 l0.length c0, .slice A1 l1.length c1, .int .i64 a2] w fun e w' => ∃ v0_ : Value, e = .returned (v0_) ∧ Kd.R (Kd.int .i64) 3 w' w.heap.size (fun _ => True) v0_ r ∧ Below w.heap.size w w' := by
 have HR0 := Aside0.mk hr0; have HC0 := Aside0.mk hc0; clear hr0 hc0; have HR1 := Aside0.mk hr1; have HC1 := Aside0.mk hc1; clear hr1 hc1; have HB := Aside0.mk (Below.refl w.heap.size w); have H : (parallaxref01_plus.l0 k l0 l1 a2 ([] : List Int) 0) = some r := h; clear h; have H' := Aside0.mk H; clear H; go_enter Tryd.func77, Tryd.ntmps77; go_wp2
 repeat (go_quiet (fail); try go_wp2)
 go_loopg [2, 7, 8] k (fun kq v2 v7 v8 w' => ∃ (x2_1 : Int) (x7_1 : List Int) (x8_1 : Int), v2 = .int .i64 x2_1 ∧ v8 = .int .i64 x8_1 ∧ Aside0 (parallaxref01_plus.l0 kq l0 l1 x2_1 x7_1 x8_1 = some r) ∧ Aside0 (kq ≤ k) ∧ Aside0 (Kd.R (Kd.int .i64) 3 w' w.heap.size (fun _ => True) v7 x7_1) ∧ Aside0 (Below w.heap.size w w'))
 case atStart => exact ⟨(a2), (([] : List Int)), (0), pr, pr, H', ⟨Nat.le_refl _⟩, ⟨pn⟩, ⟨bl⟩⟩
 case round =>
  clear H'; (try clear c1); (try clear p2); obtain ⟨x2_1, x7_1, x8_1, rfl, rfl, HA, HK1, HO_7, HB⟩ := hrel
  cases gk with
  | zero => exact absurd HA.out (by simp [parallaxref01_plus.l0])
  | succ k1 =>
   have H := HA.out; clear HA; simp only [parallaxref01_plus.l0] at H
   by_cases c4 : x8_1 < 64
   ·rw [if_pos c4] at H; have c4b0 : decide (x8_1 < 64) = true := decide_eq_true c4; clear c4
    by_cases c5 : 0 ≤ x8_1
    ·rw [if_pos c5] at H; have c5b0 : decide (0 ≤ x8_1) = true := decide_eq_true c5; clear c5
     by_cases c6 : x8_1 < (l0.length : Int)
     ·rw [if_pos c6] at H; have c6b0 : decide (x8_1 < (l0.length : Int)) = true := decide_eq_true c6; clear c6
      by_cases c7 : x8_1 < (l1.length : Int)
      ·rw [if_pos c7] at H; have c7b0 : decide (x8_1 < (l1.length : Int)) = true := decide_eq_true c7; clear c7
       by_cases c8 : x7_1.length < 17592186044416
       ·rw [if_pos c8] at H; have LMc8 := Aside0.mk c8; clear c8; obtain ⟨y220, hy220⟩ : ∃ y_ : List Int, y_ = (x7_1 ++ [Int.tmod (wrap64 ((wrap64 ((rd l0 x8_1) + (rd l1 x8_1))) + x2_1)) 2]) := ⟨_, rfl⟩; (first | replace H := hs hy220 H | rw [← hy220] at H)
        have Ny220 := Aside0.mk hy220; clear hy220; have H' := Aside0.mk H; clear H
        have p218 : 0 ≤ (x8_1 : Int) := of_decide_eq_true pa
        have q218 : x8_1 < (l0.length : Int) := of_decide_eq_true pa
        obtain ⟨ad218, e218, hx218_0⟩ := Kd.at_int HR0.out x8_1 p218 q218
        cases e218
        replace hx218_0 := pc HB.out hx218_0; replace p218 := eq_true p218; replace q218 := eq_true q218
        have p219 : 0 ≤ (x8_1 : Int) := of_decide_eq_true pa
        have q219 : x8_1 < (l1.length : Int) := of_decide_eq_true pa
        obtain ⟨ad219, e219, hx219_0⟩ := Kd.at_int HR1.out x8_1 p219 q219
        cases e219
        replace hx219_0 := pc HB.out hx219_0; replace p219 := eq_true p219; replace q219 := eq_true q219
        go_wp2_with (first | ((with_reducible refine gate_builtin (b := .append) (xs := #[.tmp 25, .tmp 28]) rfl ?_); at_builtin; refine Kd.R_append (Kd.int .i64) (w0 := w) w.heap.size rfl (.tmp 25) (.tmp 28) 84 3 (.int .i64 0) 8 rfl Tryd.underlying84 info3 rfl (by decide) (by omega) u7 x7_1 (Int.tmod (wrap64 ((wrap64 ((rd l0 x8_1) + (rd l1 x8_1))) + x2_1)) 2) [.int .i64 (Int.tmod (wrap64 ((wrap64 ((rd l0 x8_1) + (rd l1 x8_1))) + x2_1)) 2)] (fun _ => True) (fun _ => False) rfl rfl ?aP (fun _ hk => hk.elim) ?aF ?aO ?aB ?aS ?aL ?_; (case aP => exact rfl); (case aB => exact bl); (case aF => exact (fun _ _ => trivial)); (case aO => exact (bR HO_7.out)); (case aS => exact (below_size bl)); (case aL => have := LMc8.out; omega); intro v221 w9 ho hb hg hat; rw [← Ny220.out] at ho; have n0_ := Aside0.mk (hb); have n1_ := Aside0.mk (ho); clear HB HO_7; have HB := n0_; have HO222 := n1_; clear n0_ n1_; clear ho hb hg hat))
        repeat (go_quiet (fail); try go_wp2_with (first | ((with_reducible refine gate_builtin (b := .append) (xs := #[.tmp 25, .tmp 28]) rfl ?_); at_builtin; refine Kd.R_append (Kd.int .i64) (w0 := w) w.heap.size rfl (.tmp 25) (.tmp 28) 84 3 (.int .i64 0) 8 rfl Tryd.underlying84 info3 rfl (by decide) (by omega) u7 x7_1 (Int.tmod (wrap64 ((wrap64 ((rd l0 x8_1) + (rd l1 x8_1))) + x2_1)) 2) [.int .i64 (Int.tmod (wrap64 ((wrap64 ((rd l0 x8_1) + (rd l1 x8_1))) + x2_1)) 2)] (fun _ => True) (fun _ => False) rfl rfl ?aP (fun _ hk => hk.elim) ?aF ?aO ?aB ?aS ?aL ?_; (case aP => exact rfl); (case aB => exact bl); (case aF => exact (fun _ _ => trivial)); (case aO => exact (bR HO_7.out)); (case aS => exact (below_size bl)); (case aL => have := LMc8.out; omega); intro v221 w9 ho hb hg hat; rw [← Ny220.out] at ho; have n0_ := Aside0.mk (hb); have n1_ := Aside0.mk (ho); clear HB HO_7; have HB := n0_; have HO222 := n1_; clear n0_ n1_; clear ho hb hg hat)))
        go_roundg k1
        case measure => have := HK1.out; omega
        case rel => exact ⟨(wrap64 (Int.tdiv (wrap64 ((wrap64 ((rd l0 x8_1) + (rd l1 x8_1))) + x2_1)) 2)), (y220), (wrap64 (x8_1 + 1)), pr, pr, H', ⟨by have := HK1.out; omega⟩, ⟨by (with_reducible repeat (first | apply Kd.R_alloc | apply Kd.R_drewN | apply Kd.R_drew)); exact HO222.out⟩, ⟨bl⟩⟩
       ·rw [if_neg c8] at H; exact absurd H (by simp)
      ·rw [if_neg c7] at H; exact absurd H (by simp)
     ·rw [if_neg c6] at H; exact absurd H (by simp)
    ·rw [if_neg c5] at H; exact absurd H (by simp)
   ·rw [if_neg c4] at H; have c4b0 : decide (x8_1 < 64) = false := decide_eq_false c4; clear c4; obtain rfl := Option.some.inj H; go_wp2
    repeat (go_quiet (fail); try go_wp2)
    go_ret; exact ⟨_, pe, by (with_reducible repeat (first | apply Kd.R_alloc | apply Kd.R_drewN | apply Kd.R_drew)); exact HO_7.out, bl⟩

/-! ### parallaxref01_Bits: function 78 -/
def parallaxref01_Bits.l0 : Nat → Int → List Int → Int → Option (List Int)
 | 0, _, _, _ => none
 | k + 1, x0, x3, x4 => if x4 < 64 then (if 0 ≤ (IntKind.u64.wrap (x4)) then (if x3.length < 17592186044416 then (parallaxref01_Bits.l0 k x0 (x3 ++ [wrap64 (Int.tmod (shr .u64 (IntKind.u64.wrap (x0)) (IntKind.u64.wrap (x4))) 2)]) (wrap64 (x4 + 1))) else (none)) else (none)) else (some x3)
def parallaxref01_Bits.f (k : Nat) (a0 : Int) : Option (List Int) := parallaxref01_Bits.l0 k a0 ([] : List Int) 0
set_option maxHeartbeats 8000000 in
set_option maxRecDepth 100000 in
theorem parallaxref01_Bits.calls (k : Nat) (a0 : Int) (r : List Int) (w : World) (h : parallaxref01_Bits.f k a0 = some r) :
  Calls Tryd.prog 78 #[.int .i64 a0] w fun e w' => ∃ v0_ : Value, e = .returned (v0_) ∧ Kd.R (Kd.int .i64) 3 w' w.heap.size (fun _ => True) v0_ r ∧ Below w.heap.size w w' := by
 have HB := Aside0.mk (Below.refl w.heap.size w); have H : (parallaxref01_Bits.l0 k a0 ([] : List Int) 0) = some r := h; clear h; have H' := Aside0.mk H; clear H; go_enter Tryd.func78, Tryd.ntmps78; go_wp2
 go_loopg [3, 4] k (fun kq v3 v4 w' => ∃ (x3_1 : List Int) (x4_1 : Int), v4 = .int .i64 x4_1 ∧ Aside0 (parallaxref01_Bits.l0 kq a0 x3_1 x4_1 = some r) ∧ Aside0 (kq ≤ k) ∧ Aside0 (Kd.R (Kd.int .i64) 3 w' w.heap.size (fun _ => True) v3 x3_1) ∧ Aside0 (Below w.heap.size w w'))
 case atStart => exact ⟨(([] : List Int)), (0), pr, H', ⟨Nat.le_refl _⟩, ⟨pn⟩, ⟨bl⟩⟩
 case round =>
  clear H'; obtain ⟨x3_1, x4_1, rfl, HA, HK1, HO_3, HB⟩ := hrel
  cases gk with
  | zero => exact absurd HA.out (by simp [parallaxref01_Bits.l0])
  | succ k1 =>
   have H := HA.out; clear HA; simp only [parallaxref01_Bits.l0] at H
   by_cases c2 : x4_1 < 64
   ·rw [if_pos c2] at H; have c2b0 : decide (x4_1 < 64) = true := decide_eq_true c2; clear c2; obtain ⟨ji3, hji3⟩ : ∃ j_ : Int, (IntKind.u64.wrap (x4_1)) = j_ := ⟨_, rfl⟩; replace H : (if 0 ≤ (ji3) then (if x3_1.length < 17592186044416 then (parallaxref01_Bits.l0 k1 a0 (x3_1 ++ [wrap64 (Int.tmod (shr .u64 (IntKind.u64.wrap (a0)) (ji3)) 2)]) (wrap64 (x4_1 + 1))) else (none)) else (none)) = some r := by first | (rw [hji3] at H; exact H) | (simp only [hji3] at H ⊢; exact H)
    by_cases c4 : 0 ≤ (ji3)
    ·rw [if_pos c4] at H; have c4b0 := eq_true c4; have c4b1 : decide (0 ≤ (ji3)) = true := decide_eq_true c4; clear c4; obtain ⟨ji5, hji5⟩ : ∃ j_ : Int, (shr .u64 (IntKind.u64.wrap (a0)) (ji3)) = j_ := ⟨_, rfl⟩; replace H : (if x3_1.length < 17592186044416 then (parallaxref01_Bits.l0 k1 a0 (x3_1 ++ [wrap64 (Int.tmod (ji5) 2)]) (wrap64 (x4_1 + 1))) else (none)) = some r := by first | (rw [hji5] at H; exact H) | (simp only [hji5] at H ⊢; exact H)
     have hji5_ : ((IntKind.u64.wrap (a0)) / 2 ^ min (ji3).toNat 64) = ji5 := hji5; have hji5z : (ji3) ≤ 64 → ((IntKind.u64.wrap (a0)) / 2 ^ (ji3).toNat) = ji5 := shr_small hji5
     by_cases c6 : x3_1.length < 17592186044416
     ·rw [if_pos c6] at H; have LMc6 := Aside0.mk c6; clear c6; obtain ⟨y223, hy223⟩ : ∃ y_ : List Int, y_ = (x3_1 ++ [wrap64 (Int.tmod (ji5) 2)]) := ⟨_, rfl⟩; (first | replace H := hs hy223 H | rw [← hy223] at H)
      have Ny223 := Aside0.mk hy223; clear hy223; have H' := Aside0.mk H; clear H
      go_wp2_with (first | ((with_reducible refine gate_builtin (b := .append) (xs := #[.tmp 9, .tmp 17]) rfl ?_); at_builtin; refine Kd.R_append (Kd.int .i64) (w0 := w) w.heap.size rfl (.tmp 9) (.tmp 17) 84 3 (.int .i64 0) 8 rfl Tryd.underlying84 info3 rfl (by decide) (by omega) u3 x3_1 (wrap64 (Int.tmod (ji5) 2)) [.int .i64 (wrap64 (Int.tmod (ji5) 2))] (fun _ => True) (fun _ => False) rfl rfl ?aP (fun _ hk => hk.elim) ?aF ?aO ?aB ?aS ?aL ?_; (case aP => exact rfl); (case aB => exact bl); (case aF => exact (fun _ _ => trivial)); (case aO => exact (bR HO_3.out)); (case aS => exact (below_size bl)); (case aL => have := LMc6.out; omega); intro v224 w7 ho hb hg hat; rw [← Ny223.out] at ho; have n0_ := Aside0.mk (hb); have n1_ := Aside0.mk (ho); clear HB HO_3; have HB := n0_; have HO225 := n1_; clear n0_ n1_; clear ho hb hg hat))
      go_roundg k1
      case measure => have := HK1.out; omega
      case rel => exact ⟨(y223), (wrap64 (x4_1 + 1)), pr, H', ⟨by have := HK1.out; omega⟩, ⟨by (with_reducible repeat (first | apply Kd.R_alloc | apply Kd.R_drewN | apply Kd.R_drew)); exact HO225.out⟩, ⟨bl⟩⟩
     ·rw [if_neg c6] at H; exact absurd H (by simp)
    ·rw [if_neg c4] at H; exact absurd H (by simp)
   ·rw [if_neg c2] at H; have c2b0 : decide (x4_1 < 64) = false := decide_eq_false c2; clear c2; obtain rfl := Option.some.inj H; go_wp2; go_ret; exact ⟨_, pe, by (with_reducible repeat (first | apply Kd.R_alloc | apply Kd.R_drewN | apply Kd.R_drew)); exact HO_3.out, bl⟩

/-! ### parallaxref01_other: function 79 -/
def parallaxref01_other.l0 : Nat → List Int → List Int → Int → Option (List Int)
 | 0, _, _, _ => none
 | k + 1, x0, x3, x4 => if x4 < (x0.length : Int) then (if 0 ≤ x4 then (if x3.length < 17592186044416 then (parallaxref01_other.l0 k x0 (x3 ++ [wrap64 (1 - (rd x0 x4))]) (wrap64 (x4 + 1))) else (none)) else (none)) else (some x3)
def parallaxref01_other.f (k : Nat) (l0 : List Int) : Option (List Int) := parallaxref01_other.l0 k l0 ([] : List Int) 0
set_option maxHeartbeats 8000000 in
set_option maxRecDepth 100000 in
theorem parallaxref01_other.calls (k : Nat) (A0 : Option Addr) (c0 : Nat) (l0 : List Int) (r : List Int) (w : World) (hr0 : Kd.C (Kd.int .i64) w A0 l0.length l0) (hc0 : l0.length ≤ c0) (h : parallaxref01_other.f k l0 = some r) :
  Calls Tryd.prog 79 #[.slice A0 l0.length c0] w fun e w' => ∃ v0_ : Value, e = .returned (v0_) ∧ Kd.R (Kd.int .i64) 3 w' w.heap.size (fun _ => True) v0_ r ∧ Below w.heap.size w w' := by
 have HR0 := Aside0.mk hr0; have HC0 := Aside0.mk hc0; clear hr0 hc0; have HB := Aside0.mk (Below.refl w.heap.size w); have H : (parallaxref01_other.l0 k l0 ([] : List Int) 0) = some r := h; clear h; have H' := Aside0.mk H; clear H; go_enter Tryd.func79, Tryd.ntmps79; go_wp2
 go_loopg [3, 4] k (fun kq v3 v4 w' => ∃ (x3_1 : List Int) (x4_1 : Int), v4 = .int .i64 x4_1 ∧ Aside0 (parallaxref01_other.l0 kq l0 x3_1 x4_1 = some r) ∧ Aside0 (kq ≤ k) ∧ Aside0 (Kd.R (Kd.int .i64) 3 w' w.heap.size (fun _ => True) v3 x3_1) ∧ Aside0 (Below w.heap.size w w'))
 case atStart => exact ⟨(([] : List Int)), (0), pr, H', ⟨Nat.le_refl _⟩, ⟨pn⟩, ⟨bl⟩⟩
 case round =>
  clear H'; obtain ⟨x3_1, x4_1, rfl, HA, HK1, HO_3, HB⟩ := hrel
  cases gk with
  | zero => exact absurd HA.out (by simp [parallaxref01_other.l0])
  | succ k1 =>
   have H := HA.out; clear HA; simp only [parallaxref01_other.l0] at H
   by_cases c2 : x4_1 < (l0.length : Int)
   ·rw [if_pos c2] at H; have c2b0 : decide (x4_1 < (l0.length : Int)) = true := decide_eq_true c2; clear c2
    by_cases c3 : 0 ≤ x4_1
    ·rw [if_pos c3] at H; have c3b0 : decide (0 ≤ x4_1) = true := decide_eq_true c3; clear c3
     by_cases c4 : x3_1.length < 17592186044416
     ·rw [if_pos c4] at H; have LMc4 := Aside0.mk c4; clear c4; obtain ⟨y227, hy227⟩ : ∃ y_ : List Int, y_ = (x3_1 ++ [wrap64 (1 - (rd l0 x4_1))]) := ⟨_, rfl⟩; (first | replace H := hs hy227 H | rw [← hy227] at H)
      have Ny227 := Aside0.mk hy227; clear hy227; have H' := Aside0.mk H; clear H
      have p226 : 0 ≤ (x4_1 : Int) := of_decide_eq_true pa
      have q226 : x4_1 < (l0.length : Int) := of_decide_eq_true pa
      obtain ⟨ad226, e226, hx226_0⟩ := Kd.at_int HR0.out x4_1 p226 q226
      cases e226
      replace hx226_0 := pc HB.out hx226_0; replace p226 := eq_true p226; replace q226 := eq_true q226
      go_wp2_with (first | ((with_reducible refine gate_builtin (b := .append) (xs := #[.tmp 11, .tmp 17]) rfl ?_); at_builtin; refine Kd.R_append (Kd.int .i64) (w0 := w) w.heap.size rfl (.tmp 11) (.tmp 17) 84 3 (.int .i64 0) 8 rfl Tryd.underlying84 info3 rfl (by decide) (by omega) u3 x3_1 (wrap64 (1 - (rd l0 x4_1))) [.int .i64 (wrap64 (1 - (rd l0 x4_1)))] (fun _ => True) (fun _ => False) rfl rfl ?aP (fun _ hk => hk.elim) ?aF ?aO ?aB ?aS ?aL ?_; (case aP => exact rfl); (case aB => exact bl); (case aF => exact (fun _ _ => trivial)); (case aO => exact (bR HO_3.out)); (case aS => exact (below_size bl)); (case aL => have := LMc4.out; omega); intro v228 w5 ho hb hg hat; rw [← Ny227.out] at ho; have n0_ := Aside0.mk (hb); have n1_ := Aside0.mk (ho); clear HB HO_3; have HB := n0_; have HO229 := n1_; clear n0_ n1_; clear ho hb hg hat))
      go_roundg k1
      case measure => have := HK1.out; omega
      case rel => exact ⟨(y227), (wrap64 (x4_1 + 1)), pr, H', ⟨by have := HK1.out; omega⟩, ⟨by (with_reducible repeat (first | apply Kd.R_alloc | apply Kd.R_drewN | apply Kd.R_drew)); exact HO229.out⟩, ⟨bl⟩⟩
     ·rw [if_neg c4] at H; exact absurd H (by simp)
    ·rw [if_neg c3] at H; exact absurd H (by simp)
   ·rw [if_neg c2] at H; have c2b0 : decide (x4_1 < (l0.length : Int)) = false := decide_eq_false c2; clear c2; obtain rfl := Option.some.inj H; go_wp2; go_ret; exact ⟨_, pe, by (with_reducible repeat (first | apply Kd.R_alloc | apply Kd.R_drewN | apply Kd.R_drew)); exact HO_3.out, bl⟩

/-! ### parallaxref01_Sub: function 65 -/
def parallaxref01_Sub.f (k : Nat) (a0 : Int) (a1 : Int) : Option (Int) := (parallaxref01_Bits.f k a0).bind fun t230 => ((parallaxref01_Bits.f k a1).bind fun t233 => ((parallaxref01_other.f k t233).bind fun t236 => ((parallaxref01_plus.f k t230 t236 1).bind fun t239 => ((parallaxref01_number.f k t239).bind fun t242 => (some t242)))))
set_option maxHeartbeats 8000000 in
set_option maxRecDepth 100000 in
theorem parallaxref01_Sub.calls (k : Nat) (a0 : Int) (a1 : Int) (r : Int) (w : World) (h : parallaxref01_Sub.f k a0 a1 = some r) :
  Calls Tryd.prog 65 #[.int .i64 a0, .int .i64 a1] w fun e w' => e = .returned (.int .i64 r) ∧ Below w.heap.size w w' := by
 have HB := Aside0.mk (Below.refl w.heap.size w); have H : ((parallaxref01_Bits.f k a0).bind fun t230 => ((parallaxref01_Bits.f k a1).bind fun t233 => ((parallaxref01_other.f k t233).bind fun t236 => ((parallaxref01_plus.f k t230 t236 1).bind fun t239 => ((parallaxref01_number.f k t239).bind fun t242 => (some t242)))))) = some r := h; clear h; replace H := Option.bind_eq_some_iff.mp H; obtain ⟨t230, A30, H⟩ := H; have A3 := Aside0.mk A30; clear A30; replace H := Option.bind_eq_some_iff.mp H; obtain ⟨t233, A40, H⟩ := H; have A4 := Aside0.mk A40; clear A40; replace H := Option.bind_eq_some_iff.mp H; obtain ⟨t236, A50, H⟩ := H; have A5 := Aside0.mk A50; clear A50; replace H := Option.bind_eq_some_iff.mp H; obtain ⟨t239, A60, H⟩ := H; have A6 := Aside0.mk A60; clear A60; replace H := Option.bind_eq_some_iff.mp H; obtain ⟨t242, A70, H⟩ := H; have A7 := Aside0.mk A70; clear A70; obtain rfl := Option.some.inj H; go_enter Tryd.func65, Tryd.ntmps65
 go_wp2_with (first | ((with_reducible refine gate_callee (f := 78) rfl ?_); refine goesL_ (some 6) rfl rfl Tryd.func78 (by kernel_rfl) rfl #[.int .i64 a0] rfl (by (try simp only [List.map_toArray, List.map_cons, List.map_nil]); first | done | rfl | (simp only [List.length_drop, List.length_take]; rfl)) ?_; (with_reducible refine (parallaxref01_Bits.calls k a0 t230 _ A3.out).mono ?_); rintro e w8 ⟨v231, rfl, ho0, hb⟩; refine ⟨_, rfl, ?_⟩; have n0_ := Aside0.mk (Kd.R_lower ho0 (below_size bl)); have n1_ := Aside0.mk (below_step bl hb); clear HB; have HO232 := n0_; have HB := n1_; clear n0_ n1_; (try clear hb); (try clear hb2); (try clear hk); (try clear hi); (try clear ho0)) | ((with_reducible refine gate_callee (f := 78) rfl ?_); refine goesL_ (some 8) rfl rfl Tryd.func78 (by kernel_rfl) rfl #[.int .i64 a1] rfl (by (try simp only [List.map_toArray, List.map_cons, List.map_nil]); first | done | rfl | (simp only [List.length_drop, List.length_take]; rfl)) ?_; (with_reducible refine (parallaxref01_Bits.calls k a1 t233 _ A4.out).mono ?_); rintro e w9 ⟨v234, rfl, ho0, hb⟩; refine ⟨_, rfl, ?_⟩; have n0_ := Aside0.mk (Kd.R_elder' (bR HO232.out) (Kd.R_base ho0) hb); have n1_ := Aside0.mk (Kd.R_lower (Kd.R_new' ho0 (Kd.R_lt (bR HO232.out))) (below_size bl)); have n2_ := Aside0.mk (below_step bl hb); clear HO232 HB; have HO232 := n0_; have HO235 := n1_; have HB := n2_; clear n0_ n1_ n2_; (try clear hb); (try clear hb2); (try clear hk); (try clear hi); (try clear ho0); obtain ⟨Ao10, co10, eo10⟩ := Kd.R_slice HO235.out; subst eo10) | ((with_reducible refine gate_callee (f := 79) rfl ?_); refine goesL_ (some 9) rfl rfl Tryd.func79 (by kernel_rfl) rfl #[.slice Ao10 t233.length co10] rfl (by (try simp only [List.map_toArray, List.map_cons, List.map_nil]); first | done | rfl | (simp only [List.length_drop, List.length_take]; rfl)) ?_; (with_reducible refine (parallaxref01_other.calls k _ _ t233 t236 _ ?side1 ?side2 A5.out).mono ?_); (case side1 => repeat (first | exact (Kd.R_reads' HO235.out).2.2 | (with_reducible refine Kd.C_alloc ?_ _) | (with_reducible refine Kd.C_drewN ?_ _) | (with_reducible refine Kd.C_drew ?_))); (case side2 => exact (Kd.R_reads' HO235.out).2.1); rintro e w11 ⟨v237, rfl, ho0, hb⟩; refine ⟨_, rfl, ?_⟩; have n0_ := Aside0.mk (Kd.R_elder' (bR HO232.out) (Kd.R_base ho0) hb); have n1_ := Aside0.mk (Kd.R_elder' (bR HO235.out) (Kd.R_base ho0) hb); have n2_ := Aside0.mk (Kd.R_lower (Kd.R_new' (Kd.R_new' ho0 (Kd.R_lt (bR HO232.out))) (Kd.R_lt (bR HO235.out))) (below_size bl)); have n3_ := Aside0.mk (below_step bl hb); clear HO232 HO235 HB; have HO232 := n0_; have HO235 := n1_; have HO238 := n2_; have HB := n3_; clear n0_ n1_ n2_ n3_; (try clear hb); (try clear hb2); (try clear hk); (try clear hi); (try clear ho0); obtain ⟨Ao12, co12, eo12⟩ := Kd.R_slice HO232.out; subst eo12; obtain ⟨Ao13, co13, eo13⟩ := Kd.R_slice HO238.out; subst eo13) | ((with_reducible refine gate_callee (f := 77) rfl ?_); refine goesL_ (some 10) rfl rfl Tryd.func77 (by kernel_rfl) rfl #[.slice Ao12 t230.length co12, .slice Ao13 t236.length co13, .int .i64 1] rfl (by (try simp only [List.map_toArray, List.map_cons, List.map_nil]); first | done | rfl | (simp only [List.length_drop, List.length_take]; rfl)) ?_; (with_reducible refine (parallaxref01_plus.calls k _ _ t230 _ _ t236 1 t239 _ ?side1 ?side2 ?side3 ?side4 A6.out).mono ?_); (case side1 => repeat (first | exact (Kd.R_reads' HO232.out).2.2 | (with_reducible refine Kd.C_alloc ?_ _) | (with_reducible refine Kd.C_drewN ?_ _) | (with_reducible refine Kd.C_drew ?_))); (case side2 => exact (Kd.R_reads' HO232.out).2.1); (case side3 => repeat (first | exact (Kd.R_reads' HO238.out).2.2 | (with_reducible refine Kd.C_alloc ?_ _) | (with_reducible refine Kd.C_drewN ?_ _) | (with_reducible refine Kd.C_drew ?_))); (case side4 => exact (Kd.R_reads' HO238.out).2.1); rintro e w14 ⟨v240, rfl, ho0, hb⟩; refine ⟨_, rfl, ?_⟩; have n0_ := Aside0.mk (Kd.R_elder' (bR HO232.out) (Kd.R_base ho0) hb); have n1_ := Aside0.mk (Kd.R_elder' (bR HO235.out) (Kd.R_base ho0) hb); have n2_ := Aside0.mk (Kd.R_elder' (bR HO238.out) (Kd.R_base ho0) hb); have n3_ := Aside0.mk (Kd.R_lower (Kd.R_new' (Kd.R_new' (Kd.R_new' ho0 (Kd.R_lt (bR HO232.out))) (Kd.R_lt (bR HO235.out))) (Kd.R_lt (bR HO238.out))) (below_size bl)); have n4_ := Aside0.mk (below_step bl hb); clear HO232 HO235; clear HO238 HB; have HO232 := n0_; have HO235 := n1_; have HO238 := n2_; have HO241 := n3_; have HB := n4_; clear n0_ n1_ n2_ n3_ n4_; (try clear hb); (try clear hb2); (try clear hk); (try clear hi); (try clear ho0); obtain ⟨Ao15, co15, eo15⟩ := Kd.R_slice HO241.out; subst eo15) | ((with_reducible refine gate_callee (f := 76) rfl ?_); refine goesL_ (some 11) rfl rfl Tryd.func76 (by kernel_rfl) rfl #[.slice Ao15 t239.length co15] rfl (by (try simp only [List.map_toArray, List.map_cons, List.map_nil]); first | done | rfl | (simp only [List.length_drop, List.length_take]; rfl)) ?_; (with_reducible refine (parallaxref01_number.calls k _ _ t239 t242 _ ?side1 ?side2 A7.out).mono ?_); (case side1 => repeat (first | exact (Kd.R_reads' HO241.out).2.2 | (with_reducible refine Kd.C_alloc ?_ _) | (with_reducible refine Kd.C_drewN ?_ _) | (with_reducible refine Kd.C_drew ?_))); (case side2 => exact (Kd.R_reads' HO241.out).2.1); rintro e w' ⟨rfl, ⟨nd, rfl⟩⟩; refine ⟨_, rfl, ?_⟩))
 go_ret; exact ⟨pe, bl⟩

end Go.Proofs.YthckiolgpgplpaaDoor.P
