import Derived.Test.YthckiolgpgplpaaDoorPx0
namespace Go.Proofs.YthckiolgpgplpaaDoor.YD
set_option maxHeartbeats 8000000
set_option maxRecDepth 100000
open Go.RowKit YC YA YB
attribute [local go_sem] eF eD fD fE dS dU eG eO
set_option linter.unusedVariables false
set_option linter.unusedSimpArgs false
def bP.l0 : Nat → List (S46) → Int → Int → Int → Option (Int)
 | 0, _, _, _, _ => none
 | k + 1, x0, x1, x5, x6 => if x6 < (x0.length : Int) then (if x5 ≤ x1 then (if 0 ≤ x6 then (bP.l0 k x0 x1 (wrap64 ((wrap64 (x5 + 1)) + (((au x0 x6).f0).length : Int))) (wrap64 (x6 + 1))) else (none)) else (some x5)) else (some x5)
def bP.f (k : Nat) (l0 : List (S46)) (a1 : Int) : Option (Int) := bP.l0 k l0 a1 0 0
theorem bP.calls (k : Nat) (A0 : Option Addr) (c0 : Nat) (l0 : List (S46)) (a1 : Int) (r : Int) (w : World) (hr0 : Kd.C k46 w A0 l0.length l0) (hc0 : l0.length ≤ c0) (h : bP.f k l0 a1 = some r) :
  Calls Tryd.prog 45 #[.slice A0 l0.length c0, .int .i64 a1] w fun e w' => e = .returned (.int .i64 r) ∧ aG w w' := by
 have HR0 := aa.mk hr0; have HC0 := aa.mk hc0; clear hr0 hc0; have H : (bP.l0 k l0 a1 0 0) = some r := h; clear h; have H' := aa.mk H; clear H; go_enter Tryd.func45, Tryd.ntmps45; go_wp2
 go_loopg [5, 6] k (fun kq v5 v6 w' => ∃ (x5_1 : Int) (x6_1 : Int), v5 = .int .i64 x5_1 ∧ v6 = .int .i64 x6_1 ∧ aa (bP.l0 kq l0 a1 x5_1 x6_1 = some r) ∧ aa (kq ≤ k) ∧ aG w w')
 case atStart => exact ⟨(0), (0), pr, pr, H', ⟨Zd _⟩, by repeat (first | exact aG.refl _ | apply aG.step)⟩
 case round =>
  clear H'; obtain ⟨x5_1, x6_1, rfl, rfl, HA, HK1, ⟨m1, rfl⟩⟩ := hrel
  cases gk with
  | zero => exact absurd HA.out (by simp [bP.l0])
  | succ k1 =>
   have H := HA.out; clear HA; simp only [bP.l0] at H
   by_cases c3 : x6_1 < (l0.length : Int)
   ·rw [if_pos c3] at H; have c3b0 := Za c3; clear c3
    by_cases c4 : x5_1 ≤ a1
    ·rw [if_pos c4] at H; have c4b0 := Za c4; clear c4
     replace H := it (c := 0 ≤ x6_1) H; obtain ⟨c5, H⟩ := H; have c5b0 := Za c5; clear c5; have H' := aa.mk H; clear H
     have p208 : 0 ≤ (x6_1 : Int) := Zc pa
     have q208 : x6_1 < (l0.length : Int) := Zc pa
     obtain ⟨ad208, A208_0, c208_0, e208, hx208_0, hx208_1, hx208_2, hx208_3, hl208_0, hi208_0⟩ := eZ HR0.out x6_1 p208 q208
     cases e208
     have HR208_0 := aa.mk hi208_0; have HC208_0 := aa.mk hl208_0; clear hi208_0 hl208_0; replace p208 := eq_true p208; replace q208 := eq_true q208; go_wp2
     go_roundg k1
     case measure => have := HK1.out; omega
     case rel => exact ⟨(wrap64 ((wrap64 (x5_1 + 1)) + (((au l0 x6_1).f0).length : Int))), (wrap64 (x6_1 + 1)), pr, pr, H', ⟨by have := HK1.out; omega⟩, by repeat (first | exact aG.refl _ | apply aG.step)⟩
    ·rw [if_neg c4] at H; have c4b0 := Zb c4; clear c4; obtain rfl := Zg H; go_wp2; go_ret; exact ⟨by first | rfl | (simp; done) | (simp [*]; done), by repeat (first | exact aG.refl _ | apply aG.step)⟩
   ·rw [if_neg c3] at H; have c3b0 := Zb c3; clear c3; obtain rfl := Zg H; go_wp2; go_ret; exact ⟨by first | rfl | (simp; done) | (simp [*]; done), by repeat (first | exact aG.refl _ | apply aG.step)⟩
mutual
def aC.j0 : Nat → List (S46) → Bool → Option (Bool)
 | 0, _, _ => none
 | k + 1, x0, x11 => if x11 = true then (some true) else (aC.l0 k x0 0)
def aC.l0 : Nat → List (S46) → Int → Option (Bool)
 | 0, _, _ => none
 | k + 1, x0, x3 => if x3 < (x0.length : Int) then (if 0 ≤ x3 then (if ((au x0 x3).f1) > 300 then (if ((au x0 x3).f1) ≤ 65536 then (some true) else (aC.l0 k x0 (wrap64 (x3 + 1)))) else (aC.l0 k x0 (wrap64 (x3 + 1)))) else (none)) else (some false)
end
def aC.f (k : Nat) (l0 : List (S46)) : Option (Bool) := if (l0.length : Int) > 50 then (aC.j0 k l0 true) else ((bP.f k l0 1000).bind fun t209 => (aC.j0 k l0 (decide (t209 > 1000))))
theorem aC.calls (k : Nat) (A0 : Option Addr) (c0 : Nat) (l0 : List (S46)) (r : Bool) (w : World) (hr0 : Kd.C k46 w A0 l0.length l0) (hc0 : l0.length ≤ c0) (h : aC.f k l0 = some r) :
  Calls Tryd.prog 25 #[.slice A0 l0.length c0] w fun e w' => e = .returned (.bool r) ∧ aG w w' := by
 have HR0 := aa.mk hr0; have HC0 := aa.mk hc0; clear hr0 hc0; have H : (if (l0.length : Int) > 50 then (aC.j0 k l0 true) else ((bP.f k l0 1000).bind fun t209 => (aC.j0 k l0 (decide (t209 > 1000))))) = some r := h; clear h; have HC2 := aa.mk H; clear H; go_enter Tryd.func25, Tryd.ntmps25
 go_upto_region 1 with (fail)
 go_cut [11] (fun v11 wc => ∃ (kq : Nat) (x11_1 : Bool), v11 = .bool x11_1 ∧ aa (aC.j0 kq l0 x11_1 = some r) ∧ aa (kq ≤ k) ∧ aG w wc)
 case first =>
  have H := HC2.out; clear HC2
  by_cases c3 : (l0.length : Int) > 50
  ·rw [if_pos c3] at H; have c3b0 : decide (50 < (l0.length : Int)) = true := Za c3; have c3b1 : decide (50 < l0.length) = true := Za (by omega); clear c3; (first | rw [c3b0] | (simp only [dI, dK]; rw [c3b0]) | skip); have H' := aa.mk H; clear H; go_wp2; go_meet
   case rel => exact ⟨_, (true), pr, H', ⟨by first | omega | exact Zd _⟩, by repeat (first | exact aG.refl _ | apply aG.step)⟩
  ·rw [if_neg c3] at H; have c3b0 : decide (50 < (l0.length : Int)) = false := Zb c3; have c3b1 : decide (50 < l0.length) = false := Zb (by omega); clear c3; (first | rw [c3b0] | (simp only [dI, dK]; rw [c3b0]) | skip); replace H := ob H; obtain ⟨t209, A4, H⟩ := H; have H' := aa.mk H; clear H
   go_wp2_with (first | (go_at_call 45; (with_reducible refine (bP.calls k _ _ l0 1000 t209 _ ?side1 ?side2 A4.out).mono ?_); (case side1 => repeat (first | exact HR0.out | (with_reducible refine Kd.fq ?_ _) | (with_reducible refine Kd.C_drewN ?_ _) | (with_reducible refine Kd.C_drew ?_))); (case side2 => exact HC0.out); rintro e w' ⟨rfl, ⟨nd, rfl⟩⟩))
   go_meet
   case rel => exact ⟨_, (decide (t209 > 1000)), pr, H', ⟨by first | omega | exact Zd _⟩, by repeat (first | exact aG.refl _ | apply aG.step)⟩
 case rest =>
  clear HC2; obtain ⟨kq, x11_1, rfl, HA, HJ1, ⟨mc1, rfl⟩⟩ := hcut
  cases kq with
  | zero => exact absurd HA.out (by simp [aC.j0])
  | succ kj1 =>
   have H := HA.out; clear HA; simp only [aC.j0] at H
   by_cases c5 : x11_1 = true
   ·subst c5; rw [if_pos rfl] at H; obtain rfl := Zg H; go_wp2; go_ret; exact ⟨by first | rfl | (simp; done) | (simp [*]; done), by repeat (first | exact aG.refl _ | apply aG.step)⟩
   ·replace c5 := Zj c5; subst c5; rw [if_neg (show ¬ (false = true) by decide)] at H; have H' := aa.mk H; clear H; go_wp2
    go_loopg [3] kj1 (fun kq v3 w' => ∃ (x3_2 : Int), v3 = .int .i64 x3_2 ∧ aa (aC.l0 kq l0 x3_2 = some r) ∧ aa (kq ≤ kj1) ∧ aG w w')
    case atStart => exact ⟨(0), pr, H', ⟨Zd _⟩, by repeat (first | exact aG.refl _ | apply aG.step)⟩
    case round =>
     clear H'; obtain ⟨x3_2, rfl, HA, HK2, ⟨m2, rfl⟩⟩ := hrel
     cases gk with
     | zero => exact absurd HA.out (by simp [aC.l0])
     | succ k2 =>
      have H := HA.out; clear HA; simp only [aC.l0] at H
      by_cases c6 : x3_2 < (l0.length : Int)
      ·rw [if_pos c6] at H; have c6b0 := Za c6; clear c6
       replace H := it (c := 0 ≤ x3_2) H; obtain ⟨c7, H⟩ := H; have c7b0 := Za c7; clear c7; have HH_ := aa.mk H; clear H
       have p210 : 0 ≤ (x3_2 : Int) := Zc pa
       have q210 : x3_2 < (l0.length : Int) := Zc pa
       obtain ⟨ad210, A210_0, c210_0, e210, hx210_0, hx210_1, hx210_2, hx210_3, hl210_0, hi210_0⟩ := eZ HR0.out x3_2 p210 q210
       cases e210
       have HR210_0 := aa.mk hi210_0; have HC210_0 := aa.mk hl210_0; clear hi210_0 hl210_0; replace p210 := eq_true p210; replace q210 := eq_true q210; have H := HH_.out; clear HH_
       by_cases c8 : ((au l0 x3_2).f1) > 300
       ·rw [if_pos c8] at H; have c8b0 : decide (300 < ((au l0 x3_2).f1)) = true := Za c8; clear c8; have HH_ := aa.mk H; clear H
        have p211 : 0 ≤ (x3_2 : Int) := Zc pa
        have q211 : x3_2 < (l0.length : Int) := Zc pa
        obtain ⟨ad211, A211_0, c211_0, e211, hx211_0, hx211_1, hx211_2, hx211_3, hl211_0, hi211_0⟩ := eZ HR0.out x3_2 p211 q211; obtain rfl : ad210 = ad211 := (by injection e211); have HR211_0 := aa.mk hi211_0; have HC211_0 := aa.mk hl211_0; clear hi211_0 hl211_0; replace p211 := eq_true p211; replace q211 := eq_true q211; have ea_ := Zg (hx210_0.symm.trans hx211_0)
        injection ea_ with ea_ en_ ec_
        subst ea_; subst ec_; clear en_; have H := HH_.out; clear HH_
        by_cases c9 : ((au l0 x3_2).f1) ≤ 65536
        ·rw [if_pos c9] at H; have c9b0 := Za c9; clear c9; obtain rfl := Zg H; go_wp2; go_ret; exact ⟨by first | rfl | (simp; done) | (simp [*]; done), by repeat (first | exact aG.refl _ | apply aG.step)⟩
        ·rw [if_neg c9] at H; have c9b0 := Zb c9; clear c9; have H' := aa.mk H; clear H; go_wp2
         go_roundg k2
         case measure => have := HJ1.out; have := HK2.out; omega
         case rel => exact ⟨(wrap64 (x3_2 + 1)), pr, H', ⟨by have := HJ1.out; have := HK2.out; omega⟩, by repeat (first | exact aG.refl _ | apply aG.step)⟩
       ·rw [if_neg c8] at H; have c8b0 : decide (300 < ((au l0 x3_2).f1)) = false := Zb c8; clear c8; have H' := aa.mk H; clear H; go_wp2
        go_roundg k2
        case measure => have := HJ1.out; have := HK2.out; omega
        case rel => exact ⟨(wrap64 (x3_2 + 1)), pr, H', ⟨by have := HJ1.out; have := HK2.out; omega⟩, by repeat (first | exact aG.refl _ | apply aG.step)⟩
      ·rw [if_neg c6] at H; have c6b0 := Zb c6; clear c6; obtain rfl := Zg H; go_wp2; go_ret; exact ⟨by first | rfl | (simp; done) | (simp [*]; done), by repeat (first | exact aG.refl _ | apply aG.step)⟩
def bV.f (a0 : Int) : Option (ByteArray × Int × Int × Int) := (some (([(⟨(⟨#[]⟩ : ByteArray), 0, 0, 0⟩ : S94), (⟨(⟨#[112, 117, 115, 104]⟩ : ByteArray), 1, 0, 1⟩ : S94), (⟨(⟨#[108, 111, 97, 100]⟩ : ByteArray), 1, 0, 1⟩ : S94), (⟨(⟨#[115, 116, 111, 114, 101]⟩ : ByteArray), 1, 1, 0⟩ : S94), (⟨(⟨#[105, 110, 100, 101, 120]⟩ : ByteArray), 2, 1, 1⟩ : S94), (⟨(⟨#[112, 117, 116]⟩ : ByteArray), 2, 2, 0⟩ : S94), (⟨(⟨#[99, 108, 101, 97, 114]⟩ : ByteArray), 2, 0, 0⟩ : S94), (⟨(⟨#[97, 100, 100]⟩ : ByteArray), 0, 2, 1⟩ : S94), (⟨(⟨#[115, 117, 98]⟩ : ByteArray), 0, 2, 1⟩ : S94), (⟨(⟨#[109, 117, 108]⟩ : ByteArray), 0, 2, 1⟩ : S94), (⟨(⟨#[100, 105, 118]⟩ : ByteArray), 0, 2, 1⟩ : S94), (⟨(⟨#[109, 111, 100]⟩ : ByteArray), 0, 2, 1⟩ : S94), (⟨(⟨#[108, 101, 115, 115]⟩ : ByteArray), 0, 2, 1⟩ : S94), (⟨(⟨#[109, 111, 115, 116]⟩ : ByteArray), 0, 2, 1⟩ : S94), (⟨(⟨#[115, 97, 109, 101]⟩ : ByteArray), 0, 2, 1⟩ : S94), (⟨(⟨#[110, 111, 116]⟩ : ByteArray), 0, 1, 1⟩ : S94), (⟨(⟨#[110, 101, 103]⟩ : ByteArray), 0, 1, 1⟩ : S94), (⟨(⟨#[106, 117, 109, 112]⟩ : ByteArray), 1, 0, 0⟩ : S94), (⟨(⟨#[122, 101, 114, 111]⟩ : ByteArray), 1, 1, 0⟩ : S94), (⟨(⟨#[99, 97, 108, 108]⟩ : ByteArray), 2, 0, 0⟩ : S94), (⟨(⟨#[108, 101, 97, 118, 101]⟩ : ByteArray), 1, 0, 0⟩ : S94), (⟨(⟨#[112, 114, 105, 110, 116]⟩ : ByteArray), 0, 1, 0⟩ : S94), (⟨(⟨#[114, 101, 97, 100]⟩ : ByteArray), 0, 0, 1⟩ : S94), (⟨(⟨#[116, 101, 115, 116]⟩ : ByteArray), 0, 1, 0⟩ : S94), (⟨(⟨#[109, 97, 114, 107]⟩ : ByteArray), 2, 0, 0⟩ : S94), (⟨(⟨#[100, 114, 111, 112]⟩ : ByteArray), 0, 1, 0⟩ : S94)] : List (S94)) : List (S94))).bind fun y213 => (if a0 < 1 then (some ((⟨#[]⟩ : ByteArray), 0, 0, 0)) else (if a0 ≥ (y213.length : Int) then (some ((⟨#[]⟩ : ByteArray), 0, 0, 0)) else (if 0 ≤ a0 then (if a0 < (y213.length : Int) then (some ((gY y213 a0).f0, (gY y213 a0).f1, (gY y213 a0).f2, (gY y213 a0).f3)) else (none)) else (none))))
theorem bV.calls (a0 : Int) (r1 : ByteArray) (r2 : Int) (r3 : Int) (r4 : Int) (w : World) (h : bV.f a0 = some (r1, r2, r3, r4)) :
  Calls Tryd.prog 54 #[.int .i64 a0] w fun e w' => e = .returned (.agg #[.string r1, .int .i64 r2, .int .i64 r3, .int .i64 r4]) ∧ Below w.heap.size w w' := by
 have hu94 := Tryd.underlying94; have HB := aa.mk (Below.refl w.heap.size w); have H : ((some (([(⟨(⟨#[]⟩ : ByteArray), 0, 0, 0⟩ : S94), (⟨(⟨#[112, 117, 115, 104]⟩ : ByteArray), 1, 0, 1⟩ : S94), (⟨(⟨#[108, 111, 97, 100]⟩ : ByteArray), 1, 0, 1⟩ : S94), (⟨(⟨#[115, 116, 111, 114, 101]⟩ : ByteArray), 1, 1, 0⟩ : S94), (⟨(⟨#[105, 110, 100, 101, 120]⟩ : ByteArray), 2, 1, 1⟩ : S94), (⟨(⟨#[112, 117, 116]⟩ : ByteArray), 2, 2, 0⟩ : S94), (⟨(⟨#[99, 108, 101, 97, 114]⟩ : ByteArray), 2, 0, 0⟩ : S94), (⟨(⟨#[97, 100, 100]⟩ : ByteArray), 0, 2, 1⟩ : S94), (⟨(⟨#[115, 117, 98]⟩ : ByteArray), 0, 2, 1⟩ : S94), (⟨(⟨#[109, 117, 108]⟩ : ByteArray), 0, 2, 1⟩ : S94), (⟨(⟨#[100, 105, 118]⟩ : ByteArray), 0, 2, 1⟩ : S94), (⟨(⟨#[109, 111, 100]⟩ : ByteArray), 0, 2, 1⟩ : S94), (⟨(⟨#[108, 101, 115, 115]⟩ : ByteArray), 0, 2, 1⟩ : S94), (⟨(⟨#[109, 111, 115, 116]⟩ : ByteArray), 0, 2, 1⟩ : S94), (⟨(⟨#[115, 97, 109, 101]⟩ : ByteArray), 0, 2, 1⟩ : S94), (⟨(⟨#[110, 111, 116]⟩ : ByteArray), 0, 1, 1⟩ : S94), (⟨(⟨#[110, 101, 103]⟩ : ByteArray), 0, 1, 1⟩ : S94), (⟨(⟨#[106, 117, 109, 112]⟩ : ByteArray), 1, 0, 0⟩ : S94), (⟨(⟨#[122, 101, 114, 111]⟩ : ByteArray), 1, 1, 0⟩ : S94), (⟨(⟨#[99, 97, 108, 108]⟩ : ByteArray), 2, 0, 0⟩ : S94), (⟨(⟨#[108, 101, 97, 118, 101]⟩ : ByteArray), 1, 0, 0⟩ : S94), (⟨(⟨#[112, 114, 105, 110, 116]⟩ : ByteArray), 0, 1, 0⟩ : S94), (⟨(⟨#[114, 101, 97, 100]⟩ : ByteArray), 0, 0, 1⟩ : S94), (⟨(⟨#[116, 101, 115, 116]⟩ : ByteArray), 0, 1, 0⟩ : S94), (⟨(⟨#[109, 97, 114, 107]⟩ : ByteArray), 2, 0, 0⟩ : S94), (⟨(⟨#[100, 114, 111, 112]⟩ : ByteArray), 0, 1, 0⟩ : S94)] : List (S94)) : List (S94))).bind fun y213 => (if a0 < 1 then (some ((⟨#[]⟩ : ByteArray), 0, 0, 0)) else (if a0 ≥ (y213.length : Int) then (some ((⟨#[]⟩ : ByteArray), 0, 0, 0)) else (if 0 ≤ a0 then (if a0 < (y213.length : Int) then (some ((gY y213 a0).f0, (gY y213 a0).f1, (gY y213 a0).f2, (gY y213 a0).f3)) else (none)) else (none))))) = some (r1, r2, r3, r4) := h; clear h; obtain ⟨y213, hy213⟩ : ∃ y_ : List (S94), y_ = (([(⟨(⟨#[]⟩ : ByteArray), 0, 0, 0⟩ : S94), (⟨(⟨#[112, 117, 115, 104]⟩ : ByteArray), 1, 0, 1⟩ : S94), (⟨(⟨#[108, 111, 97, 100]⟩ : ByteArray), 1, 0, 1⟩ : S94), (⟨(⟨#[115, 116, 111, 114, 101]⟩ : ByteArray), 1, 1, 0⟩ : S94), (⟨(⟨#[105, 110, 100, 101, 120]⟩ : ByteArray), 2, 1, 1⟩ : S94), (⟨(⟨#[112, 117, 116]⟩ : ByteArray), 2, 2, 0⟩ : S94), (⟨(⟨#[99, 108, 101, 97, 114]⟩ : ByteArray), 2, 0, 0⟩ : S94), (⟨(⟨#[97, 100, 100]⟩ : ByteArray), 0, 2, 1⟩ : S94), (⟨(⟨#[115, 117, 98]⟩ : ByteArray), 0, 2, 1⟩ : S94), (⟨(⟨#[109, 117, 108]⟩ : ByteArray), 0, 2, 1⟩ : S94), (⟨(⟨#[100, 105, 118]⟩ : ByteArray), 0, 2, 1⟩ : S94), (⟨(⟨#[109, 111, 100]⟩ : ByteArray), 0, 2, 1⟩ : S94), (⟨(⟨#[108, 101, 115, 115]⟩ : ByteArray), 0, 2, 1⟩ : S94), (⟨(⟨#[109, 111, 115, 116]⟩ : ByteArray), 0, 2, 1⟩ : S94), (⟨(⟨#[115, 97, 109, 101]⟩ : ByteArray), 0, 2, 1⟩ : S94), (⟨(⟨#[110, 111, 116]⟩ : ByteArray), 0, 1, 1⟩ : S94), (⟨(⟨#[110, 101, 103]⟩ : ByteArray), 0, 1, 1⟩ : S94), (⟨(⟨#[106, 117, 109, 112]⟩ : ByteArray), 1, 0, 0⟩ : S94), (⟨(⟨#[122, 101, 114, 111]⟩ : ByteArray), 1, 1, 0⟩ : S94), (⟨(⟨#[99, 97, 108, 108]⟩ : ByteArray), 2, 0, 0⟩ : S94), (⟨(⟨#[108, 101, 97, 118, 101]⟩ : ByteArray), 1, 0, 0⟩ : S94), (⟨(⟨#[112, 114, 105, 110, 116]⟩ : ByteArray), 0, 1, 0⟩ : S94), (⟨(⟨#[114, 101, 97, 100]⟩ : ByteArray), 0, 0, 1⟩ : S94), (⟨(⟨#[116, 101, 115, 116]⟩ : ByteArray), 0, 1, 0⟩ : S94), (⟨(⟨#[109, 97, 114, 107]⟩ : ByteArray), 2, 0, 0⟩ : S94), (⟨(⟨#[100, 114, 111, 112]⟩ : ByteArray), 0, 1, 0⟩ : S94)] : List (S94))) := ⟨_, rfl⟩
 (first | replace H := hs hy213 H | rw [← hy213] at H)
 have Ny213 := aa.mk hy213; clear hy213; have HH_ := aa.mk H; clear H; go_enter Tryd.func54, Tryd.ntmps54
 go_wp2_with (first | ((with_reducible refine aY (N := 2) rfl ?_); (try (refine aH (by rfl) ?_; dsimp only)); refine bx 2 #[.string (⟨#[]⟩ : ByteArray), .int .i64 0, .int .i64 0, .int .i64 0] 94 ?_; intro gb212 hg w3 hbox hb; have n_ := an4 (aj bl hb) (hbox) (bg hg) (bg hg); clear HB; obtain ⟨HB, BK212, GW212, GE212⟩ := n_; clear hb hbox hg) | ((with_reducible refine aY (N := 30) rfl ?_); (try (refine aH (by rfl) ?_; dsimp only)); refine Kd.fJ k94 _ 94 ?hg (N := 30) ?hd (xs := ([(⟨(⟨#[]⟩ : ByteArray), 0, 0, 0⟩ : S94), (⟨(⟨#[112, 117, 115, 104]⟩ : ByteArray), 1, 0, 1⟩ : S94), (⟨(⟨#[108, 111, 97, 100]⟩ : ByteArray), 1, 0, 1⟩ : S94), (⟨(⟨#[115, 116, 111, 114, 101]⟩ : ByteArray), 1, 1, 0⟩ : S94), (⟨(⟨#[105, 110, 100, 101, 120]⟩ : ByteArray), 2, 1, 1⟩ : S94), (⟨(⟨#[112, 117, 116]⟩ : ByteArray), 2, 2, 0⟩ : S94), (⟨(⟨#[99, 108, 101, 97, 114]⟩ : ByteArray), 2, 0, 0⟩ : S94), (⟨(⟨#[97, 100, 100]⟩ : ByteArray), 0, 2, 1⟩ : S94), (⟨(⟨#[115, 117, 98]⟩ : ByteArray), 0, 2, 1⟩ : S94), (⟨(⟨#[109, 117, 108]⟩ : ByteArray), 0, 2, 1⟩ : S94), (⟨(⟨#[100, 105, 118]⟩ : ByteArray), 0, 2, 1⟩ : S94), (⟨(⟨#[109, 111, 100]⟩ : ByteArray), 0, 2, 1⟩ : S94), (⟨(⟨#[108, 101, 115, 115]⟩ : ByteArray), 0, 2, 1⟩ : S94), (⟨(⟨#[109, 111, 115, 116]⟩ : ByteArray), 0, 2, 1⟩ : S94), (⟨(⟨#[115, 97, 109, 101]⟩ : ByteArray), 0, 2, 1⟩ : S94), (⟨(⟨#[110, 111, 116]⟩ : ByteArray), 0, 1, 1⟩ : S94), (⟨(⟨#[110, 101, 103]⟩ : ByteArray), 0, 1, 1⟩ : S94), (⟨(⟨#[106, 117, 109, 112]⟩ : ByteArray), 1, 0, 0⟩ : S94), (⟨(⟨#[122, 101, 114, 111]⟩ : ByteArray), 1, 1, 0⟩ : S94), (⟨(⟨#[99, 97, 108, 108]⟩ : ByteArray), 2, 0, 0⟩ : S94), (⟨(⟨#[108, 101, 97, 118, 101]⟩ : ByteArray), 1, 0, 0⟩ : S94), (⟨(⟨#[112, 114, 105, 110, 116]⟩ : ByteArray), 0, 1, 0⟩ : S94), (⟨(⟨#[114, 101, 97, 100]⟩ : ByteArray), 0, 0, 1⟩ : S94), (⟨(⟨#[116, 101, 115, 116]⟩ : ByteArray), 0, 1, 0⟩ : S94), (⟨(⟨#[109, 97, 114, 107]⟩ : ByteArray), 2, 0, 0⟩ : S94), (⟨(⟨#[100, 114, 111, 112]⟩ : ByteArray), 0, 1, 0⟩ : S94)] : List (S94))) (inner := [.string (⟨#[]⟩ : ByteArray), .int .i64 0, .int .i64 0, .int .i64 0, .string (⟨#[112, 117, 115, 104]⟩ : ByteArray), .int .i64 1, .int .i64 0, .int .i64 1, .string (⟨#[108, 111, 97, 100]⟩ : ByteArray), .int .i64 1, .int .i64 0, .int .i64 1, .string (⟨#[115, 116, 111, 114, 101]⟩ : ByteArray), .int .i64 1, .int .i64 1, .int .i64 0, .string (⟨#[105, 110, 100, 101, 120]⟩ : ByteArray), .int .i64 2, .int .i64 1, .int .i64 1, .string (⟨#[112, 117, 116]⟩ : ByteArray), .int .i64 2, .int .i64 2, .int .i64 0, .string (⟨#[99, 108, 101, 97, 114]⟩ : ByteArray), .int .i64 2, .int .i64 0, .int .i64 0, .string (⟨#[97, 100, 100]⟩ : ByteArray), .int .i64 0, .int .i64 2, .int .i64 1, .string (⟨#[115, 117, 98]⟩ : ByteArray), .int .i64 0, .int .i64 2, .int .i64 1, .string (⟨#[109, 117, 108]⟩ : ByteArray), .int .i64 0, .int .i64 2, .int .i64 1, .string (⟨#[100, 105, 118]⟩ : ByteArray), .int .i64 0, .int .i64 2, .int .i64 1, .string (⟨#[109, 111, 100]⟩ : ByteArray), .int .i64 0, .int .i64 2, .int .i64 1, .string (⟨#[108, 101, 115, 115]⟩ : ByteArray), .int .i64 0, .int .i64 2, .int .i64 1, .string (⟨#[109, 111, 115, 116]⟩ : ByteArray), .int .i64 0, .int .i64 2, .int .i64 1, .string (⟨#[115, 97, 109, 101]⟩ : ByteArray), .int .i64 0, .int .i64 2, .int .i64 1, .string (⟨#[110, 111, 116]⟩ : ByteArray), .int .i64 0, .int .i64 1, .int .i64 1, .string (⟨#[110, 101, 103]⟩ : ByteArray), .int .i64 0, .int .i64 1, .int .i64 1, .string (⟨#[106, 117, 109, 112]⟩ : ByteArray), .int .i64 1, .int .i64 0, .int .i64 0, .string (⟨#[122, 101, 114, 111]⟩ : ByteArray), .int .i64 1, .int .i64 1, .int .i64 0, .string (⟨#[99, 97, 108, 108]⟩ : ByteArray), .int .i64 2, .int .i64 0, .int .i64 0, .string (⟨#[108, 101, 97, 118, 101]⟩ : ByteArray), .int .i64 1, .int .i64 0, .int .i64 0, .string (⟨#[112, 114, 105, 110, 116]⟩ : ByteArray), .int .i64 0, .int .i64 1, .int .i64 0, .string (⟨#[114, 101, 97, 100]⟩ : ByteArray), .int .i64 0, .int .i64 0, .int .i64 1, .string (⟨#[116, 101, 115, 116]⟩ : ByteArray), .int .i64 0, .int .i64 1, .int .i64 0, .string (⟨#[109, 97, 114, 107]⟩ : ByteArray), .int .i64 2, .int .i64 0, .int .i64 0, .string (⟨#[100, 114, 111, 112]⟩ : ByteArray), .int .i64 0, .int .i64 1, .int .i64 0]) (ok := fun _ => True) (okp := fun _ => True) ?hr ?hp (fun _ hk => hk) trivial (Below.refl _ _) (Zd _) (by simp) ?_; (case hd => rfl); (case hg => rfl); (case hr => first | (go_simp; done) | (go_simp; rfl)); (case hp => exact (bJ.c4 (show Kd.M k94 _ _ _ (⟨(⟨#[]⟩ : ByteArray), 0, 0, 0⟩ : S94) [.string (⟨#[]⟩ : ByteArray), .int .i64 0, .int .i64 0, .int .i64 0] from (dQ _ _ _ (⟨(⟨#[]⟩ : ByteArray), 0, 0, 0⟩ : S94) )) (bJ.c4 (show Kd.M k94 _ _ _ (⟨(⟨#[112, 117, 115, 104]⟩ : ByteArray), 1, 0, 1⟩ : S94) [.string (⟨#[112, 117, 115, 104]⟩ : ByteArray), .int .i64 1, .int .i64 0, .int .i64 1] from (dQ _ _ _ (⟨(⟨#[112, 117, 115, 104]⟩ : ByteArray), 1, 0, 1⟩ : S94) )) (bJ.c4 (show Kd.M k94 _ _ _ (⟨(⟨#[108, 111, 97, 100]⟩ : ByteArray), 1, 0, 1⟩ : S94) [.string (⟨#[108, 111, 97, 100]⟩ : ByteArray), .int .i64 1, .int .i64 0, .int .i64 1] from (dQ _ _ _ (⟨(⟨#[108, 111, 97, 100]⟩ : ByteArray), 1, 0, 1⟩ : S94) )) (bJ.c4 (show Kd.M k94 _ _ _ (⟨(⟨#[115, 116, 111, 114, 101]⟩ : ByteArray), 1, 1, 0⟩ : S94) [.string (⟨#[115, 116, 111, 114, 101]⟩ : ByteArray), .int .i64 1, .int .i64 1, .int .i64 0] from (dQ _ _ _ (⟨(⟨#[115, 116, 111, 114, 101]⟩ : ByteArray), 1, 1, 0⟩ : S94) )) (bJ.c4 (show Kd.M k94 _ _ _ (⟨(⟨#[105, 110, 100, 101, 120]⟩ : ByteArray), 2, 1, 1⟩ : S94) [.string (⟨#[105, 110, 100, 101, 120]⟩ : ByteArray), .int .i64 2, .int .i64 1, .int .i64 1] from (dQ _ _ _ (⟨(⟨#[105, 110, 100, 101, 120]⟩ : ByteArray), 2, 1, 1⟩ : S94) )) (bJ.c4 (show Kd.M k94 _ _ _ (⟨(⟨#[112, 117, 116]⟩ : ByteArray), 2, 2, 0⟩ : S94) [.string (⟨#[112, 117, 116]⟩ : ByteArray), .int .i64 2, .int .i64 2, .int .i64 0] from (dQ _ _ _ (⟨(⟨#[112, 117, 116]⟩ : ByteArray), 2, 2, 0⟩ : S94) )) (bJ.c4 (show Kd.M k94 _ _ _ (⟨(⟨#[99, 108, 101, 97, 114]⟩ : ByteArray), 2, 0, 0⟩ : S94) [.string (⟨#[99, 108, 101, 97, 114]⟩ : ByteArray), .int .i64 2, .int .i64 0, .int .i64 0] from (dQ _ _ _ (⟨(⟨#[99, 108, 101, 97, 114]⟩ : ByteArray), 2, 0, 0⟩ : S94) )) (bJ.c4 (show Kd.M k94 _ _ _ (⟨(⟨#[97, 100, 100]⟩ : ByteArray), 0, 2, 1⟩ : S94) [.string (⟨#[97, 100, 100]⟩ : ByteArray), .int .i64 0, .int .i64 2, .int .i64 1] from (dQ _ _ _ (⟨(⟨#[97, 100, 100]⟩ : ByteArray), 0, 2, 1⟩ : S94) )) (bJ.c4 (show Kd.M k94 _ _ _ (⟨(⟨#[115, 117, 98]⟩ : ByteArray), 0, 2, 1⟩ : S94) [.string (⟨#[115, 117, 98]⟩ : ByteArray), .int .i64 0, .int .i64 2, .int .i64 1] from (dQ _ _ _ (⟨(⟨#[115, 117, 98]⟩ : ByteArray), 0, 2, 1⟩ : S94) )) (bJ.c4 (show Kd.M k94 _ _ _ (⟨(⟨#[109, 117, 108]⟩ : ByteArray), 0, 2, 1⟩ : S94) [.string (⟨#[109, 117, 108]⟩ : ByteArray), .int .i64 0, .int .i64 2, .int .i64 1] from (dQ _ _ _ (⟨(⟨#[109, 117, 108]⟩ : ByteArray), 0, 2, 1⟩ : S94) )) (bJ.c4 (show Kd.M k94 _ _ _ (⟨(⟨#[100, 105, 118]⟩ : ByteArray), 0, 2, 1⟩ : S94) [.string (⟨#[100, 105, 118]⟩ : ByteArray), .int .i64 0, .int .i64 2, .int .i64 1] from (dQ _ _ _ (⟨(⟨#[100, 105, 118]⟩ : ByteArray), 0, 2, 1⟩ : S94) )) (bJ.c4 (show Kd.M k94 _ _ _ (⟨(⟨#[109, 111, 100]⟩ : ByteArray), 0, 2, 1⟩ : S94) [.string (⟨#[109, 111, 100]⟩ : ByteArray), .int .i64 0, .int .i64 2, .int .i64 1] from (dQ _ _ _ (⟨(⟨#[109, 111, 100]⟩ : ByteArray), 0, 2, 1⟩ : S94) )) (bJ.c4 (show Kd.M k94 _ _ _ (⟨(⟨#[108, 101, 115, 115]⟩ : ByteArray), 0, 2, 1⟩ : S94) [.string (⟨#[108, 101, 115, 115]⟩ : ByteArray), .int .i64 0, .int .i64 2, .int .i64 1] from (dQ _ _ _ (⟨(⟨#[108, 101, 115, 115]⟩ : ByteArray), 0, 2, 1⟩ : S94) )) (bJ.c4 (show Kd.M k94 _ _ _ (⟨(⟨#[109, 111, 115, 116]⟩ : ByteArray), 0, 2, 1⟩ : S94) [.string (⟨#[109, 111, 115, 116]⟩ : ByteArray), .int .i64 0, .int .i64 2, .int .i64 1] from (dQ _ _ _ (⟨(⟨#[109, 111, 115, 116]⟩ : ByteArray), 0, 2, 1⟩ : S94) )) (bJ.c4 (show Kd.M k94 _ _ _ (⟨(⟨#[115, 97, 109, 101]⟩ : ByteArray), 0, 2, 1⟩ : S94) [.string (⟨#[115, 97, 109, 101]⟩ : ByteArray), .int .i64 0, .int .i64 2, .int .i64 1] from (dQ _ _ _ (⟨(⟨#[115, 97, 109, 101]⟩ : ByteArray), 0, 2, 1⟩ : S94) )) (bJ.c4 (show Kd.M k94 _ _ _ (⟨(⟨#[110, 111, 116]⟩ : ByteArray), 0, 1, 1⟩ : S94) [.string (⟨#[110, 111, 116]⟩ : ByteArray), .int .i64 0, .int .i64 1, .int .i64 1] from (dQ _ _ _ (⟨(⟨#[110, 111, 116]⟩ : ByteArray), 0, 1, 1⟩ : S94) )) (bJ.c4 (show Kd.M k94 _ _ _ (⟨(⟨#[110, 101, 103]⟩ : ByteArray), 0, 1, 1⟩ : S94) [.string (⟨#[110, 101, 103]⟩ : ByteArray), .int .i64 0, .int .i64 1, .int .i64 1] from (dQ _ _ _ (⟨(⟨#[110, 101, 103]⟩ : ByteArray), 0, 1, 1⟩ : S94) )) (bJ.c4 (show Kd.M k94 _ _ _ (⟨(⟨#[106, 117, 109, 112]⟩ : ByteArray), 1, 0, 0⟩ : S94) [.string (⟨#[106, 117, 109, 112]⟩ : ByteArray), .int .i64 1, .int .i64 0, .int .i64 0] from (dQ _ _ _ (⟨(⟨#[106, 117, 109, 112]⟩ : ByteArray), 1, 0, 0⟩ : S94) )) (bJ.c4 (show Kd.M k94 _ _ _ (⟨(⟨#[122, 101, 114, 111]⟩ : ByteArray), 1, 1, 0⟩ : S94) [.string (⟨#[122, 101, 114, 111]⟩ : ByteArray), .int .i64 1, .int .i64 1, .int .i64 0] from (dQ _ _ _ (⟨(⟨#[122, 101, 114, 111]⟩ : ByteArray), 1, 1, 0⟩ : S94) )) (bJ.c4 (show Kd.M k94 _ _ _ (⟨(⟨#[99, 97, 108, 108]⟩ : ByteArray), 2, 0, 0⟩ : S94) [.string (⟨#[99, 97, 108, 108]⟩ : ByteArray), .int .i64 2, .int .i64 0, .int .i64 0] from (dQ _ _ _ (⟨(⟨#[99, 97, 108, 108]⟩ : ByteArray), 2, 0, 0⟩ : S94) )) (bJ.c4 (show Kd.M k94 _ _ _ (⟨(⟨#[108, 101, 97, 118, 101]⟩ : ByteArray), 1, 0, 0⟩ : S94) [.string (⟨#[108, 101, 97, 118, 101]⟩ : ByteArray), .int .i64 1, .int .i64 0, .int .i64 0] from (dQ _ _ _ (⟨(⟨#[108, 101, 97, 118, 101]⟩ : ByteArray), 1, 0, 0⟩ : S94) )) (bJ.c4 (show Kd.M k94 _ _ _ (⟨(⟨#[112, 114, 105, 110, 116]⟩ : ByteArray), 0, 1, 0⟩ : S94) [.string (⟨#[112, 114, 105, 110, 116]⟩ : ByteArray), .int .i64 0, .int .i64 1, .int .i64 0] from (dQ _ _ _ (⟨(⟨#[112, 114, 105, 110, 116]⟩ : ByteArray), 0, 1, 0⟩ : S94) )) (bJ.c4 (show Kd.M k94 _ _ _ (⟨(⟨#[114, 101, 97, 100]⟩ : ByteArray), 0, 0, 1⟩ : S94) [.string (⟨#[114, 101, 97, 100]⟩ : ByteArray), .int .i64 0, .int .i64 0, .int .i64 1] from (dQ _ _ _ (⟨(⟨#[114, 101, 97, 100]⟩ : ByteArray), 0, 0, 1⟩ : S94) )) (bJ.c4 (show Kd.M k94 _ _ _ (⟨(⟨#[116, 101, 115, 116]⟩ : ByteArray), 0, 1, 0⟩ : S94) [.string (⟨#[116, 101, 115, 116]⟩ : ByteArray), .int .i64 0, .int .i64 1, .int .i64 0] from (dQ _ _ _ (⟨(⟨#[116, 101, 115, 116]⟩ : ByteArray), 0, 1, 0⟩ : S94) )) (bJ.c4 (show Kd.M k94 _ _ _ (⟨(⟨#[109, 97, 114, 107]⟩ : ByteArray), 2, 0, 0⟩ : S94) [.string (⟨#[109, 97, 114, 107]⟩ : ByteArray), .int .i64 2, .int .i64 0, .int .i64 0] from (dQ _ _ _ (⟨(⟨#[109, 97, 114, 107]⟩ : ByteArray), 2, 0, 0⟩ : S94) )) (bJ.c4 (show Kd.M k94 _ _ _ (⟨(⟨#[100, 114, 111, 112]⟩ : ByteArray), 0, 1, 0⟩ : S94) [.string (⟨#[100, 114, 111, 112]⟩ : ByteArray), .int .i64 0, .int .i64 1, .int .i64 0] from (dQ _ _ _ (⟨(⟨#[100, 114, 111, 112]⟩ : ByteArray), 0, 1, 0⟩ : S94) )) (bJ.none _ _)))))))))))))))))))))))))))); intro v214 w4 ho5 hb hg_ hnew_; clear hg_ hnew_; (first | rw [← Ny213.out] at ho5 | (simp only [Int.reduceToNat] at ho5; rw [← Ny213.out] at ho5)); have n_ := an3 (Kd.bU (Kd.R_newB ho5 (g := gb212) (o := .cells #[.string (⟨#[]⟩ : ByteArray), .int .i64 0, .int .i64 0, .int .i64 0] 94 (0, 0)) bk) (aK bl)) (bu BK212.out hb) (aj bl hb); clear BK212 HB; obtain ⟨HO215, BK212, HB⟩ := n_; clear hb ho5; refine ?roundEnd))
 case roundEnd =>
  have H := HH_.out; clear HH_
  by_cases c2 : a0 < 1
  ·rw [if_pos c2] at H; have c2b0 := Za c2; clear c2; simp only [Zl, Zm] at H; obtain ⟨rfl, rfl, rfl, rfl⟩ := H; obtain ⟨hcz6_0, hcz6_1, hcz6_2, hcz6_3, hfz6_0, hfz6_1, hfz6_2, hfz6_3⟩ := bc4 BK212.out; go_wp2
   refine bodyPost_ret (results_cell_row rfl _ _ gb212 94 #[.string (⟨#[]⟩ : ByteArray), .int .i64 0, .int .i64 0, .int .i64 0] (0, 0) _ rfl (by exact bp4 (bq BK212.out)) Tryd.underlying94 rfl (by kernel_rfl)) rfl ?_
   exact ⟨pe, bl⟩
  ·rw [if_neg c2] at H; have c2b0 := Zb c2; clear c2; have HH_ := aa.mk H; clear H; obtain ⟨Ao11, co11, eo11⟩ := Kd.dh HO215.out; subst eo11; refine ?roundEnd; go_wp2
   case roundEnd =>
    have H := HH_.out; clear HH_
    by_cases c7 : a0 ≥ (y213.length : Int)
    ·rw [if_pos c7] at H; have c7b0 : decide ((y213.length : Int) ≤ a0) = true := Za c7; clear c7; simp only [Zl, Zm] at H; obtain ⟨rfl, rfl, rfl, rfl⟩ := H; obtain ⟨hcz12_0, hcz12_1, hcz12_2, hcz12_3, hfz12_0, hfz12_1, hfz12_2, hfz12_3⟩ := bc4 BK212.out; go_wp2
     refine bodyPost_ret (results_cell_row rfl _ _ gb212 94 #[.string (⟨#[]⟩ : ByteArray), .int .i64 0, .int .i64 0, .int .i64 0] (0, 0) _ rfl (by exact bp4 (bq BK212.out)) Tryd.underlying94 rfl (by kernel_rfl)) rfl ?_
     exact ⟨pe, bl⟩
    ·rw [if_neg c7] at H; have c7b0 : decide ((y213.length : Int) ≤ a0) = false := Zb c7; clear c7
     replace H := it (c := 0 ≤ a0) H; obtain ⟨c13, H⟩ := H; have c13b0 := Za c13; clear c13
     replace H := it (c := a0 < (y213.length : Int)) H; obtain ⟨c14, H⟩ := H; have c14b0 := Za c14; clear c14; simp only [Zl, Zm] at H; obtain ⟨rfl, rfl, rfl, rfl⟩ := H
     have p216 : 0 ≤ (a0 : Int) := Zc pa
     have q216 : a0 < (y213.length : Int) := Zc pa
     obtain ⟨ad216, e216, hx216_0, hx216_1, hx216_2, hx216_3⟩ := at_T94 (Kd.aU HO215.out).2.2 a0 p216 q216
     cases e216
     replace p216 := eq_true p216; replace q216 := eq_true q216; obtain ⟨hcz19_0, hcz19_1, hcz19_2, hcz19_3, hfz19_0, hfz19_1, hfz19_2, hfz19_3⟩ := bc4 BK212.out; go_wp2
     refine bodyPost_ret (results_cell_row rfl _ _ gb212 94 #[.string ((gY y213 a0).f0), .int .i64 ((gY y213 a0).f1), .int .i64 ((gY y213 a0).f2), .int .i64 ((gY y213 a0).f3)] (0, 0) _ rfl (by exact bp4 (bq BK212.out)) Tryd.underlying94 rfl (by kernel_rfl)) rfl ?_
     exact ⟨pe, bl⟩
def bE.l0 : Nat → List Int → Int → Int → Option (Int)
 | 0, _, _, _ => none
 | k + 1, x0, x3, x4 => if x4 ≥ 0 then (if 0 ≤ x4 then (if x4 < (x0.length : Int) then (bE.l0 k x0 (IntKind.u64.wrap ((IntKind.u64.wrap (x3 * 2)) + (IntKind.u64.wrap (rd x0 x4)))) (wrap64 (x4 - 1))) else (none)) else (none)) else (some (wrap64 (x3)))
def bE.f (k : Nat) (l0 : List Int) : Option (Int) := bE.l0 k l0 0 63
theorem bE.calls (k : Nat) (A0 : Option Addr) (c0 : Nat) (l0 : List Int) (r : Int) (w : World) (hr0 : Kd.C (Kd.int .i64) w A0 l0.length l0) (hc0 : l0.length ≤ c0) (h : bE.f k l0 = some r) :
  Calls Tryd.prog 76 #[.slice A0 l0.length c0] w fun e w' => e = .returned (.int .i64 r) ∧ aG w w' := by
 have HR0 := aa.mk hr0; have HC0 := aa.mk hc0; clear hr0 hc0; have H : (bE.l0 k l0 0 63) = some r := h; clear h; have H' := aa.mk H; clear H; go_enter Tryd.func76, Tryd.ntmps76; go_wp2
 go_loopg [3, 4] k (fun kq v3 v4 w' => ∃ (x3_1 : Int) (x4_1 : Int), v3 = .int .u64 x3_1 ∧ v4 = .int .i64 x4_1 ∧ aa (bE.l0 kq l0 x3_1 x4_1 = some r) ∧ aa (kq ≤ k) ∧ aG w w')
 case atStart => exact ⟨(0), (63), pr, pr, H', ⟨Zd _⟩, by repeat (first | exact aG.refl _ | apply aG.step)⟩
 case round =>
  clear H'; obtain ⟨x3_1, x4_1, rfl, rfl, HA, HK1, ⟨m1, rfl⟩⟩ := hrel
  cases gk with
  | zero => exact absurd HA.out (by simp [bE.l0])
  | succ k1 =>
   have H := HA.out; clear HA; simp only [bE.l0] at H
   by_cases c2 : x4_1 ≥ 0
   ·rw [if_pos c2] at H; have c2b0 : decide (0 ≤ x4_1) = true := Za c2; clear c2
    replace H := it (c := 0 ≤ x4_1) H; obtain ⟨c3, H⟩ := H; have c3b0 := Za c3; clear c3
    replace H := it (c := x4_1 < (l0.length : Int)) H; obtain ⟨c4, H⟩ := H; have c4b0 := Za c4; clear c4; have H' := aa.mk H; clear H
    have p217 : 0 ≤ (x4_1 : Int) := Zc pa
    have q217 : x4_1 < (l0.length : Int) := Zc pa
    obtain ⟨ad217, e217, hx217_0⟩ := Kd.dG HR0.out x4_1 p217 q217
    cases e217
    replace p217 := eq_true p217; replace q217 := eq_true q217; go_wp2
    go_roundg k1
    case measure => have := HK1.out; omega
    case rel => exact ⟨(IntKind.u64.wrap ((IntKind.u64.wrap (x3_1 * 2)) + (IntKind.u64.wrap (rd l0 x4_1)))), (wrap64 (x4_1 - 1)), pr, pr, H', ⟨by have := HK1.out; omega⟩, by repeat (first | exact aG.refl _ | apply aG.step)⟩
   ·rw [if_neg c2] at H; have c2b0 : decide (0 ≤ x4_1) = false := Zb c2; clear c2; obtain rfl := Zg H; go_wp2; go_ret; exact ⟨by first | rfl | (simp; done) | (simp [*]; done), by repeat (first | exact aG.refl _ | apply aG.step)⟩
def bC.l0 : Nat → List Int → List Int → Int → List Int → Int → Option (List Int)
 | 0, _, _, _, _, _ => none
 | k + 1, x0, x1, x2, x7, x8 => if x8 < 64 then (if 0 ≤ x8 then (if x8 < (x0.length : Int) then (if x8 < (x1.length : Int) then (if x7.length < 17592186044416 then (bC.l0 k x0 x1 (wrap64 (Int.tdiv (wrap64 ((wrap64 ((rd x0 x8) + (rd x1 x8))) + x2)) 2)) (x7 ++ [Int.tmod (wrap64 ((wrap64 ((rd x0 x8) + (rd x1 x8))) + x2)) 2]) (wrap64 (x8 + 1))) else (none)) else (none)) else (none)) else (none)) else (some x7)
def bC.f (k : Nat) (l0 : List Int) (l1 : List Int) (a2 : Int) : Option (List Int) := bC.l0 k l0 l1 a2 ([] : List Int) 0
theorem bC.calls (k : Nat) (A0 : Option Addr) (c0 : Nat) (l0 : List Int) (A1 : Option Addr) (c1 : Nat) (l1 : List Int) (a2 : Int) (r : List Int) (w : World) (hr0 : Kd.C (Kd.int .i64) w A0 l0.length l0) (hc0 : l0.length ≤ c0) (hr1 : Kd.C (Kd.int .i64) w A1 l1.length l1) (hc1 : l1.length ≤ c1) (h : bC.f k l0 l1 a2 = some r) :
  Calls Tryd.prog 77 #[.slice A0 l0.length c0, .slice A1 l1.length c1, .int .i64 a2] w fun e w' => ∃ v0_ : Value, e = .returned (v0_) ∧ Kd.R (Kd.int .i64) 3 w' w.heap.size (fun _ => True) v0_ r ∧ Below w.heap.size w w' := by
 have HR0 := aa.mk hr0; have HC0 := aa.mk hc0; clear hr0 hc0; have HR1 := aa.mk hr1; have HC1 := aa.mk hc1; clear hr1 hc1; have HB := aa.mk (Below.refl w.heap.size w); have H : (bC.l0 k l0 l1 a2 ([] : List Int) 0) = some r := h; clear h; have H' := aa.mk H; clear H; go_enter Tryd.func77, Tryd.ntmps77; go_wp2
 repeat (go_quiet (fail); try go_wp2)
 go_loopg [2, 7, 8] k (fun kq v2 v7 v8 w' => ∃ (x2_1 : Int) (x7_1 : List Int) (x8_1 : Int), v2 = .int .i64 x2_1 ∧ v8 = .int .i64 x8_1 ∧ aa (bC.l0 kq l0 l1 x2_1 x7_1 x8_1 = some r) ∧ aa (kq ≤ k) ∧ aa (Kd.R (Kd.int .i64) 3 w' w.heap.size (fun _ => True) v7 x7_1) ∧ aa (Below w.heap.size w w'))
 case atStart => exact ⟨(a2), (([] : List Int)), (0), pr, pr, H', ⟨Zd _⟩, ⟨pn⟩, ⟨bl⟩⟩
 case round =>
  clear H'; obtain ⟨x2_1, x7_1, x8_1, rfl, rfl, HA, HK1, HO_7, HB⟩ := hrel
  cases gk with
  | zero => exact absurd HA.out (by simp [bC.l0])
  | succ k1 =>
   have H := HA.out; clear HA; simp only [bC.l0] at H
   by_cases c4 : x8_1 < 64
   ·rw [if_pos c4] at H; have c4b0 := Za c4; clear c4
    replace H := it (c := 0 ≤ x8_1) H; obtain ⟨c5, H⟩ := H; have c5b0 := Za c5; clear c5
    replace H := it (c := x8_1 < (l0.length : Int)) H; obtain ⟨c6, H⟩ := H; have c6b0 := Za c6; clear c6
    replace H := it (c := x8_1 < (l1.length : Int)) H; obtain ⟨c7, H⟩ := H; have c7b0 := Za c7; clear c7
    replace H := it (c := x7_1.length < 17592186044416) H; obtain ⟨c8, H⟩ := H; have LMc8 := aa.mk c8; clear c8; obtain ⟨y220, hy220⟩ : ∃ y_ : List Int, y_ = (x7_1 ++ [Int.tmod (wrap64 ((wrap64 ((rd l0 x8_1) + (rd l1 x8_1))) + x2_1)) 2]) := ⟨_, rfl⟩; (first | replace H := hs hy220 H | rw [← hy220] at H)
    have Ny220 := aa.mk hy220; clear hy220; have H' := aa.mk H; clear H
    have p218 : 0 ≤ (x8_1 : Int) := Zc pa
    have q218 : x8_1 < (l0.length : Int) := Zc pa
    obtain ⟨ad218, e218, hx218_0⟩ := Kd.dG HR0.out x8_1 p218 q218
    cases e218
    replace hx218_0 := pc HB.out hx218_0; replace p218 := eq_true p218; replace q218 := eq_true q218
    have p219 : 0 ≤ (x8_1 : Int) := Zc pa
    have q219 : x8_1 < (l1.length : Int) := Zc pa
    obtain ⟨ad219, e219, hx219_0⟩ := Kd.dG HR1.out x8_1 p219 q219
    cases e219
    replace hx219_0 := pc HB.out hx219_0; replace p219 := eq_true p219; replace q219 := eq_true q219
    go_wp2_with (first | ((with_reducible refine di (b := .append) (xs := #[.tmp 25, .tmp 28]) rfl ?_); at_builtin; refine Kd.fQ (Kd.int .i64) (w0 := w) w.heap.size rfl (.tmp 25) (.tmp 28) 84 3 (.int .i64 0) 8 rfl Tryd.underlying84 info3 rfl (by decide) (by omega) u7 x7_1 (Int.tmod (wrap64 ((wrap64 ((rd l0 x8_1) + (rd l1 x8_1))) + x2_1)) 2) [.int .i64 (Int.tmod (wrap64 ((wrap64 ((rd l0 x8_1) + (rd l1 x8_1))) + x2_1)) 2)] (fun _ => True) (fun _ => False) rfl rfl ?aP (fun _ hk => hk.elim) ?aF ?aO ?aB ?aS ?aL ?_; (case aP => exact rfl); (case aB => exact bl); (case aF => exact (fun _ _ => trivial)); (case aO => exact (bR HO_7.out)); (case aS => exact (aK bl)); (case aL => have := LMc8.out; omega); intro v221 w9 ho hb hg hat; rw [← Ny220.out] at ho; have n_ := an2 (hb) (ho); clear HB HO_7; obtain ⟨HB, HO222⟩ := n_; clear ho hb hg hat))
    repeat (go_quiet (fail); try go_wp2_with (first | ((with_reducible refine di (b := .append) (xs := #[.tmp 25, .tmp 28]) rfl ?_); at_builtin; refine Kd.fQ (Kd.int .i64) (w0 := w) w.heap.size rfl (.tmp 25) (.tmp 28) 84 3 (.int .i64 0) 8 rfl Tryd.underlying84 info3 rfl (by decide) (by omega) u7 x7_1 (Int.tmod (wrap64 ((wrap64 ((rd l0 x8_1) + (rd l1 x8_1))) + x2_1)) 2) [.int .i64 (Int.tmod (wrap64 ((wrap64 ((rd l0 x8_1) + (rd l1 x8_1))) + x2_1)) 2)] (fun _ => True) (fun _ => False) rfl rfl ?aP (fun _ hk => hk.elim) ?aF ?aO ?aB ?aS ?aL ?_; (case aP => exact rfl); (case aB => exact bl); (case aF => exact (fun _ _ => trivial)); (case aO => exact (bR HO_7.out)); (case aS => exact (aK bl)); (case aL => have := LMc8.out; omega); intro v221 w9 ho hb hg hat; rw [← Ny220.out] at ho; have n_ := an2 (hb) (ho); clear HB HO_7; obtain ⟨HB, HO222⟩ := n_; clear ho hb hg hat)))
    go_roundg k1
    case measure => have := HK1.out; omega
    case rel => exact ⟨(wrap64 (Int.tdiv (wrap64 ((wrap64 ((rd l0 x8_1) + (rd l1 x8_1))) + x2_1)) 2)), (y220), (wrap64 (x8_1 + 1)), pr, pr, H', ⟨by have := HK1.out; omega⟩, ⟨bR HO222.out⟩, ⟨bl⟩⟩
   ·rw [if_neg c4] at H; have c4b0 := Zb c4; clear c4; obtain rfl := Zg H; go_wp2
    repeat (go_quiet (fail); try go_wp2)
    go_ret; exact ⟨_, pe, bR HO_7.out, bl⟩
def aI.l0 : Nat → Int → List Int → Int → Option (List Int)
 | 0, _, _, _ => none
 | k + 1, x0, x3, x4 => if x4 < 64 then (if 0 ≤ (IntKind.u64.wrap (x4)) then (if x3.length < 17592186044416 then (aI.l0 k x0 (x3 ++ [wrap64 (Int.tmod (shr .u64 (IntKind.u64.wrap (x0)) (IntKind.u64.wrap (x4))) 2)]) (wrap64 (x4 + 1))) else (none)) else (none)) else (some x3)
def aI.f (k : Nat) (a0 : Int) : Option (List Int) := aI.l0 k a0 ([] : List Int) 0
theorem aI.calls (k : Nat) (a0 : Int) (r : List Int) (w : World) (h : aI.f k a0 = some r) :
  Calls Tryd.prog 78 #[.int .i64 a0] w fun e w' => ∃ v0_ : Value, e = .returned (v0_) ∧ Kd.R (Kd.int .i64) 3 w' w.heap.size (fun _ => True) v0_ r ∧ Below w.heap.size w w' := by
 have HB := aa.mk (Below.refl w.heap.size w); have H : (aI.l0 k a0 ([] : List Int) 0) = some r := h; clear h; have H' := aa.mk H; clear H; go_enter Tryd.func78, Tryd.ntmps78; go_wp2
 go_loopg [3, 4] k (fun kq v3 v4 w' => ∃ (x3_1 : List Int) (x4_1 : Int), v4 = .int .i64 x4_1 ∧ aa (aI.l0 kq a0 x3_1 x4_1 = some r) ∧ aa (kq ≤ k) ∧ aa (Kd.R (Kd.int .i64) 3 w' w.heap.size (fun _ => True) v3 x3_1) ∧ aa (Below w.heap.size w w'))
 case atStart => exact ⟨(([] : List Int)), (0), pr, H', ⟨Zd _⟩, ⟨pn⟩, ⟨bl⟩⟩
 case round =>
  clear H'; obtain ⟨x3_1, x4_1, rfl, HA, HK1, HO_3, HB⟩ := hrel
  cases gk with
  | zero => exact absurd HA.out (by simp [aI.l0])
  | succ k1 =>
   have H := HA.out; clear HA; simp only [aI.l0] at H
   by_cases c2 : x4_1 < 64
   ·rw [if_pos c2] at H; have c2b0 := Za c2; clear c2; obtain ⟨ji3, hji3⟩ : ∃ j_ : Int, (IntKind.u64.wrap (x4_1)) = j_ := ⟨_, rfl⟩; replace H : (if 0 ≤ (ji3) then (if x3_1.length < 17592186044416 then (aI.l0 k1 a0 (x3_1 ++ [wrap64 (Int.tmod (shr .u64 (IntKind.u64.wrap (a0)) (ji3)) 2)]) (wrap64 (x4_1 + 1))) else (none)) else (none)) = some r := by first | (rw [hji3] at H; exact H) | (simp only [hji3] at H ⊢; exact H)
    replace H := it (c := 0 ≤ (ji3)) H; obtain ⟨c4, H⟩ := H; have c4b0 := eq_true c4; have c4b1 := Za c4; clear c4; obtain ⟨ji5, hji5⟩ : ∃ j_ : Int, (shr .u64 (IntKind.u64.wrap (a0)) (ji3)) = j_ := ⟨_, rfl⟩; replace H : (if x3_1.length < 17592186044416 then (aI.l0 k1 a0 (x3_1 ++ [wrap64 (Int.tmod (ji5) 2)]) (wrap64 (x4_1 + 1))) else (none)) = some r := by first | (rw [hji5] at H; exact H) | (simp only [hji5] at H ⊢; exact H)
    have hji5_ : ((IntKind.u64.wrap (a0)) / 2 ^ min (ji3).toNat 64) = ji5 := hji5; have hji5z : (ji3) ≤ 64 → ((IntKind.u64.wrap (a0)) / 2 ^ (ji3).toNat) = ji5 := pK hji5
    replace H := it (c := x3_1.length < 17592186044416) H; obtain ⟨c6, H⟩ := H; have LMc6 := aa.mk c6; clear c6; obtain ⟨y223, hy223⟩ : ∃ y_ : List Int, y_ = (x3_1 ++ [wrap64 (Int.tmod (ji5) 2)]) := ⟨_, rfl⟩; (first | replace H := hs hy223 H | rw [← hy223] at H)
    have Ny223 := aa.mk hy223; clear hy223; have H' := aa.mk H; clear H
    go_wp2_with (first | ((with_reducible refine di (b := .append) (xs := #[.tmp 9, .tmp 17]) rfl ?_); at_builtin; refine Kd.fQ (Kd.int .i64) (w0 := w) w.heap.size rfl (.tmp 9) (.tmp 17) 84 3 (.int .i64 0) 8 rfl Tryd.underlying84 info3 rfl (by decide) (by omega) u3 x3_1 (wrap64 (Int.tmod (ji5) 2)) [.int .i64 (wrap64 (Int.tmod (ji5) 2))] (fun _ => True) (fun _ => False) rfl rfl ?aP (fun _ hk => hk.elim) ?aF ?aO ?aB ?aS ?aL ?_; (case aP => exact rfl); (case aB => exact bl); (case aF => exact (fun _ _ => trivial)); (case aO => exact (bR HO_3.out)); (case aS => exact (aK bl)); (case aL => have := LMc6.out; omega); intro v224 w7 ho hb hg hat; rw [← Ny223.out] at ho; have n_ := an2 (hb) (ho); clear HB HO_3; obtain ⟨HB, HO225⟩ := n_; clear ho hb hg hat))
    go_roundg k1
    case measure => have := HK1.out; omega
    case rel => exact ⟨(y223), (wrap64 (x4_1 + 1)), pr, H', ⟨by have := HK1.out; omega⟩, ⟨bR HO225.out⟩, ⟨bl⟩⟩
   ·rw [if_neg c2] at H; have c2b0 := Zb c2; clear c2; obtain rfl := Zg H; go_wp2; go_ret; exact ⟨_, pe, bR HO_3.out, bl⟩
def bO.l0 : Nat → List Int → List Int → Int → Option (List Int)
 | 0, _, _, _ => none
 | k + 1, x0, x3, x4 => if x4 < (x0.length : Int) then (if 0 ≤ x4 then (if x3.length < 17592186044416 then (bO.l0 k x0 (x3 ++ [wrap64 (1 - (rd x0 x4))]) (wrap64 (x4 + 1))) else (none)) else (none)) else (some x3)
def bO.f (k : Nat) (l0 : List Int) : Option (List Int) := bO.l0 k l0 ([] : List Int) 0
theorem bO.calls (k : Nat) (A0 : Option Addr) (c0 : Nat) (l0 : List Int) (r : List Int) (w : World) (hr0 : Kd.C (Kd.int .i64) w A0 l0.length l0) (hc0 : l0.length ≤ c0) (h : bO.f k l0 = some r) :
  Calls Tryd.prog 79 #[.slice A0 l0.length c0] w fun e w' => ∃ v0_ : Value, e = .returned (v0_) ∧ Kd.R (Kd.int .i64) 3 w' w.heap.size (fun _ => True) v0_ r ∧ Below w.heap.size w w' := by
 have HR0 := aa.mk hr0; have HC0 := aa.mk hc0; clear hr0 hc0; have HB := aa.mk (Below.refl w.heap.size w); have H : (bO.l0 k l0 ([] : List Int) 0) = some r := h; clear h; have H' := aa.mk H; clear H; go_enter Tryd.func79, Tryd.ntmps79; go_wp2
 go_loopg [3, 4] k (fun kq v3 v4 w' => ∃ (x3_1 : List Int) (x4_1 : Int), v4 = .int .i64 x4_1 ∧ aa (bO.l0 kq l0 x3_1 x4_1 = some r) ∧ aa (kq ≤ k) ∧ aa (Kd.R (Kd.int .i64) 3 w' w.heap.size (fun _ => True) v3 x3_1) ∧ aa (Below w.heap.size w w'))
 case atStart => exact ⟨(([] : List Int)), (0), pr, H', ⟨Zd _⟩, ⟨pn⟩, ⟨bl⟩⟩
 case round =>
  clear H'; obtain ⟨x3_1, x4_1, rfl, HA, HK1, HO_3, HB⟩ := hrel
  cases gk with
  | zero => exact absurd HA.out (by simp [bO.l0])
  | succ k1 =>
   have H := HA.out; clear HA; simp only [bO.l0] at H
   by_cases c2 : x4_1 < (l0.length : Int)
   ·rw [if_pos c2] at H; have c2b0 := Za c2; clear c2
    replace H := it (c := 0 ≤ x4_1) H; obtain ⟨c3, H⟩ := H; have c3b0 := Za c3; clear c3
    replace H := it (c := x3_1.length < 17592186044416) H; obtain ⟨c4, H⟩ := H; have LMc4 := aa.mk c4; clear c4; obtain ⟨y227, hy227⟩ : ∃ y_ : List Int, y_ = (x3_1 ++ [wrap64 (1 - (rd l0 x4_1))]) := ⟨_, rfl⟩; (first | replace H := hs hy227 H | rw [← hy227] at H)
    have Ny227 := aa.mk hy227; clear hy227; have H' := aa.mk H; clear H
    have p226 : 0 ≤ (x4_1 : Int) := Zc pa
    have q226 : x4_1 < (l0.length : Int) := Zc pa
    obtain ⟨ad226, e226, hx226_0⟩ := Kd.dG HR0.out x4_1 p226 q226
    cases e226
    replace hx226_0 := pc HB.out hx226_0; replace p226 := eq_true p226; replace q226 := eq_true q226
    go_wp2_with (first | ((with_reducible refine di (b := .append) (xs := #[.tmp 11, .tmp 17]) rfl ?_); at_builtin; refine Kd.fQ (Kd.int .i64) (w0 := w) w.heap.size rfl (.tmp 11) (.tmp 17) 84 3 (.int .i64 0) 8 rfl Tryd.underlying84 info3 rfl (by decide) (by omega) u3 x3_1 (wrap64 (1 - (rd l0 x4_1))) [.int .i64 (wrap64 (1 - (rd l0 x4_1)))] (fun _ => True) (fun _ => False) rfl rfl ?aP (fun _ hk => hk.elim) ?aF ?aO ?aB ?aS ?aL ?_; (case aP => exact rfl); (case aB => exact bl); (case aF => exact (fun _ _ => trivial)); (case aO => exact (bR HO_3.out)); (case aS => exact (aK bl)); (case aL => have := LMc4.out; omega); intro v228 w5 ho hb hg hat; rw [← Ny227.out] at ho; have n_ := an2 (hb) (ho); clear HB HO_3; obtain ⟨HB, HO229⟩ := n_; clear ho hb hg hat))
    go_roundg k1
    case measure => have := HK1.out; omega
    case rel => exact ⟨(y227), (wrap64 (x4_1 + 1)), pr, H', ⟨by have := HK1.out; omega⟩, ⟨bR HO229.out⟩, ⟨bl⟩⟩
   ·rw [if_neg c2] at H; have c2b0 := Zb c2; clear c2; obtain rfl := Zg H; go_wp2; go_ret; exact ⟨_, pe, bR HO_3.out, bl⟩
def dA.f (k : Nat) (a0 : Int) (a1 : Int) : Option (Int) := (aI.f k a0).bind fun t230 => ((aI.f k a1).bind fun t233 => ((bO.f k t233).bind fun t236 => ((bC.f k t230 t236 1).bind fun t239 => ((bE.f k t239).bind fun t242 => (some t242)))))
theorem dA.calls (k : Nat) (a0 : Int) (a1 : Int) (r : Int) (w : World) (h : dA.f k a0 a1 = some r) :
  Calls Tryd.prog 65 #[.int .i64 a0, .int .i64 a1] w fun e w' => e = .returned (.int .i64 r) ∧ Below w.heap.size w w' := by
 have HB := aa.mk (Below.refl w.heap.size w); have H : ((aI.f k a0).bind fun t230 => ((aI.f k a1).bind fun t233 => ((bO.f k t233).bind fun t236 => ((bC.f k t230 t236 1).bind fun t239 => ((bE.f k t239).bind fun t242 => (some t242)))))) = some r := h; clear h; replace H := ob H; obtain ⟨t230, A3, H⟩ := H; replace H := ob H; obtain ⟨t233, A4, H⟩ := H; replace H := ob H; obtain ⟨t236, A5, H⟩ := H; replace H := ob H; obtain ⟨t239, A6, H⟩ := H; replace H := ob H; obtain ⟨t242, A7, H⟩ := H; obtain rfl := Zg H; go_enter Tryd.func65, Tryd.ntmps65
 go_wp2_with (first | ((with_reducible refine ah (f := 78) rfl ?_); refine gl 6 Tryd.func78 #[.int .i64 a0] ?_; (with_reducible refine (aI.calls k a0 t230 _ A3.out).mono ?_); rintro e w8 ⟨v231, rfl, ho0, hb⟩; refine ⟨_, rfl, ?_⟩; have n_ := an2 (Kd.bU ho0 (aK bl)) (aj bl hb); clear HB; obtain ⟨HO232, HB⟩ := n_; (try clear hb); (try clear ho0)) | ((with_reducible refine ah (f := 78) rfl ?_); refine gl 8 Tryd.func78 #[.int .i64 a1] ?_; (with_reducible refine (aI.calls k a1 t233 _ A4.out).mono ?_); rintro e w9 ⟨v234, rfl, ho0, hb⟩; refine ⟨_, rfl, ?_⟩; have n_ := an3 (Kd.dD (bR HO232.out) (Kd.ed ho0) hb) (Kd.bU (Kd.eH ho0 (Kd.il (bR HO232.out))) (aK bl)) (aj bl hb); clear HO232 HB; obtain ⟨HO232, HO235, HB⟩ := n_; (try clear hb); (try clear ho0); obtain ⟨Ao10, co10, eo10⟩ := Kd.dh HO235.out; subst eo10) | ((with_reducible refine ah (f := 79) rfl ?_); refine gl 9 Tryd.func79 #[.slice Ao10 t233.length co10] ?_; (with_reducible refine (bO.calls k _ _ t233 t236 _ ?side1 ?side2 A5.out).mono ?_); (case side1 => repeat (first | exact (Kd.aU HO235.out).2.2 | (with_reducible refine Kd.fq ?_ _) | (with_reducible refine Kd.C_drewN ?_ _) | (with_reducible refine Kd.C_drew ?_))); (case side2 => exact (Kd.aU HO235.out).2.1); rintro e w11 ⟨v237, rfl, ho0, hb⟩; refine ⟨_, rfl, ?_⟩; have n_ := an4 (Kd.dD (bR HO232.out) (Kd.ed ho0) hb) (Kd.dD (bR HO235.out) (Kd.ed ho0) hb) (Kd.bU (Kd.eH (Kd.eH ho0 (Kd.il (bR HO232.out))) (Kd.il (bR HO235.out))) (aK bl)) (aj bl hb); clear HO232 HO235 HB; obtain ⟨HO232, HO235, HO238, HB⟩ := n_; (try clear hb); (try clear ho0); obtain ⟨Ao12, co12, eo12⟩ := Kd.dh HO232.out; subst eo12; obtain ⟨Ao13, co13, eo13⟩ := Kd.dh HO238.out; subst eo13) | ((with_reducible refine ah (f := 77) rfl ?_); refine gl 10 Tryd.func77 #[.slice Ao12 t230.length co12, .slice Ao13 t236.length co13, .int .i64 1] ?_; (with_reducible refine (bC.calls k _ _ t230 _ _ t236 1 t239 _ ?side1 ?side2 ?side3 ?side4 A6.out).mono ?_); (case side1 => repeat (first | exact (Kd.aU HO232.out).2.2 | (with_reducible refine Kd.fq ?_ _) | (with_reducible refine Kd.C_drewN ?_ _) | (with_reducible refine Kd.C_drew ?_))); (case side2 => exact (Kd.aU HO232.out).2.1); (case side3 => repeat (first | exact (Kd.aU HO238.out).2.2 | (with_reducible refine Kd.fq ?_ _) | (with_reducible refine Kd.C_drewN ?_ _) | (with_reducible refine Kd.C_drew ?_))); (case side4 => exact (Kd.aU HO238.out).2.1); rintro e w14 ⟨v240, rfl, ho0, hb⟩; refine ⟨_, rfl, ?_⟩; have n_ := an5 (Kd.dD (bR HO232.out) (Kd.ed ho0) hb) (Kd.dD (bR HO235.out) (Kd.ed ho0) hb) (Kd.dD (bR HO238.out) (Kd.ed ho0) hb) (Kd.bU (Kd.eH (Kd.eH (Kd.eH ho0 (Kd.il (bR HO232.out))) (Kd.il (bR HO235.out))) (Kd.il (bR HO238.out))) (aK bl)) (aj bl hb); clear HO232 HO235 HO238 HB; obtain ⟨HO232, HO235, HO238, HO241, HB⟩ := n_; (try clear hb); (try clear ho0); obtain ⟨Ao15, co15, eo15⟩ := Kd.dh HO241.out; subst eo15) | ((with_reducible refine ah (f := 76) rfl ?_); refine gl 11 Tryd.func76 #[.slice Ao15 t239.length co15] ?_; (with_reducible refine (bE.calls k _ _ t239 t242 _ ?side1 ?side2 A7.out).mono ?_); (case side1 => repeat (first | exact (Kd.aU HO241.out).2.2 | (with_reducible refine Kd.fq ?_ _) | (with_reducible refine Kd.C_drewN ?_ _) | (with_reducible refine Kd.C_drew ?_))); (case side2 => exact (Kd.aU HO241.out).2.1); rintro e w' ⟨rfl, ⟨nd, rfl⟩⟩; refine ⟨_, rfl, ?_⟩))
 go_ret; exact ⟨pe, bl⟩
end Go.Proofs.YthckiolgpgplpaaDoor.YD
