-- Written by a program of this session (its own turn of the print: wip/patch_print.py), not by hand. Lean checks it.
import Derived.Test.YtdbpdcjlbopkbaaDoorWAll
import Derived.Test.YtdbpdcjlbopkbaaDoorPx0
namespace Go.Proofs.YtdbpdcjlbopkbaaDoor.P
open Go.RowKit Go.Proofs.YtdbpdcjlbopkbaaDoorW.PrintWords Go.Proofs.YtdbpdcjlbopkbaaDoorW.PrintLast Go.Proofs.YtdbpdcjlbopkbaaDoorW.PrintMore
attribute [local go_sem] max2_int min2_int max_two min_two max_three min_three max_four min_four   -- for this text's walks alone
set_option linter.unusedVariables false
set_option linter.unusedSimpArgs false

/-! ### num_Parse: function 30 -/
mutual
def num_Parse.j0 : Nat → ByteArray → ByteArray → Bool → Bool → Option (Int × Int)
 | 0, _, _, _, _ => none
 | k + 1, x0, x4, x5, x17 => if x17 = true then (if 1 ≤ (x0.size : Int) then (num_Parse.j1 k x0 (x0.extract 1 x0.size) true) else (none)) else (num_Parse.j1 k x0 x4 x5)
def num_Parse.j1 : Nat → ByteArray → ByteArray → Bool → Option (Int × Int)
 | 0, _, _, _ => none
 | k + 1, x0, x4, x5 => if x4.toList = ([] : List UInt8) then (num_Parse.j2 k x4 x5 0 false) else (if 0 < (x4.size : Int) then (if (bt x4 0) = 48 then (num_Parse.j2 k x4 x5 0 ((x0.size : Int) == 1)) else (num_Parse.j2 k x4 x5 0 true)) else (none))
def num_Parse.j2 : Nat → ByteArray → Bool → Int → Bool → Option (Int × Int)
 | 0, _, _, _, _ => none
 | k + 1, x4, x5, x6, x7 => num_Parse.l0 k x4 x5 x6 x7 0
def num_Parse.j5 : Nat → Bool → Int → Bool → Option (Int × Int)
 | 0, _, _, _ => none
 | k + 1, x5, x6, x7 => if x7 = true then (if x6 = 9223372036854775808 then (num_Parse.j6 k x5 x6 (!x5)) else (num_Parse.j6 k x5 x6 false)) else (num_Parse.j6 k x5 x6 true)
def num_Parse.j6 : Nat → Bool → Int → Bool → Option (Int × Int)
 | 0, _, _, _ => none
 | k + 1, x5, x6, x74 => if x74 = true then (some (0, 10)) else (if x5 = true then (some (wrap64 (IntKind.u64.wrap (-x6)), 0)) else (some (wrap64 (x6), 0)))
def num_Parse.l0 : Nat → ByteArray → Bool → Int → Bool → Int → Option (Int × Int)
 | 0, _, _, _, _, _ => none
 | k + 1, x4, x5, x6, x7, x8 => if x7 = true then (num_Parse.j4 k x4 x5 x6 x7 x8 (decide (x8 < (x4.size : Int)))) else (num_Parse.j4 k x4 x5 x6 x7 x8 false)
def num_Parse.j4 : Nat → ByteArray → Bool → Int → Bool → Int → Bool → Option (Int × Int)
 | 0, _, _, _, _, _, _ => none
 | k + 1, x4, x5, x6, x7, x8, x38 => if x38 = true then (if 0 ≤ x8 then (if x8 < (x4.size : Int) then (if (bt x4 x8) < 48 then (num_Parse.j5 k x5 x6 false) else (if (IntKind.u64.wrap ((IntKind.u64.wrap (bt x4 x8)) - 48)) > 9 then (num_Parse.j5 k x5 x6 false) else (if x6 > (IntKind.u64.wrap (Int.tdiv (IntKind.u64.wrap (9223372036854775808 - (IntKind.u64.wrap ((IntKind.u64.wrap (bt x4 x8)) - 48)))) 10)) then (num_Parse.j5 k x5 x6 false) else (num_Parse.l0 k x4 x5 (IntKind.u64.wrap ((IntKind.u64.wrap (x6 * 10)) + (IntKind.u64.wrap ((IntKind.u64.wrap (bt x4 x8)) - 48)))) x7 (wrap64 (x8 + 1)))))) else (none)) else (none)) else (num_Parse.j5 k x5 x6 x7)
end
def num_Parse.f (k : Nat) (a0 : ByteArray) : Option (Int × Int) := if a0.toList = ([] : List UInt8) then (num_Parse.j0 k a0 a0 false false) else (if 0 < (a0.size : Int) then (num_Parse.j0 k a0 a0 false ((bt a0 0) == 45)) else (none))
theorem num_Parse.mono_l : ∀ k, (∀ y0 y1 y2 y3, LeO (num_Parse.j0 k y0 y1 y2 y3) (num_Parse.j0 (k + 1) y0 y1 y2 y3)) ∧ (∀ y0 y1 y2, LeO (num_Parse.j1 k y0 y1 y2) (num_Parse.j1 (k + 1) y0 y1 y2)) ∧ (∀ y0 y1 y2 y3, LeO (num_Parse.j2 k y0 y1 y2 y3) (num_Parse.j2 (k + 1) y0 y1 y2 y3)) ∧ (∀ y0 y1 y2, LeO (num_Parse.j5 k y0 y1 y2) (num_Parse.j5 (k + 1) y0 y1 y2)) ∧ (∀ y0 y1 y2, LeO (num_Parse.j6 k y0 y1 y2) (num_Parse.j6 (k + 1) y0 y1 y2)) ∧ (∀ y0 y1 y2 y3 y4, LeO (num_Parse.l0 k y0 y1 y2 y3 y4) (num_Parse.l0 (k + 1) y0 y1 y2 y3 y4)) ∧ (∀ y0 y1 y2 y3 y4 y5, LeO (num_Parse.j4 k y0 y1 y2 y3 y4 y5) (num_Parse.j4 (k + 1) y0 y1 y2 y3 y4 y5))
 | 0 => ⟨fun _ _ _ _ r h => by simp [num_Parse.j0] at h, fun _ _ _ r h => by simp [num_Parse.j1] at h, fun _ _ _ _ r h => by simp [num_Parse.j2] at h, fun _ _ _ r h => by simp [num_Parse.j5] at h, fun _ _ _ r h => by simp [num_Parse.j6] at h, fun _ _ _ _ _ r h => by simp [num_Parse.l0] at h, fun _ _ _ _ _ _ r h => by simp [num_Parse.j4] at h⟩
 | k + 1 => by
  obtain ⟨ih0, ih1, ih2, ih3, ih4, ih5, ih6⟩ := num_Parse.mono_l k
  refine ⟨?_, ?_, ?_, ?_, ?_, ?_, ?_⟩
  ·intro y0 y1 y2 y3
   unfold num_Parse.j0
   repeat' (with_reducible first | apply ih0 | apply ih1 | apply ih2 | apply ih3 | apply ih4 | apply ih5 | apply ih6 | exact LeO.refl _ | exact LeO.none _ | refine LeO.ite ?_ ?_ | refine LeO.bind ?_ (fun _ => ?_))
  ·intro y0 y1 y2
   unfold num_Parse.j1
   repeat' (with_reducible first | apply ih0 | apply ih1 | apply ih2 | apply ih3 | apply ih4 | apply ih5 | apply ih6 | exact LeO.refl _ | exact LeO.none _ | refine LeO.ite ?_ ?_ | refine LeO.bind ?_ (fun _ => ?_))
  ·intro y0 y1 y2 y3
   unfold num_Parse.j2
   repeat' (with_reducible first | apply ih0 | apply ih1 | apply ih2 | apply ih3 | apply ih4 | apply ih5 | apply ih6 | exact LeO.refl _ | exact LeO.none _ | refine LeO.ite ?_ ?_ | refine LeO.bind ?_ (fun _ => ?_))
  ·intro y0 y1 y2
   unfold num_Parse.j5
   repeat' (with_reducible first | apply ih0 | apply ih1 | apply ih2 | apply ih3 | apply ih4 | apply ih5 | apply ih6 | exact LeO.refl _ | exact LeO.none _ | refine LeO.ite ?_ ?_ | refine LeO.bind ?_ (fun _ => ?_))
  ·intro y0 y1 y2
   unfold num_Parse.j6
   repeat' (with_reducible first | apply ih0 | apply ih1 | apply ih2 | apply ih3 | apply ih4 | apply ih5 | apply ih6 | exact LeO.refl _ | exact LeO.none _ | refine LeO.ite ?_ ?_ | refine LeO.bind ?_ (fun _ => ?_))
  ·intro y0 y1 y2 y3 y4
   unfold num_Parse.l0
   repeat' (with_reducible first | apply ih0 | apply ih1 | apply ih2 | apply ih3 | apply ih4 | apply ih5 | apply ih6 | exact LeO.refl _ | exact LeO.none _ | refine LeO.ite ?_ ?_ | refine LeO.bind ?_ (fun _ => ?_))
  ·intro y0 y1 y2 y3 y4 y5
   unfold num_Parse.j4
   repeat' (with_reducible first | apply ih0 | apply ih1 | apply ih2 | apply ih3 | apply ih4 | apply ih5 | apply ih6 | exact LeO.refl _ | exact LeO.none _ | refine LeO.ite ?_ ?_ | refine LeO.bind ?_ (fun _ => ?_))
theorem num_Parse.mono : ∀ a0 k, LeO (num_Parse.f k a0) (num_Parse.f (k + 1) a0) := by
 intro a0 k
 obtain ⟨ih0, ih1, ih2, ih3, ih4, ih5, ih6⟩ := num_Parse.mono_l k
 unfold num_Parse.f
 repeat' (with_reducible first | apply ih0 | apply ih1 | apply ih2 | apply ih3 | apply ih4 | apply ih5 | apply ih6 | exact LeO.refl _ | exact LeO.none _ | refine LeO.ite ?_ ?_ | refine LeO.bind ?_ (fun _ => ?_))
set_option maxHeartbeats 8000000 in
set_option maxRecDepth 100000 in
theorem num_Parse.calls (k : Nat) (a0 : ByteArray) (r1 : Int) (r2 : Int) (w : World) (h : num_Parse.f k a0 = some (r1, r2)) :
  Calls Tryd.prog 30 #[.string a0] w fun e w' => e = .returned (.tuple #[.int .i64 r1, .int .i64 r2]) ∧ Drawn0 w w' := by
 have H : (if a0.toList = ([] : List UInt8) then (num_Parse.j0 k a0 a0 false false) else (if 0 < (a0.size : Int) then (num_Parse.j0 k a0 a0 false ((bt a0 0) == 45)) else (none))) = some (r1, r2) := h; clear h; have HC2 := Aside0.mk H; clear H; go_enter Tryd.func30, Tryd.ntmps30
 go_wp2_with (fail)
 refine scope_of (fun _ _ _ h_ => h_) ?_
 go_upto_region 2 with (((with_reducible refine wp_label ?_)))
 go_cut [17] (fun v17 wc => ∃ (kq : Nat) (x17_1 : Bool), v17 = .bool x17_1 ∧ Aside0 (num_Parse.j0 kq a0 a0 false x17_1 = some (r1, r2)) ∧ Aside0 (kq ≤ k) ∧ Drawn0 w wc)
 case first =>
  have H := HC2.out; clear HC2
  by_cases c3 : a0.toList = ([] : List UInt8)
  ·rw [if_pos c3] at H; have c3b0 : (a0.toList == ([] : List UInt8)) = true := beq_iff_eq.mpr c3; have c3b1 : (a0.toList != ([] : List UInt8)) = false := bne_eq_false_iff_eq.mpr c3; clear c3; (first | rw [c3b0] | (simp only [i64_w, i32_w]; rw [c3b0]) | skip); have H' := Aside0.mk H; clear H
   go_wp2_with ((with_reducible refine wp_label ?_))
   go_meet
   case rel => exact ⟨_, (false), pr, H', ⟨by first | omega | exact Nat.le_refl _⟩, by repeat (first | exact Drawn0.refl _ | apply Drawn0.step)⟩
  ·rw [if_neg c3] at H; have c3b0 : (a0.toList == ([] : List UInt8)) = false := beq_eq_false_iff_ne.mpr c3; have c3b1 : (a0.toList != ([] : List UInt8)) = true := bne_iff_ne.mpr c3; (first | rw [c3b0] | (simp only [i64_w, i32_w]; rw [c3b0]) | skip)
   by_cases c4 : 0 < (a0.size : Int)
   ·rw [if_pos c4] at H; have c4b0 : decide (0 < (a0.size : Int)) = true := decide_eq_true c4; have c4b1 : decide (0 < a0.size) = true := decide_eq_true (by omega); clear c4; have H' := Aside0.mk H; clear H; have p5 : 0 ≤ (0 : Int) := (by omega)
    have q5 : 0 < a0.size := (by have : (0 : Int) < (a0.size : Int) := of_decide_eq_true pa; omega)
    have hx5 : ∀ h : 0 < a0.size, ((a0[0]'h).toNat : Int) = bt a0 0 := bt_at a0 0; clear p5
    have qi5 : (0 < (a0.size : Int)) = True := eq_true (of_decide_eq_true pa)
    replace q5 := eq_true q5
    go_wp2_with ((with_reducible refine wp_label ?_))
    go_meet
    case rel => exact ⟨_, (((bt a0 0) == 45)), pr, H', ⟨by first | omega | exact Nat.le_refl _⟩, by repeat (first | exact Drawn0.refl _ | apply Drawn0.step)⟩
   ·rw [if_neg c4] at H; exact absurd H (by simp)
 case rest =>
  clear HC2; obtain ⟨kq, x17_1, rfl, HA, HJ1, ⟨mc1, rfl⟩⟩ := hcut
  cases kq with
  | zero => exact absurd HA.out (by simp [num_Parse.j0])
  | succ kj1 =>
   have H := HA.out; clear HA; simp only [num_Parse.j0] at H; have HC6 := Aside0.mk H; clear H
   go_upto_if 17 with (((with_reducible refine wp_label ?_)))
   go_cut [4, 5] (fun v4 v5 wc => ∃ (kq : Nat) (x4_5 : ByteArray) (x5_5 : Bool), v4 = .string x4_5 ∧ v5 = .bool x5_5 ∧ Aside0 (num_Parse.j1 kq a0 x4_5 x5_5 = some (r1, r2)) ∧ Aside0 (kq ≤ kj1) ∧ Drawn0 w wc)
   case first =>
    have H := HC6.out; clear HC6
    by_cases c7 : x17_1 = true
    ·subst c7; rw [if_pos rfl] at H
     by_cases c8 : 1 ≤ (a0.size : Int)
     ·rw [if_pos c8] at H; have c8b0 := eq_true c8; have c8b1 : decide (1 ≤ (a0.size : Int)) = true := decide_eq_true c8; clear c8; have H' := Aside0.mk H; clear H
      go_wp2_with ((with_reducible refine wp_label ?_))
      go_meet
      case rel => exact ⟨_, (a0.extract 1 a0.size), (true), pr, pr, H', ⟨by have := HJ1.out; first | omega | exact Nat.le_refl _⟩, by repeat (first | exact Drawn0.refl _ | apply Drawn0.step)⟩
     ·rw [if_neg c8] at H; exact absurd H (by simp)
    ·replace c7 := Bool.eq_false_iff.mpr c7; subst c7; rw [if_neg (show ¬ (false = true) by decide)] at H; have H' := Aside0.mk H; clear H
     go_wp2_with ((with_reducible refine wp_label ?_))
     go_meet
     case rel => exact ⟨_, (a0), (false), pr, pr, H', ⟨by have := HJ1.out; first | omega | exact Nat.le_refl _⟩, by repeat (first | exact Drawn0.refl _ | apply Drawn0.step)⟩
   case rest =>
    clear HC6; obtain ⟨kq, x4_5, x5_5, rfl, rfl, HA, HJ5, ⟨mc5, rfl⟩⟩ := hcut
    cases kq with
    | zero => exact absurd HA.out (by simp [num_Parse.j1])
    | succ kj5 =>
     have H := HA.out; clear HA; simp only [num_Parse.j1] at H; have HC9 := Aside0.mk H; clear H
     go_upto_region 5 with (((with_reducible refine wp_label ?_)))
     go_cut [7] (fun v7 wc => ∃ (kq : Nat) (x7_8 : Bool), v7 = .bool x7_8 ∧ Aside0 (num_Parse.j2 kq x4_5 x5_5 0 x7_8 = some (r1, r2)) ∧ Aside0 (kq ≤ kj5) ∧ Drawn0 w wc)
     case first =>
      have H := HC9.out; clear HC9
      by_cases c10 : x4_5.toList = ([] : List UInt8)
      ·rw [if_pos c10] at H; have c10b0 : (x4_5.toList == ([] : List UInt8)) = true := beq_iff_eq.mpr c10; have c10b1 : (x4_5.toList != ([] : List UInt8)) = false := bne_eq_false_iff_eq.mpr c10; clear c10; (first | rw [c10b0] | (simp only [i64_w, i32_w]; rw [c10b0]) | skip); have H' := Aside0.mk H; clear H
       go_wp2_with ((with_reducible refine wp_label ?_))
       go_meet
       case rel => exact ⟨_, (false), pr, H', ⟨by have := HJ1.out; have := HJ5.out; first | omega | exact Nat.le_refl _⟩, by repeat (first | exact Drawn0.refl _ | apply Drawn0.step)⟩
      ·rw [if_neg c10] at H; have c10b0 : (x4_5.toList == ([] : List UInt8)) = false := beq_eq_false_iff_ne.mpr c10; have c10b1 : (x4_5.toList != ([] : List UInt8)) = true := bne_iff_ne.mpr c10; (first | rw [c10b0] | (simp only [i64_w, i32_w]; rw [c10b0]) | skip)
       by_cases c11 : 0 < (x4_5.size : Int)
       ·rw [if_pos c11] at H; have c11b0 : decide (0 < (x4_5.size : Int)) = true := decide_eq_true c11; have c11b1 : decide (0 < x4_5.size) = true := decide_eq_true (by omega); clear c11
        by_cases c13 : (bt x4_5 0) = 48
        ·rw [if_pos c13] at H; have c13b0 : ((bt x4_5 0) == 48) = true := beq_iff_eq.mpr c13; have c13b1 : ((bt x4_5 0) != 48) = false := bne_eq_false_iff_eq.mpr c13; clear c13; have H' := Aside0.mk H; clear H; have p12 : 0 ≤ (0 : Int) := (by omega)
         have q12 : 0 < x4_5.size := (by have : (0 : Int) < (x4_5.size : Int) := of_decide_eq_true pa; omega)
         have hx12 : ∀ h : 0 < x4_5.size, ((x4_5[0]'h).toNat : Int) = bt x4_5 0 := bt_at x4_5 0; clear p12
         have qi12 : (0 < (x4_5.size : Int)) = True := eq_true (of_decide_eq_true pa)
         replace q12 := eq_true q12
         go_wp2_with ((with_reducible refine wp_label ?_))
         go_meet
         case rel => exact ⟨_, (((a0.size : Int) == 1)), pr, H', ⟨by have := HJ1.out; have := HJ5.out; first | omega | exact Nat.le_refl _⟩, by repeat (first | exact Drawn0.refl _ | apply Drawn0.step)⟩
        ·rw [if_neg c13] at H; have c13b0 : ((bt x4_5 0) == 48) = false := beq_eq_false_iff_ne.mpr c13; have c13b1 : ((bt x4_5 0) != 48) = true := bne_iff_ne.mpr c13; have H' := Aside0.mk H; clear H; have p12 : 0 ≤ (0 : Int) := (by omega)
         have q12 : 0 < x4_5.size := (by have : (0 : Int) < (x4_5.size : Int) := of_decide_eq_true pa; omega)
         have hx12 : ∀ h : 0 < x4_5.size, ((x4_5[0]'h).toNat : Int) = bt x4_5 0 := bt_at x4_5 0; clear p12
         have qi12 : (0 < (x4_5.size : Int)) = True := eq_true (of_decide_eq_true pa)
         replace q12 := eq_true q12
         go_wp2_with ((with_reducible refine wp_label ?_))
         go_meet
         case rel => exact ⟨_, (true), pr, H', ⟨by have := HJ1.out; have := HJ5.out; first | omega | exact Nat.le_refl _⟩, by repeat (first | exact Drawn0.refl _ | apply Drawn0.step)⟩
       ·rw [if_neg c11] at H; exact absurd H (by simp)
     case rest =>
      clear HC9; obtain ⟨kq, x7_8, rfl, HA, HJ8, ⟨mc8, rfl⟩⟩ := hcut
      cases kq with
      | zero => exact absurd HA.out (by simp [num_Parse.j2])
      | succ kj8 =>
       have H := HA.out; clear HA; simp only [num_Parse.j2] at H; have HC14 := Aside0.mk H; clear H
       go_upto_block 0 with (((with_reducible refine wp_label ?_)))
       go_cut [6, 7] (fun v6 v7 wc => ∃ (kq : Nat) (x6_13 : Int) (x7_13 : Bool), v6 = .int .u64 x6_13 ∧ v7 = .bool x7_13 ∧ Aside0 (num_Parse.j5 kq x5_5 x6_13 x7_13 = some (r1, r2)) ∧ Aside0 (kq ≤ kj8) ∧ Drawn0 w wc)
       case first =>
        have H := HC14.out; clear HC14; have H' := Aside0.mk H; clear H
        go_wp2_with ((with_reducible refine wp_label ?_))
        go_loopg [6, 7, 8] kj8 (fun kq v6 v7 v8 w' => ∃ (x6_4 : Int) (x7_4 : Bool) (x8_4 : Int), v6 = .int .u64 x6_4 ∧ v7 = .bool x7_4 ∧ v8 = .int .i64 x8_4 ∧ Aside0 (num_Parse.l0 kq x4_5 x5_5 x6_4 x7_4 x8_4 = some (r1, r2)) ∧ Aside0 (kq ≤ kj8) ∧ Drawn0 w w')
        case atStart => exact ⟨(0), (x7_8), (0), pr, pr, pr, H', ⟨Nat.le_refl _⟩, by repeat (first | exact Drawn0.refl _ | apply Drawn0.step)⟩
        case round =>
         clear H'; obtain ⟨x6_4, x7_4, x8_4, rfl, rfl, rfl, HA, HK4, ⟨m4, rfl⟩⟩ := hrel
         cases gk with
         | zero => exact absurd HA.out (by simp [num_Parse.l0])
         | succ k4 =>
          have H := HA.out; clear HA; simp only [num_Parse.l0] at H; have HC15 := Aside0.mk H; clear H
          go_upto_region 7 with (((with_reducible refine wp_label ?_)))
          go_cut [38] (fun v38 wc => ∃ (kq : Nat) (x38_14 : Bool), v38 = .bool x38_14 ∧ Aside0 (num_Parse.j4 kq x4_5 x5_5 x6_4 x7_4 x8_4 x38_14 = some (r1, r2)) ∧ Aside0 (kq ≤ k4) ∧ Drawn0 w wc)
          case first =>
           have H := HC15.out; clear HC15
           by_cases c16 : x7_4 = true
           ·subst c16; rw [if_pos rfl] at H; have H' := Aside0.mk H; clear H
            go_wp2_with ((with_reducible refine wp_label ?_))
            go_meet
            case rel => exact ⟨_, (decide (x8_4 < (x4_5.size : Int))), pr, H', ⟨by have := HJ1.out; have := HJ5.out; have := HJ8.out; have := HK4.out; first | omega | exact Nat.le_refl _⟩, by repeat (first | exact Drawn0.refl _ | apply Drawn0.step)⟩
           ·replace c16 := Bool.eq_false_iff.mpr c16; subst c16; rw [if_neg (show ¬ (false = true) by decide)] at H; have H' := Aside0.mk H; clear H
            go_wp2_with ((with_reducible refine wp_label ?_))
            go_meet
            case rel => exact ⟨_, (false), pr, H', ⟨by have := HJ1.out; have := HJ5.out; have := HJ8.out; have := HK4.out; first | omega | exact Nat.le_refl _⟩, by repeat (first | exact Drawn0.refl _ | apply Drawn0.step)⟩
          case rest =>
           clear HC15; obtain ⟨kq, x38_14, rfl, HA, HJ14, ⟨mc14, rfl⟩⟩ := hcut
           cases kq with
           | zero => exact absurd HA.out (by simp [num_Parse.j4])
           | succ kj14 =>
            have H := HA.out; clear HA; simp only [num_Parse.j4] at H
            by_cases c17 : x38_14 = true
            ·subst c17; rw [if_pos rfl] at H
             by_cases c18 : 0 ≤ x8_4
             ·rw [if_pos c18] at H; have c18b0 : decide (0 ≤ x8_4) = true := decide_eq_true c18; clear c18
              by_cases c19 : x8_4 < (x4_5.size : Int)
              ·rw [if_pos c19] at H; have c19b0 : decide (x8_4 < (x4_5.size : Int)) = true := decide_eq_true c19; clear c19
               by_cases c22 : (bt x4_5 x8_4) < 48
               ·rw [if_pos c22] at H; have c22b0 : decide ((bt x4_5 x8_4) < 48) = true := decide_eq_true c22; clear c22; have H' := Aside0.mk H; clear H
                have p20 : 0 ≤ (x8_4 : Int) := of_decide_eq_true pa
                have q20 : x8_4 < (x4_5.size : Int) := of_decide_eq_true pa
                have hx20 := bt_at x4_5 x8_4; replace p20 := eq_true p20; replace q20 := eq_true q20
                have p21 : 0 ≤ (x8_4 : Int) := of_decide_eq_true pa
                have q21 : x8_4 < (x4_5.size : Int) := of_decide_eq_true pa
                have hx21 := bt_at x4_5 x8_4; replace p21 := eq_true p21; replace q21 := eq_true q21
                go_wp2_with ((with_reducible refine wp_label ?_))
                go_meet
                case rel => exact ⟨_, (x6_4), (false), pr, pr, H', ⟨by have := HJ1.out; have := HJ5.out; have := HJ8.out; have := HK4.out; have := HJ14.out; first | omega | exact Nat.le_refl _⟩, by repeat (first | exact Drawn0.refl _ | apply Drawn0.step)⟩
               ·rw [if_neg c22] at H; have c22b0 : decide ((bt x4_5 x8_4) < 48) = false := decide_eq_false c22; clear c22
                by_cases c23 : (IntKind.u64.wrap ((IntKind.u64.wrap (bt x4_5 x8_4)) - 48)) > 9
                ·rw [if_pos c23] at H; have c23b0 : decide (9 < (IntKind.u64.wrap ((IntKind.u64.wrap (bt x4_5 x8_4)) - 48))) = true := decide_eq_true c23; clear c23; have H' := Aside0.mk H; clear H
                 have p20 : 0 ≤ (x8_4 : Int) := of_decide_eq_true pa
                 have q20 : x8_4 < (x4_5.size : Int) := of_decide_eq_true pa
                 have hx20 := bt_at x4_5 x8_4; replace p20 := eq_true p20; replace q20 := eq_true q20
                 have p21 : 0 ≤ (x8_4 : Int) := of_decide_eq_true pa
                 have q21 : x8_4 < (x4_5.size : Int) := of_decide_eq_true pa
                 have hx21 := bt_at x4_5 x8_4; replace p21 := eq_true p21; replace q21 := eq_true q21
                 go_wp2_with ((with_reducible refine wp_label ?_))
                 go_meet
                 case rel => exact ⟨_, (x6_4), (false), pr, pr, H', ⟨by have := HJ1.out; have := HJ5.out; have := HJ8.out; have := HK4.out; have := HJ14.out; first | omega | exact Nat.le_refl _⟩, by repeat (first | exact Drawn0.refl _ | apply Drawn0.step)⟩
                ·rw [if_neg c23] at H; have c23b0 : decide (9 < (IntKind.u64.wrap ((IntKind.u64.wrap (bt x4_5 x8_4)) - 48))) = false := decide_eq_false c23; clear c23
                 by_cases c24 : x6_4 > (IntKind.u64.wrap (Int.tdiv (IntKind.u64.wrap (9223372036854775808 - (IntKind.u64.wrap ((IntKind.u64.wrap (bt x4_5 x8_4)) - 48)))) 10))
                 ·rw [if_pos c24] at H; have c24b0 : decide ((IntKind.u64.wrap (Int.tdiv (IntKind.u64.wrap (9223372036854775808 - (IntKind.u64.wrap ((IntKind.u64.wrap (bt x4_5 x8_4)) - 48)))) 10)) < x6_4) = true := decide_eq_true c24; clear c24; have H' := Aside0.mk H; clear H
                  have p20 : 0 ≤ (x8_4 : Int) := of_decide_eq_true pa
                  have q20 : x8_4 < (x4_5.size : Int) := of_decide_eq_true pa
                  have hx20 := bt_at x4_5 x8_4; replace p20 := eq_true p20; replace q20 := eq_true q20
                  have p21 : 0 ≤ (x8_4 : Int) := of_decide_eq_true pa
                  have q21 : x8_4 < (x4_5.size : Int) := of_decide_eq_true pa
                  have hx21 := bt_at x4_5 x8_4; replace p21 := eq_true p21; replace q21 := eq_true q21
                  go_wp2_with ((with_reducible refine wp_label ?_))
                  go_meet
                  case rel => exact ⟨_, (x6_4), (false), pr, pr, H', ⟨by have := HJ1.out; have := HJ5.out; have := HJ8.out; have := HK4.out; have := HJ14.out; first | omega | exact Nat.le_refl _⟩, by repeat (first | exact Drawn0.refl _ | apply Drawn0.step)⟩
                 ·rw [if_neg c24] at H; have c24b0 : decide ((IntKind.u64.wrap (Int.tdiv (IntKind.u64.wrap (9223372036854775808 - (IntKind.u64.wrap ((IntKind.u64.wrap (bt x4_5 x8_4)) - 48)))) 10)) < x6_4) = false := decide_eq_false c24; clear c24; have H' := Aside0.mk H; clear H
                  have p20 : 0 ≤ (x8_4 : Int) := of_decide_eq_true pa
                  have q20 : x8_4 < (x4_5.size : Int) := of_decide_eq_true pa
                  have hx20 := bt_at x4_5 x8_4; replace p20 := eq_true p20; replace q20 := eq_true q20
                  have p21 : 0 ≤ (x8_4 : Int) := of_decide_eq_true pa
                  have q21 : x8_4 < (x4_5.size : Int) := of_decide_eq_true pa
                  have hx21 := bt_at x4_5 x8_4; replace p21 := eq_true p21; replace q21 := eq_true q21
                  go_wp2_with ((with_reducible refine wp_label ?_))
                  go_roundg kj14
                  case measure => have := HJ1.out; have := HJ5.out; have := HJ8.out; have := HK4.out; have := HJ14.out; omega
                  case rel => exact ⟨(IntKind.u64.wrap ((IntKind.u64.wrap (x6_4 * 10)) + (IntKind.u64.wrap ((IntKind.u64.wrap (bt x4_5 x8_4)) - 48)))), (x7_4), (wrap64 (x8_4 + 1)), pr, pr, pr, H', ⟨by have := HJ1.out; have := HJ5.out; have := HJ8.out; have := HK4.out; have := HJ14.out; omega⟩, by repeat (first | exact Drawn0.refl _ | apply Drawn0.step)⟩
              ·rw [if_neg c19] at H; exact absurd H (by simp)
             ·rw [if_neg c18] at H; exact absurd H (by simp)
            ·replace c17 := Bool.eq_false_iff.mpr c17; subst c17; rw [if_neg (show ¬ (false = true) by decide)] at H; have H' := Aside0.mk H; clear H
             go_wp2_with ((with_reducible refine wp_label ?_))
             go_meet
             case rel => exact ⟨_, (x6_4), (x7_4), pr, pr, H', ⟨by have := HJ1.out; have := HJ5.out; have := HJ8.out; have := HK4.out; have := HJ14.out; first | omega | exact Nat.le_refl _⟩, by repeat (first | exact Drawn0.refl _ | apply Drawn0.step)⟩
       case rest =>
        clear HC14; obtain ⟨kq, x6_13, x7_13, rfl, rfl, HA, HJ13, ⟨mc13, rfl⟩⟩ := hcut
        cases kq with
        | zero => exact absurd HA.out (by simp [num_Parse.j5])
        | succ kj13 =>
         have H := HA.out; clear HA; simp only [num_Parse.j5] at H; have HC25 := Aside0.mk H; clear H
         go_upto_region 13 with (((with_reducible refine wp_label ?_)))
         go_cut [74] (fun v74 wc => ∃ (kq : Nat) (x74_24 : Bool), v74 = .bool x74_24 ∧ Aside0 (num_Parse.j6 kq x5_5 x6_13 x74_24 = some (r1, r2)) ∧ Aside0 (kq ≤ kj13) ∧ Drawn0 w wc)
         case first =>
          have H := HC25.out; clear HC25
          by_cases c26 : x7_13 = true
          ·subst c26; rw [if_pos rfl] at H
           by_cases c27 : x6_13 = 9223372036854775808
           ·rw [if_pos c27] at H; have c27b0 : (x6_13 == 9223372036854775808) = true := beq_iff_eq.mpr c27; have c27b1 : (x6_13 != 9223372036854775808) = false := bne_eq_false_iff_eq.mpr c27; clear c27; (first | rw [c27b0] | (simp only [i64_w, i32_w]; rw [c27b0]) | skip); have H' := Aside0.mk H; clear H
            go_wp2_with ((with_reducible refine wp_label ?_))
            go_meet
            case rel => exact ⟨_, (!x5_5), pr, H', ⟨by have := HJ1.out; have := HJ5.out; have := HJ8.out; have := HJ13.out; first | omega | exact Nat.le_refl _⟩, by repeat (first | exact Drawn0.refl _ | apply Drawn0.step)⟩
           ·rw [if_neg c27] at H; have c27b0 : (x6_13 == 9223372036854775808) = false := beq_eq_false_iff_ne.mpr c27; have c27b1 : (x6_13 != 9223372036854775808) = true := bne_iff_ne.mpr c27; (first | rw [c27b0] | (simp only [i64_w, i32_w]; rw [c27b0]) | skip); have H' := Aside0.mk H; clear H
            go_wp2_with ((with_reducible refine wp_label ?_))
            go_meet
            case rel => exact ⟨_, (false), pr, H', ⟨by have := HJ1.out; have := HJ5.out; have := HJ8.out; have := HJ13.out; first | omega | exact Nat.le_refl _⟩, by repeat (first | exact Drawn0.refl _ | apply Drawn0.step)⟩
          ·replace c26 := Bool.eq_false_iff.mpr c26; subst c26; rw [if_neg (show ¬ (false = true) by decide)] at H; have H' := Aside0.mk H; clear H
           go_wp2_with ((with_reducible refine wp_label ?_))
           go_meet
           case rel => exact ⟨_, (true), pr, H', ⟨by have := HJ1.out; have := HJ5.out; have := HJ8.out; have := HJ13.out; first | omega | exact Nat.le_refl _⟩, by repeat (first | exact Drawn0.refl _ | apply Drawn0.step)⟩
         case rest =>
          clear HC25; obtain ⟨kq, x74_24, rfl, HA, HJ24, ⟨mc24, rfl⟩⟩ := hcut
          cases kq with
          | zero => exact absurd HA.out (by simp [num_Parse.j6])
          | succ kj24 =>
           have H := HA.out; clear HA; simp only [num_Parse.j6] at H
           by_cases c28 : x74_24 = true
           ·subst c28; rw [if_pos rfl] at H; simp only [Option.some.injEq, Prod.mk.injEq] at H; obtain ⟨rfl, rfl⟩ := H
            go_wp2_with ((with_reducible refine wp_label ?_))
            go_ret2; exact ⟨by first | rfl | (simp; done) | (simp [*]; done), by repeat (first | exact Drawn0.refl _ | apply Drawn0.step)⟩
           ·replace c28 := Bool.eq_false_iff.mpr c28; subst c28; rw [if_neg (show ¬ (false = true) by decide)] at H
            by_cases c29 : x5_5 = true
            ·subst c29; rw [if_pos rfl] at H; simp only [Option.some.injEq, Prod.mk.injEq] at H; obtain ⟨rfl, rfl⟩ := H
             go_wp2_with ((with_reducible refine wp_label ?_))
             go_ret2; exact ⟨by first | rfl | (simp; done) | (simp [*]; done), by repeat (first | exact Drawn0.refl _ | apply Drawn0.step)⟩
            ·replace c29 := Bool.eq_false_iff.mpr c29; subst c29; rw [if_neg (show ¬ (false = true) by decide)] at H; simp only [Option.some.injEq, Prod.mk.injEq] at H; obtain ⟨rfl, rfl⟩ := H
             go_wp2_with ((with_reducible refine wp_label ?_))
             go_ret2; exact ⟨by first | rfl | (simp; done) | (simp [*]; done), by repeat (first | exact Drawn0.refl _ | apply Drawn0.step)⟩

end Go.Proofs.YtdbpdcjlbopkbaaDoor.P
