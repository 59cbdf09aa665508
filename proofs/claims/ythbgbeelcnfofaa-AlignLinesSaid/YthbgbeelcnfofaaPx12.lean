-- Written by a program of this session (its own turn of the print: wip/patch_print.py), not by hand. Lean checks it.
import Derived.Test.YthbgbeelcnfofaaPx0
import Derived.Test.YthbgbeelcnfofaaPx1
namespace Go.Proofs.Ythbgbeelcnfofaa.P
open Go.RowKit Go.Proofs.YthbgbeelcnfofaaW.PrintWords Go.Proofs.YthbgbeelcnfofaaW.PrintLast Go.Proofs.YthbgbeelcnfofaaW.PrintMore
attribute [local go_sem] max2_int min2_int max_two min_two max_three min_three max_four min_four   -- for this text's walks alone
set_option linter.unusedVariables false
set_option linter.unusedSimpArgs false

attribute [local go_sem high] eqA24
/-! ### parallaxref15_Rises: function 40 -/
mutual
def parallaxref15_Rises.l0 : Nat → Int → Int → List (S67) → Int → Option (Bool)
 | 0, _, _, _, _ => none
 | k + 1, x0, x1, x2, x7 => if x7 < (x2.length : Int) then (if 0 ≤ x7 then (if ((rd_T67 x2 x7).f0) < 0 then (parallaxref15_Rises.j1 k x0 x1 x2 x7 true) else (if ((rd_T67 x2 x7).f1) < 0 then (parallaxref15_Rises.j1 k x0 x1 x2 x7 true) else (if ((rd_T67 x2 x7).f0) ≥ x0 then (parallaxref15_Rises.j1 k x0 x1 x2 x7 true) else (parallaxref15_Rises.j1 k x0 x1 x2 x7 (decide (((rd_T67 x2 x7).f1) ≥ x1)))))) else (none)) else (some true)
def parallaxref15_Rises.j1 : Nat → Int → Int → List (S67) → Int → Bool → Option (Bool)
 | 0, _, _, _, _, _ => none
 | k + 1, x0, x1, x2, x7, x45 => if x45 = true then (some false) else (if x7 > 0 then (if 0 ≤ x7 then (if x7 < (x2.length : Int) then (if 0 ≤ (wrap64 (x7 - 1)) then (if (wrap64 (x7 - 1)) < (x2.length : Int) then (if ((rd_T67 x2 x7).f0) ≤ ((rd_T67 x2 (wrap64 (x7 - 1))).f0) then (some false) else (if ((rd_T67 x2 x7).f1) ≤ ((rd_T67 x2 (wrap64 (x7 - 1))).f1) then (some false) else (parallaxref15_Rises.l0 k x0 x1 x2 (wrap64 (x7 + 1))))) else (none)) else (none)) else (none)) else (none)) else (parallaxref15_Rises.l0 k x0 x1 x2 (wrap64 (x7 + 1))))
end
def parallaxref15_Rises.f (k : Nat) (a0 : Int) (a1 : Int) (l2 : List (S67)) : Option (Bool) := parallaxref15_Rises.l0 k a0 a1 l2 0
theorem parallaxref15_Rises.mono_l : ∀ k, (∀ y0 y1 y2 y3, LeO (parallaxref15_Rises.l0 k y0 y1 y2 y3) (parallaxref15_Rises.l0 (k + 1) y0 y1 y2 y3)) ∧ (∀ y0 y1 y2 y3 y4, LeO (parallaxref15_Rises.j1 k y0 y1 y2 y3 y4) (parallaxref15_Rises.j1 (k + 1) y0 y1 y2 y3 y4))
 | 0 => ⟨fun _ _ _ _ r h => by simp [parallaxref15_Rises.l0] at h, fun _ _ _ _ _ r h => by simp [parallaxref15_Rises.j1] at h⟩
 | k + 1 => by
  obtain ⟨ih0, ih1⟩ := parallaxref15_Rises.mono_l k
  refine ⟨?_, ?_⟩
  ·intro y0 y1 y2 y3
   unfold parallaxref15_Rises.l0
   repeat' first
   | (with_reducible exact ih0 _ _ _ _)
   | (with_reducible exact ih1 _ _ _ _ _)
   | (with_reducible exact LeO.refl _)
   | (with_reducible exact LeO.none _)
   | (with_reducible refine LeO.ite ?_ ?_)
   | (with_reducible refine LeO.bind ?_ (fun _ => ?_))
   | exact ih0 _ _ _ _
   | exact ih1 _ _ _ _ _
   | exact LeO.none _
   | refine LeO.ite ?_ ?_
   | refine LeO.bind ?_ (fun _ => ?_)
  ·intro y0 y1 y2 y3 y4
   unfold parallaxref15_Rises.j1
   repeat' first
   | (with_reducible exact ih0 _ _ _ _)
   | (with_reducible exact ih1 _ _ _ _ _)
   | (with_reducible exact LeO.refl _)
   | (with_reducible exact LeO.none _)
   | (with_reducible refine LeO.ite ?_ ?_)
   | (with_reducible refine LeO.bind ?_ (fun _ => ?_))
   | exact ih0 _ _ _ _
   | exact ih1 _ _ _ _ _
   | exact LeO.none _
   | refine LeO.ite ?_ ?_
   | refine LeO.bind ?_ (fun _ => ?_)
theorem parallaxref15_Rises.mono : ∀ a0 a1 a2 k, LeO (parallaxref15_Rises.f k a0 a1 a2) (parallaxref15_Rises.f (k + 1) a0 a1 a2) := by
 intro a0 a1 a2 k
 obtain ⟨ih0, ih1⟩ := parallaxref15_Rises.mono_l k
 unfold parallaxref15_Rises.f
 repeat' first
   | (with_reducible exact ih0 _ _ _ _)
   | (with_reducible exact ih1 _ _ _ _ _)
   | (with_reducible exact LeO.refl _)
   | (with_reducible exact LeO.none _)
   | (with_reducible refine LeO.ite ?_ ?_)
   | (with_reducible refine LeO.bind ?_ (fun _ => ?_))
   | exact ih0 _ _ _ _
   | exact ih1 _ _ _ _ _
   | exact LeO.none _
   | refine LeO.ite ?_ ?_
   | refine LeO.bind ?_ (fun _ => ?_)
set_option maxHeartbeats 8000000 in
set_option maxRecDepth 100000 in
theorem parallaxref15_Rises.calls (k : Nat) (a0 : Int) (a1 : Int) (A2 : Option Addr) (c2 : Nat) (l2 : List (S67)) (r : Bool) (w : World) (hr2 : Kd.C k67 w A2 l2.length l2) (hc2 : l2.length ≤ c2) (h : parallaxref15_Rises.f k a0 a1 l2 = some r) :
  Calls Try.prog 40 #[.int .i64 a0, .int .i64 a1, .slice A2 l2.length c2] w fun e w' => e = .returned (.bool r) ∧ Drawn0 w w' := by
 have HR2 := Aside0.mk hr2; have HC2 := Aside0.mk hc2; clear hr2 hc2; have H : (parallaxref15_Rises.l0 k a0 a1 l2 0) = some r := h; clear h; have H' := Aside0.mk H; clear H; go_enter Try.func40, Try.ntmps40; go_wp2
 repeat (go_quiet (fail); try go_wp2)
 go_loopg [7] k (fun kq v7 w' => ∃ (x7_1 : Int), v7 = .int .i64 x7_1 ∧ Aside0 (parallaxref15_Rises.l0 kq a0 a1 l2 x7_1 = some r) ∧ Aside0 (kq ≤ k) ∧ Drawn0 w w')
 case atStart => exact ⟨(0), (by first | rfl | (simp; done) | (simp [*]; done)), H', ⟨Nat.le_refl _⟩, by repeat (first | exact Drawn0.refl _ | apply Drawn0.step)⟩
 case round =>
  clear H'; (try clear c2); (try clear p2); obtain ⟨x7_1, rfl, HA, HK1, ⟨m1, rfl⟩⟩ := hrel
  cases gk with
  | zero => exact absurd HA.out (by simp [parallaxref15_Rises.l0])
  | succ k1 =>
   have H := HA.out; clear HA; simp only [parallaxref15_Rises.l0] at H
   by_cases c4 : x7_1 < (l2.length : Int)
   ·rw [if_pos c4] at H; have c4b0 : decide (x7_1 < (l2.length : Int)) = true := decide_eq_true c4; clear c4; have HC5 := Aside0.mk H; clear H
    go_upto_region 4 with (fail)
    repeat (go_quiet (fail); go_upto_region 4 with (fail))
    go_cut [45] (fun v45 wc => ∃ (kq : Nat) (x45_4 : Bool), v45 = .bool x45_4 ∧ Aside0 (parallaxref15_Rises.j1 kq a0 a1 l2 x7_1 x45_4 = some r) ∧ Aside0 (kq ≤ k1) ∧ Drawn0 w wc)
    case first =>
     have H := HC5.out; clear HC5
     by_cases c6 : 0 ≤ x7_1
     ·rw [if_pos c6] at H; have c6b0 : decide (0 ≤ x7_1) = true := decide_eq_true c6; clear c6; (first | rw [c6b0] | (simp only [i64_w, i32_w]; rw [c6b0]) | skip)
      by_cases c7 : ((rd_T67 l2 x7_1).f0) < 0
      ·rw [if_pos c7] at H; have c7b0 : decide (((rd_T67 l2 x7_1).f0) < 0) = true := decide_eq_true c7; clear c7; have H' := Aside0.mk H; clear H
       have p293 : 0 ≤ (x7_1 : Int) := of_decide_eq_true (by first | (with_reducible assumption) | assumption)
       have q293 : x7_1 < (l2.length : Int) := of_decide_eq_true (by first | (with_reducible assumption) | assumption)
       obtain ⟨ad293, e293, hx293_0, hx293_1⟩ := at_T67 HR2.out x7_1 p293 q293
       cases e293
       replace p293 := eq_true p293; replace q293 := eq_true q293; go_wp2
       repeat (go_quiet (fail); try go_wp2)
       go_meet
       case rel => exact ⟨_, (true), (by first | rfl | (simp; done) | (simp [*]; done)), H', ⟨by have := HK1.out; first | omega | exact Nat.le_refl _⟩, by repeat (first | exact Drawn0.refl _ | apply Drawn0.step)⟩
      ·rw [if_neg c7] at H; have c7b0 : decide (((rd_T67 l2 x7_1).f0) < 0) = false := decide_eq_false c7; clear c7
       by_cases c8 : ((rd_T67 l2 x7_1).f1) < 0
       ·rw [if_pos c8] at H; have c8b0 : decide (((rd_T67 l2 x7_1).f1) < 0) = true := decide_eq_true c8; clear c8; have H' := Aside0.mk H; clear H
        have p293 : 0 ≤ (x7_1 : Int) := of_decide_eq_true (by first | (with_reducible assumption) | assumption)
        have q293 : x7_1 < (l2.length : Int) := of_decide_eq_true (by first | (with_reducible assumption) | assumption)
        obtain ⟨ad293, e293, hx293_0, hx293_1⟩ := at_T67 HR2.out x7_1 p293 q293
        cases e293
        replace p293 := eq_true p293; replace q293 := eq_true q293
        have p294 : 0 ≤ (x7_1 : Int) := of_decide_eq_true (by first | (with_reducible assumption) | assumption)
        have q294 : x7_1 < (l2.length : Int) := of_decide_eq_true (by first | (with_reducible assumption) | assumption)
        obtain ⟨ad294, e294, hx294_0, hx294_1⟩ := at_T67 HR2.out x7_1 p294 q294; obtain rfl : ad293 = ad294 := (by injection e294); replace p294 := eq_true p294; replace q294 := eq_true q294; go_wp2
        repeat (go_quiet (fail); try go_wp2)
        go_meet
        case rel => exact ⟨_, (true), (by first | rfl | (simp; done) | (simp [*]; done)), H', ⟨by have := HK1.out; first | omega | exact Nat.le_refl _⟩, by repeat (first | exact Drawn0.refl _ | apply Drawn0.step)⟩
       ·rw [if_neg c8] at H; have c8b0 : decide (((rd_T67 l2 x7_1).f1) < 0) = false := decide_eq_false c8; clear c8
        by_cases c9 : ((rd_T67 l2 x7_1).f0) ≥ a0
        ·rw [if_pos c9] at H; have c9b0 : decide (a0 ≤ ((rd_T67 l2 x7_1).f0)) = true := decide_eq_true c9; clear c9; have H' := Aside0.mk H; clear H
         have p293 : 0 ≤ (x7_1 : Int) := of_decide_eq_true (by first | (with_reducible assumption) | assumption)
         have q293 : x7_1 < (l2.length : Int) := of_decide_eq_true (by first | (with_reducible assumption) | assumption)
         obtain ⟨ad293, e293, hx293_0, hx293_1⟩ := at_T67 HR2.out x7_1 p293 q293
         cases e293
         replace p293 := eq_true p293; replace q293 := eq_true q293
         have p294 : 0 ≤ (x7_1 : Int) := of_decide_eq_true (by first | (with_reducible assumption) | assumption)
         have q294 : x7_1 < (l2.length : Int) := of_decide_eq_true (by first | (with_reducible assumption) | assumption)
         obtain ⟨ad294, e294, hx294_0, hx294_1⟩ := at_T67 HR2.out x7_1 p294 q294; obtain rfl : ad293 = ad294 := (by injection e294); replace p294 := eq_true p294; replace q294 := eq_true q294
         have p295 : 0 ≤ (x7_1 : Int) := of_decide_eq_true (by first | (with_reducible assumption) | assumption)
         have q295 : x7_1 < (l2.length : Int) := of_decide_eq_true (by first | (with_reducible assumption) | assumption)
         obtain ⟨ad295, e295, hx295_0, hx295_1⟩ := at_T67 HR2.out x7_1 p295 q295; obtain rfl : ad293 = ad295 := (by injection e295); replace p295 := eq_true p295; replace q295 := eq_true q295; go_wp2
         repeat (go_quiet (fail); try go_wp2)
         go_meet
         case rel => exact ⟨_, (true), (by first | rfl | (simp; done) | (simp [*]; done)), H', ⟨by have := HK1.out; first | omega | exact Nat.le_refl _⟩, by repeat (first | exact Drawn0.refl _ | apply Drawn0.step)⟩
        ·rw [if_neg c9] at H; have c9b0 : decide (a0 ≤ ((rd_T67 l2 x7_1).f0)) = false := decide_eq_false c9; clear c9; have H' := Aside0.mk H; clear H
         have p293 : 0 ≤ (x7_1 : Int) := of_decide_eq_true (by first | (with_reducible assumption) | assumption)
         have q293 : x7_1 < (l2.length : Int) := of_decide_eq_true (by first | (with_reducible assumption) | assumption)
         obtain ⟨ad293, e293, hx293_0, hx293_1⟩ := at_T67 HR2.out x7_1 p293 q293
         cases e293
         replace p293 := eq_true p293; replace q293 := eq_true q293
         have p294 : 0 ≤ (x7_1 : Int) := of_decide_eq_true (by first | (with_reducible assumption) | assumption)
         have q294 : x7_1 < (l2.length : Int) := of_decide_eq_true (by first | (with_reducible assumption) | assumption)
         obtain ⟨ad294, e294, hx294_0, hx294_1⟩ := at_T67 HR2.out x7_1 p294 q294; obtain rfl : ad293 = ad294 := (by injection e294); replace p294 := eq_true p294; replace q294 := eq_true q294
         have p295 : 0 ≤ (x7_1 : Int) := of_decide_eq_true (by first | (with_reducible assumption) | assumption)
         have q295 : x7_1 < (l2.length : Int) := of_decide_eq_true (by first | (with_reducible assumption) | assumption)
         obtain ⟨ad295, e295, hx295_0, hx295_1⟩ := at_T67 HR2.out x7_1 p295 q295; obtain rfl : ad293 = ad295 := (by injection e295); replace p295 := eq_true p295; replace q295 := eq_true q295
         have p296 : 0 ≤ (x7_1 : Int) := of_decide_eq_true (by first | (with_reducible assumption) | assumption)
         have q296 : x7_1 < (l2.length : Int) := of_decide_eq_true (by first | (with_reducible assumption) | assumption)
         obtain ⟨ad296, e296, hx296_0, hx296_1⟩ := at_T67 HR2.out x7_1 p296 q296; obtain rfl : ad293 = ad296 := (by injection e296); replace p296 := eq_true p296; replace q296 := eq_true q296; go_wp2
         repeat (go_quiet (fail); try go_wp2)
         go_meet
         case rel => exact ⟨_, (decide (((rd_T67 l2 x7_1).f1) ≥ a1)), (by first | rfl | (simp; done) | (simp [*]; done)), H', ⟨by have := HK1.out; first | omega | exact Nat.le_refl _⟩, by repeat (first | exact Drawn0.refl _ | apply Drawn0.step)⟩
     ·rw [if_neg c6] at H; exact absurd H (by simp)
    case rest =>
     clear HC5; (try clear c2); (try clear p2); (try clear q2); (try clear hx2); (try clear c4); (try clear c4b0); (try clear c6); (try clear c6b0); (try clear c7); (try clear c7b0); (try clear c8); (try clear c8b0); (try clear c9); (try clear c9b0); (try clear hx293_0); (try clear hx293_1); (try clear hx294_0); (try clear hx294_1); (try clear hx295_0); (try clear hx295_1); (try clear hx296_0); (try clear hx296_1); (try clear p2); (try clear p293); (try clear p294); (try clear p295); (try clear p296); (try clear q293); (try clear q294); (try clear q295); (try clear q296); obtain ⟨kq, x45_4, rfl, HA, HJ4, ⟨mc4, rfl⟩⟩ := hcut
     cases kq with
     | zero => exact absurd HA.out (by simp [parallaxref15_Rises.j1])
     | succ kj4 =>
      have H := HA.out; clear HA; simp only [parallaxref15_Rises.j1] at H
      by_cases c10 : x45_4 = true
      ·subst c10; have H1 : (some false) = some r := by rw [if_pos rfl] at H; exact H
       clear H; have H := H1; clear H1; obtain rfl := Option.some.inj H; go_wp2
       repeat (go_quiet (fail); try go_wp2)
       go_ret; exact ⟨by first | rfl | (simp; done) | (simp [*]; done), by repeat (first | exact Drawn0.refl _ | apply Drawn0.step)⟩
      ·replace c10 := Bool.eq_false_iff.mpr c10; subst c10; have H1 : (if x7_1 > 0 then (if 0 ≤ x7_1 then (if x7_1 < (l2.length : Int) then (if 0 ≤ (wrap64 (x7_1 - 1)) then (if (wrap64 (x7_1 - 1)) < (l2.length : Int) then (if ((rd_T67 l2 x7_1).f0) ≤ ((rd_T67 l2 (wrap64 (x7_1 - 1))).f0) then (some false) else (if ((rd_T67 l2 x7_1).f1) ≤ ((rd_T67 l2 (wrap64 (x7_1 - 1))).f1) then (some false) else (parallaxref15_Rises.l0 kj4 a0 a1 l2 (wrap64 (x7_1 + 1))))) else (none)) else (none)) else (none)) else (none)) else (parallaxref15_Rises.l0 kj4 a0 a1 l2 (wrap64 (x7_1 + 1)))) = some r := by rw [if_neg (show ¬ (false = true) by decide)] at H; exact H
       clear H; have H := H1; clear H1
       by_cases c11 : x7_1 > 0
       ·rw [if_pos c11] at H; have c11b0 : decide (0 < x7_1) = true := decide_eq_true c11; clear c11
        by_cases c12 : 0 ≤ x7_1
        ·rw [if_pos c12] at H; have c12b0 : decide (0 ≤ x7_1) = true := decide_eq_true c12; clear c12
         by_cases c13 : x7_1 < (l2.length : Int)
         ·rw [if_pos c13] at H; have c13b0 : decide (x7_1 < (l2.length : Int)) = true := decide_eq_true c13; clear c13; obtain ⟨ji14, hji14⟩ : ∃ j_ : Int, (wrap64 (x7_1 - 1)) = j_ := ⟨_, rfl⟩; replace H : (if 0 ≤ (ji14) then (if (ji14) < (l2.length : Int) then (if ((rd_T67 l2 x7_1).f0) ≤ ((rd_T67 l2 (ji14)).f0) then (some false) else (if ((rd_T67 l2 x7_1).f1) ≤ ((rd_T67 l2 (ji14)).f1) then (some false) else (parallaxref15_Rises.l0 kj4 a0 a1 l2 (wrap64 (x7_1 + 1))))) else (none)) else (none)) = some r := by first | (rw [hji14] at H; exact H) | (simp only [hji14] at H ⊢; exact H)
          have hji14w : (IntKind.i64.wrap (x7_1 - 1)) = ji14 := (i64_w _).trans hji14
          by_cases c15 : 0 ≤ (ji14)
          ·rw [if_pos c15] at H; have c15b0 : decide (0 ≤ (ji14)) = true := decide_eq_true c15; clear c15
           by_cases c16 : (ji14) < (l2.length : Int)
           ·rw [if_pos c16] at H; have c16b0 : decide ((ji14) < (l2.length : Int)) = true := decide_eq_true c16; clear c16
            by_cases c17 : ((rd_T67 l2 x7_1).f0) ≤ ((rd_T67 l2 (ji14)).f0)
            ·rw [if_pos c17] at H; have c17b0 : decide (((rd_T67 l2 x7_1).f0) ≤ ((rd_T67 l2 (ji14)).f0)) = true := decide_eq_true c17; clear c17; obtain rfl := Option.some.inj H
             have p297 : 0 ≤ (x7_1 : Int) := of_decide_eq_true (by first | (with_reducible assumption) | assumption)
             have q297 : x7_1 < (l2.length : Int) := of_decide_eq_true (by first | (with_reducible assumption) | assumption)
             obtain ⟨ad297, e297, hx297_0, hx297_1⟩ := at_T67 HR2.out x7_1 p297 q297
             cases e297
             replace p297 := eq_true p297; replace q297 := eq_true q297
             have p298 : 0 ≤ ((ji14) : Int) := of_decide_eq_true (by first | (with_reducible assumption) | assumption)
             have q298 : (ji14) < (l2.length : Int) := of_decide_eq_true (by first | (with_reducible assumption) | assumption)
             obtain ⟨ad298, e298, hx298_0, hx298_1⟩ := at_T67 HR2.out (ji14) p298 q298; obtain rfl : ad297 = ad298 := (by injection e298); replace p298 := eq_true p298; replace q298 := eq_true q298; go_wp2
             repeat (go_quiet (fail); try go_wp2)
             go_ret; exact ⟨by first | rfl | (simp; done) | (simp only [← hji14] <;> (first | rfl | simp)) | (simp [*]; done), by repeat (first | exact Drawn0.refl _ | apply Drawn0.step)⟩
            ·rw [if_neg c17] at H; have c17b0 : decide (((rd_T67 l2 x7_1).f0) ≤ ((rd_T67 l2 (ji14)).f0)) = false := decide_eq_false c17; clear c17
             by_cases c18 : ((rd_T67 l2 x7_1).f1) ≤ ((rd_T67 l2 (ji14)).f1)
             ·rw [if_pos c18] at H; have c18b0 : decide (((rd_T67 l2 x7_1).f1) ≤ ((rd_T67 l2 (ji14)).f1)) = true := decide_eq_true c18; clear c18; obtain rfl := Option.some.inj H
              have p297 : 0 ≤ (x7_1 : Int) := of_decide_eq_true (by first | (with_reducible assumption) | assumption)
              have q297 : x7_1 < (l2.length : Int) := of_decide_eq_true (by first | (with_reducible assumption) | assumption)
              obtain ⟨ad297, e297, hx297_0, hx297_1⟩ := at_T67 HR2.out x7_1 p297 q297
              cases e297
              replace p297 := eq_true p297; replace q297 := eq_true q297
              have p298 : 0 ≤ ((ji14) : Int) := of_decide_eq_true (by first | (with_reducible assumption) | assumption)
              have q298 : (ji14) < (l2.length : Int) := of_decide_eq_true (by first | (with_reducible assumption) | assumption)
              obtain ⟨ad298, e298, hx298_0, hx298_1⟩ := at_T67 HR2.out (ji14) p298 q298; obtain rfl : ad297 = ad298 := (by injection e298); replace p298 := eq_true p298; replace q298 := eq_true q298
              have p299 : 0 ≤ (x7_1 : Int) := of_decide_eq_true (by first | (with_reducible assumption) | assumption)
              have q299 : x7_1 < (l2.length : Int) := of_decide_eq_true (by first | (with_reducible assumption) | assumption)
              obtain ⟨ad299, e299, hx299_0, hx299_1⟩ := at_T67 HR2.out x7_1 p299 q299; obtain rfl : ad297 = ad299 := (by injection e299); replace p299 := eq_true p299; replace q299 := eq_true q299
              have p300 : 0 ≤ ((ji14) : Int) := of_decide_eq_true (by first | (with_reducible assumption) | assumption)
              have q300 : (ji14) < (l2.length : Int) := of_decide_eq_true (by first | (with_reducible assumption) | assumption)
              obtain ⟨ad300, e300, hx300_0, hx300_1⟩ := at_T67 HR2.out (ji14) p300 q300; obtain rfl : ad297 = ad300 := (by injection e300); replace p300 := eq_true p300; replace q300 := eq_true q300; go_wp2
              repeat (go_quiet (fail); try go_wp2)
              go_ret; exact ⟨by first | rfl | (simp; done) | (simp only [← hji14] <;> (first | rfl | simp)) | (simp [*]; done), by repeat (first | exact Drawn0.refl _ | apply Drawn0.step)⟩
             ·rw [if_neg c18] at H; have c18b0 : decide (((rd_T67 l2 x7_1).f1) ≤ ((rd_T67 l2 (ji14)).f1)) = false := decide_eq_false c18; clear c18; have H' := Aside0.mk H; clear H
              have p297 : 0 ≤ (x7_1 : Int) := of_decide_eq_true (by first | (with_reducible assumption) | assumption)
              have q297 : x7_1 < (l2.length : Int) := of_decide_eq_true (by first | (with_reducible assumption) | assumption)
              obtain ⟨ad297, e297, hx297_0, hx297_1⟩ := at_T67 HR2.out x7_1 p297 q297
              cases e297
              replace p297 := eq_true p297; replace q297 := eq_true q297
              have p298 : 0 ≤ ((ji14) : Int) := of_decide_eq_true (by first | (with_reducible assumption) | assumption)
              have q298 : (ji14) < (l2.length : Int) := of_decide_eq_true (by first | (with_reducible assumption) | assumption)
              obtain ⟨ad298, e298, hx298_0, hx298_1⟩ := at_T67 HR2.out (ji14) p298 q298; obtain rfl : ad297 = ad298 := (by injection e298); replace p298 := eq_true p298; replace q298 := eq_true q298
              have p299 : 0 ≤ (x7_1 : Int) := of_decide_eq_true (by first | (with_reducible assumption) | assumption)
              have q299 : x7_1 < (l2.length : Int) := of_decide_eq_true (by first | (with_reducible assumption) | assumption)
              obtain ⟨ad299, e299, hx299_0, hx299_1⟩ := at_T67 HR2.out x7_1 p299 q299; obtain rfl : ad297 = ad299 := (by injection e299); replace p299 := eq_true p299; replace q299 := eq_true q299
              have p300 : 0 ≤ ((ji14) : Int) := of_decide_eq_true (by first | (with_reducible assumption) | assumption)
              have q300 : (ji14) < (l2.length : Int) := of_decide_eq_true (by first | (with_reducible assumption) | assumption)
              obtain ⟨ad300, e300, hx300_0, hx300_1⟩ := at_T67 HR2.out (ji14) p300 q300; obtain rfl : ad297 = ad300 := (by injection e300); replace p300 := eq_true p300; replace q300 := eq_true q300; go_wp2
              repeat (go_quiet (fail); try go_wp2)
              go_roundg kj4
              case measure => have := HK1.out; have := HJ4.out; omega
              case rel => exact ⟨(wrap64 (x7_1 + 1)), (by first | rfl | (simp; done) | (simp [*]; done)), H', ⟨by have := HK1.out; have := HJ4.out; omega⟩, by repeat (first | exact Drawn0.refl _ | apply Drawn0.step)⟩
           ·rw [if_neg c16] at H; exact absurd H (by simp)
          ·rw [if_neg c15] at H; exact absurd H (by simp)
         ·rw [if_neg c13] at H; exact absurd H (by simp)
        ·rw [if_neg c12] at H; exact absurd H (by simp)
       ·rw [if_neg c11] at H; have c11b0 : decide (0 < x7_1) = false := decide_eq_false c11; clear c11; have H' := Aside0.mk H; clear H; go_wp2
        repeat (go_quiet (fail); try go_wp2)
        go_roundg kj4
        case measure => have := HK1.out; have := HJ4.out; omega
        case rel => exact ⟨(wrap64 (x7_1 + 1)), (by first | rfl | (simp; done) | (simp [*]; done)), H', ⟨by have := HK1.out; have := HJ4.out; omega⟩, by repeat (first | exact Drawn0.refl _ | apply Drawn0.step)⟩
   ·rw [if_neg c4] at H; have c4b0 : decide (x7_1 < (l2.length : Int)) = false := decide_eq_false c4; clear c4; obtain rfl := Option.some.inj H; go_wp2
    repeat (go_quiet (fail); try go_wp2)
    go_ret; exact ⟨by first | rfl | (simp; done) | (simp [*]; done), by repeat (first | exact Drawn0.refl _ | apply Drawn0.step)⟩

/-! ### parallaxref15_Fits: function 22 -/
def parallaxref15_Fits.l0 : Nat → List (S24) → List (S24) → List (S67) → Int → Option (Bool)
 | 0, _, _, _, _ => none
 | k + 1, x0, x1, x2, x7 => if x7 < (x2.length : Int) then (if 0 ≤ x7 then (if 0 ≤ ((rd_T67 x2 x7).f0) then (if ((rd_T67 x2 x7).f0) < (x0.length : Int) then (if 0 ≤ ((rd_T67 x2 x7).f1) then (if ((rd_T67 x2 x7).f1) < (x1.length : Int) then (if (!(((rd_T24 x0 ((rd_T67 x2 x7).f0)).f0) == ((rd_T24 x1 ((rd_T67 x2 x7).f1)).f0)) || (!(((rd_T24 x0 ((rd_T67 x2 x7).f0)).f1) == ((rd_T24 x1 ((rd_T67 x2 x7).f1)).f1)))) = true then (some false) else (parallaxref15_Fits.l0 k x0 x1 x2 (wrap64 (x7 + 1)))) else (none)) else (none)) else (none)) else (none)) else (none)) else (some true)
def parallaxref15_Fits.f (k : Nat) (l0 : List (S24)) (l1 : List (S24)) (l2 : List (S67)) : Option (Bool) := (parallaxref15_Rises.f k (l0.length : Int) (l1.length : Int) l2).bind fun t301 => (if t301 = true then (parallaxref15_Fits.l0 k l0 l1 l2 0) else (some false))
theorem parallaxref15_Fits.mono_l : ∀ k, (∀ y0 y1 y2 y3, LeO (parallaxref15_Fits.l0 k y0 y1 y2 y3) (parallaxref15_Fits.l0 (k + 1) y0 y1 y2 y3))
 | 0 => fun _ _ _ _ r h => by simp [parallaxref15_Fits.l0] at h
 | k + 1 => by
  have ih0 := parallaxref15_Fits.mono_l k
  ·intro y0 y1 y2 y3
   unfold parallaxref15_Fits.l0
   repeat' first
   | (with_reducible exact ih0 _ _ _ _)
   | (with_reducible exact parallaxref15_Rises.mono _ _ _ _)
   | (with_reducible exact LeO.refl _)
   | (with_reducible exact LeO.none _)
   | (with_reducible refine LeO.ite ?_ ?_)
   | (with_reducible refine LeO.bind ?_ (fun _ => ?_))
   | exact ih0 _ _ _ _
   | exact parallaxref15_Rises.mono _ _ _ _
   | exact LeO.none _
   | refine LeO.ite ?_ ?_
   | refine LeO.bind ?_ (fun _ => ?_)
theorem parallaxref15_Fits.mono : ∀ a0 a1 a2 k, LeO (parallaxref15_Fits.f k a0 a1 a2) (parallaxref15_Fits.f (k + 1) a0 a1 a2) := by
 intro a0 a1 a2 k
 have ih0 := parallaxref15_Fits.mono_l k
 unfold parallaxref15_Fits.f
 repeat' first
   | (with_reducible exact ih0 _ _ _ _)
   | (with_reducible exact parallaxref15_Rises.mono _ _ _ _)
   | (with_reducible exact LeO.refl _)
   | (with_reducible exact LeO.none _)
   | (with_reducible refine LeO.ite ?_ ?_)
   | (with_reducible refine LeO.bind ?_ (fun _ => ?_))
   | exact ih0 _ _ _ _
   | exact parallaxref15_Rises.mono _ _ _ _
   | exact LeO.none _
   | refine LeO.ite ?_ ?_
   | refine LeO.bind ?_ (fun _ => ?_)
set_option maxHeartbeats 8000000 in
set_option maxRecDepth 100000 in
theorem parallaxref15_Fits.calls (k : Nat) (A0 : Option Addr) (c0 : Nat) (l0 : List (S24)) (A1 : Option Addr) (c1 : Nat) (l1 : List (S24)) (A2 : Option Addr) (c2 : Nat) (l2 : List (S67)) (r : Bool) (w : World) (hr0 : Kd.C k24 w A0 l0.length l0) (hc0 : l0.length ≤ c0) (hr1 : Kd.C k24 w A1 l1.length l1) (hc1 : l1.length ≤ c1) (hr2 : Kd.C k67 w A2 l2.length l2) (hc2 : l2.length ≤ c2) (h : parallaxref15_Fits.f k l0 l1 l2 = some r) :
  Calls Try.prog 22 #[.slice A0 l0.length c0, .slice A1 l1.length c1, .slice A2 l2.length c2] w fun e w' => e = .returned (.bool r) ∧ Drawn0 w w' := by
 have hu24 := Try.underlying24; have HR0 := Aside0.mk hr0; have HC0 := Aside0.mk hc0; clear hr0 hc0; have HR1 := Aside0.mk hr1; have HC1 := Aside0.mk hc1; clear hr1 hc1; have HR2 := Aside0.mk hr2; have HC2 := Aside0.mk hc2; clear hr2 hc2; have H : ((parallaxref15_Rises.f k (l0.length : Int) (l1.length : Int) l2).bind fun t301 => (if t301 = true then (parallaxref15_Fits.l0 k l0 l1 l2 0) else (some false))) = some r := h; clear h; replace H := Option.bind_eq_some_iff.mp H; obtain ⟨t301, A40, H⟩ := H; replace H : (if t301 = true then (parallaxref15_Fits.l0 k l0 l1 l2 0) else (some false)) = some r := H; have A4 := Aside0.mk A40; clear A40
 by_cases c5 : t301 = true
 ·subst c5; have H1 : (parallaxref15_Fits.l0 k l0 l1 l2 0) = some r := by rw [if_pos rfl] at H; exact H
  clear H; have H := H1; clear H1; have H' := Aside0.mk H; clear H; go_enter Try.func22, Try.ntmps22
  go_wp2_with (first | (go_at_call 40; (with_reducible refine (parallaxref15_Rises.calls k (l0.length : Int) (l1.length : Int) _ _ l2 true _ ?side1 ?side2 A4.out).mono ?_); (case side1 => repeat (first | exact HR2.out | (with_reducible refine Kd.C_alloc ?_ _) | (with_reducible refine Kd.C_drewN ?_ _) | (with_reducible refine Kd.C_drew ?_))); (case side2 => exact HC2.out); rintro e w' ⟨rfl, ⟨nd, rfl⟩⟩; (try first | exact ⟨rfl, _, World.drewN_drewN _ _ _⟩ | exact ⟨rfl, _, Eq.trans (World.drewN_drewN _ _ _) (congrArg (World.drewN _) (Nat.add_assoc _ _ _))⟩)))
  repeat (go_quiet (fail); try go_wp2_with (first | (go_at_call 40; (with_reducible refine (parallaxref15_Rises.calls k (l0.length : Int) (l1.length : Int) _ _ l2 true _ ?side1 ?side2 A4.out).mono ?_); (case side1 => repeat (first | exact HR2.out | (with_reducible refine Kd.C_alloc ?_ _) | (with_reducible refine Kd.C_drewN ?_ _) | (with_reducible refine Kd.C_drew ?_))); (case side2 => exact HC2.out); rintro e w' ⟨rfl, ⟨nd, rfl⟩⟩; (try first | exact ⟨rfl, _, World.drewN_drewN _ _ _⟩ | exact ⟨rfl, _, Eq.trans (World.drewN_drewN _ _ _) (congrArg (World.drewN _) (Nat.add_assoc _ _ _))⟩))))
  go_loopg [7] k (fun kq v7 w' => ∃ (x7_1 : Int), v7 = .int .i64 x7_1 ∧ Aside0 (parallaxref15_Fits.l0 kq l0 l1 l2 x7_1 = some r) ∧ Aside0 (kq ≤ k) ∧ Drawn0 w w')
  case atStart => exact ⟨(0), (by first | rfl | (simp; done) | (simp [*]; done)), H', ⟨Nat.le_refl _⟩, by repeat (first | exact Drawn0.refl _ | apply Drawn0.step)⟩
  case round =>
   clear H'; (try clear c1); (try clear c2); (try clear p2); (try clear c5); obtain ⟨x7_1, rfl, HA, HK1, ⟨m1, rfl⟩⟩ := hrel
   cases gk with
   | zero => exact absurd HA.out (by simp [parallaxref15_Fits.l0])
   | succ k1 =>
    have H := HA.out; clear HA; simp only [parallaxref15_Fits.l0] at H
    by_cases c6 : x7_1 < (l2.length : Int)
    ·rw [if_pos c6] at H; have c6b0 : decide (x7_1 < (l2.length : Int)) = true := decide_eq_true c6; clear c6
     by_cases c7 : 0 ≤ x7_1
     ·rw [if_pos c7] at H; have c7b0 : decide (0 ≤ x7_1) = true := decide_eq_true c7; clear c7
      by_cases c8 : 0 ≤ ((rd_T67 l2 x7_1).f0)
      ·rw [if_pos c8] at H; have c8b0 : decide (0 ≤ ((rd_T67 l2 x7_1).f0)) = true := decide_eq_true c8; clear c8
       by_cases c9 : ((rd_T67 l2 x7_1).f0) < (l0.length : Int)
       ·rw [if_pos c9] at H; have c9b0 : decide (((rd_T67 l2 x7_1).f0) < (l0.length : Int)) = true := decide_eq_true c9; clear c9
        by_cases c10 : 0 ≤ ((rd_T67 l2 x7_1).f1)
        ·rw [if_pos c10] at H; have c10b0 : decide (0 ≤ ((rd_T67 l2 x7_1).f1)) = true := decide_eq_true c10; clear c10
         by_cases c11 : ((rd_T67 l2 x7_1).f1) < (l1.length : Int)
         ·rw [if_pos c11] at H; have c11b0 : decide (((rd_T67 l2 x7_1).f1) < (l1.length : Int)) = true := decide_eq_true c11; clear c11
          by_cases c12 : (!(((rd_T24 l0 ((rd_T67 l2 x7_1).f0)).f0) == ((rd_T24 l1 ((rd_T67 l2 x7_1).f1)).f0)) || (!(((rd_T24 l0 ((rd_T67 l2 x7_1).f0)).f1) == ((rd_T24 l1 ((rd_T67 l2 x7_1).f1)).f1)))) = true
          ·rw [if_pos c12] at H
           have c12b0 : (!(((rd_T24 l0 ((rd_T67 l2 x7_1).f0)).f0) == ((rd_T24 l1 ((rd_T67 l2 x7_1).f1)).f0)) || (!(((rd_T24 l0 ((rd_T67 l2 x7_1).f0)).f1) == ((rd_T24 l1 ((rd_T67 l2 x7_1).f1)).f1)))) = true := c12
           clear c12; obtain rfl := Option.some.inj H
           have p302 : 0 ≤ (x7_1 : Int) := of_decide_eq_true (by first | (with_reducible assumption) | assumption)
           have q302 : x7_1 < (l2.length : Int) := of_decide_eq_true (by first | (with_reducible assumption) | assumption)
           obtain ⟨ad302, e302, hx302_0, hx302_1⟩ := at_T67 HR2.out x7_1 p302 q302
           cases e302
           replace p302 := eq_true p302; replace q302 := eq_true q302
           have p303 : 0 ≤ (((rd_T67 l2 x7_1).f0) : Int) := of_decide_eq_true (by first | (with_reducible assumption) | assumption)
           have q303 : ((rd_T67 l2 x7_1).f0) < (l0.length : Int) := of_decide_eq_true (by first | (with_reducible assumption) | assumption)
           obtain ⟨ad303, e303, hx303_0, hx303_1⟩ := at_T24 HR0.out ((rd_T67 l2 x7_1).f0) p303 q303
           cases e303
           replace p303 := eq_true p303; replace q303 := eq_true q303
           have p304 : 0 ≤ (x7_1 : Int) := of_decide_eq_true (by first | (with_reducible assumption) | assumption)
           have q304 : x7_1 < (l2.length : Int) := of_decide_eq_true (by first | (with_reducible assumption) | assumption)
           obtain ⟨ad304, e304, hx304_0, hx304_1⟩ := at_T67 HR2.out x7_1 p304 q304; obtain rfl : ad302 = ad304 := (by injection e304); replace p304 := eq_true p304; replace q304 := eq_true q304
           have p305 : 0 ≤ (((rd_T67 l2 x7_1).f1) : Int) := of_decide_eq_true (by first | (with_reducible assumption) | assumption)
           have q305 : ((rd_T67 l2 x7_1).f1) < (l1.length : Int) := of_decide_eq_true (by first | (with_reducible assumption) | assumption)
           obtain ⟨ad305, e305, hx305_0, hx305_1⟩ := at_T24 HR1.out ((rd_T67 l2 x7_1).f1) p305 q305
           cases e305
           replace p305 := eq_true p305; replace q305 := eq_true q305; go_wp2
           repeat (go_quiet (fail); try go_wp2)
           go_ret; exact ⟨by first | rfl | (simp; done) | (simp [*]; done), by repeat (first | exact Drawn0.refl _ | apply Drawn0.step)⟩
          ·rw [if_neg c12] at H
           have c12b0 : (!(((rd_T24 l0 ((rd_T67 l2 x7_1).f0)).f0) == ((rd_T24 l1 ((rd_T67 l2 x7_1).f1)).f0)) || (!(((rd_T24 l0 ((rd_T67 l2 x7_1).f0)).f1) == ((rd_T24 l1 ((rd_T67 l2 x7_1).f1)).f1)))) = false := by simpa using c12
           clear c12; have H' := Aside0.mk H; clear H
           have p302 : 0 ≤ (x7_1 : Int) := of_decide_eq_true (by first | (with_reducible assumption) | assumption)
           have q302 : x7_1 < (l2.length : Int) := of_decide_eq_true (by first | (with_reducible assumption) | assumption)
           obtain ⟨ad302, e302, hx302_0, hx302_1⟩ := at_T67 HR2.out x7_1 p302 q302
           cases e302
           replace p302 := eq_true p302; replace q302 := eq_true q302
           have p303 : 0 ≤ (((rd_T67 l2 x7_1).f0) : Int) := of_decide_eq_true (by first | (with_reducible assumption) | assumption)
           have q303 : ((rd_T67 l2 x7_1).f0) < (l0.length : Int) := of_decide_eq_true (by first | (with_reducible assumption) | assumption)
           obtain ⟨ad303, e303, hx303_0, hx303_1⟩ := at_T24 HR0.out ((rd_T67 l2 x7_1).f0) p303 q303
           cases e303
           replace p303 := eq_true p303; replace q303 := eq_true q303
           have p304 : 0 ≤ (x7_1 : Int) := of_decide_eq_true (by first | (with_reducible assumption) | assumption)
           have q304 : x7_1 < (l2.length : Int) := of_decide_eq_true (by first | (with_reducible assumption) | assumption)
           obtain ⟨ad304, e304, hx304_0, hx304_1⟩ := at_T67 HR2.out x7_1 p304 q304; obtain rfl : ad302 = ad304 := (by injection e304); replace p304 := eq_true p304; replace q304 := eq_true q304
           have p305 : 0 ≤ (((rd_T67 l2 x7_1).f1) : Int) := of_decide_eq_true (by first | (with_reducible assumption) | assumption)
           have q305 : ((rd_T67 l2 x7_1).f1) < (l1.length : Int) := of_decide_eq_true (by first | (with_reducible assumption) | assumption)
           obtain ⟨ad305, e305, hx305_0, hx305_1⟩ := at_T24 HR1.out ((rd_T67 l2 x7_1).f1) p305 q305
           cases e305
           replace p305 := eq_true p305; replace q305 := eq_true q305; go_wp2
           repeat (go_quiet (fail); try go_wp2)
           go_roundg k1
           case measure => have := HK1.out; omega
           case rel => exact ⟨(wrap64 (x7_1 + 1)), (by first | rfl | (simp; done) | (simp [*]; done)), H', ⟨by have := HK1.out; omega⟩, by repeat (first | exact Drawn0.refl _ | apply Drawn0.step)⟩
         ·rw [if_neg c11] at H; exact absurd H (by simp)
        ·rw [if_neg c10] at H; exact absurd H (by simp)
       ·rw [if_neg c9] at H; exact absurd H (by simp)
      ·rw [if_neg c8] at H; exact absurd H (by simp)
     ·rw [if_neg c7] at H; exact absurd H (by simp)
    ·rw [if_neg c6] at H; have c6b0 : decide (x7_1 < (l2.length : Int)) = false := decide_eq_false c6; clear c6; obtain rfl := Option.some.inj H; go_wp2
     repeat (go_quiet (fail); try go_wp2)
     go_ret; exact ⟨by first | rfl | (simp; done) | (simp [*]; done), by repeat (first | exact Drawn0.refl _ | apply Drawn0.step)⟩
 ·replace c5 := Bool.eq_false_iff.mpr c5; subst c5; have H1 : (some false) = some r := by rw [if_neg (show ¬ (false = true) by decide)] at H; exact H
  clear H; have H := H1; clear H1; obtain rfl := Option.some.inj H; go_enter Try.func22, Try.ntmps22
  go_wp2_with (first | (go_at_call 40; (with_reducible refine (parallaxref15_Rises.calls k (l0.length : Int) (l1.length : Int) _ _ l2 false _ ?side1 ?side2 A4.out).mono ?_); (case side1 => repeat (first | exact HR2.out | (with_reducible refine Kd.C_alloc ?_ _) | (with_reducible refine Kd.C_drewN ?_ _) | (with_reducible refine Kd.C_drew ?_))); (case side2 => exact HC2.out); rintro e w' ⟨rfl, ⟨nd, rfl⟩⟩; (try first | exact ⟨rfl, _, World.drewN_drewN _ _ _⟩ | exact ⟨rfl, _, Eq.trans (World.drewN_drewN _ _ _) (congrArg (World.drewN _) (Nat.add_assoc _ _ _))⟩)))
  repeat (go_quiet (fail); try go_wp2_with (first | (go_at_call 40; (with_reducible refine (parallaxref15_Rises.calls k (l0.length : Int) (l1.length : Int) _ _ l2 false _ ?side1 ?side2 A4.out).mono ?_); (case side1 => repeat (first | exact HR2.out | (with_reducible refine Kd.C_alloc ?_ _) | (with_reducible refine Kd.C_drewN ?_ _) | (with_reducible refine Kd.C_drew ?_))); (case side2 => exact HC2.out); rintro e w' ⟨rfl, ⟨nd, rfl⟩⟩; (try first | exact ⟨rfl, _, World.drewN_drewN _ _ _⟩ | exact ⟨rfl, _, Eq.trans (World.drewN_drewN _ _ _) (congrArg (World.drewN _) (Nat.add_assoc _ _ _))⟩))))
  go_ret; exact ⟨by first | rfl | (simp; done) | (simp [*]; done), by repeat (first | exact Drawn0.refl _ | apply Drawn0.step)⟩

end Go.Proofs.Ythbgbeelcnfofaa.P
