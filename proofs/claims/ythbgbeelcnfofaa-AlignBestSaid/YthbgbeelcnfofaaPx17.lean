-- Written by a program of this session (its own turn of the print: wip/patch_print.py), not by hand. Lean checks it.
import Derived.Test.YthbgbeelcnfofaaPx0
import Derived.Test.YthbgbeelcnfofaaPx1
import Derived.Test.YthbgbeelcnfofaaPx8
namespace Go.Proofs.Ythbgbeelcnfofaa.P
open Go.RowKit Go.Proofs.YthbgbeelcnfofaaW.PrintWords Go.Proofs.YthbgbeelcnfofaaW.PrintLast Go.Proofs.YthbgbeelcnfofaaW.PrintMore
attribute [local go_sem] max2_int min2_int max_two min_two max_three min_three max_four min_four   -- for this text's walks alone
set_option linter.unusedVariables false
set_option linter.unusedSimpArgs false

attribute [local go_sem high] eqA24
/-! ### parallaxref15_Rises: function 40 -/
mutual
def parallaxref15_Rises.l0 : Nat → Int → Int → List (S67) → Int → Option (Bool)
 | 0, _, _, _, _ => none
 | k + 1, x0, x1, x2, x7 => if x7 < (x2.length : Int) then (if 0 ≤ x7 then (if ((rd_T67 x2 x7).f0) < 0 then (parallaxref15_Rises.j1 k x0 x1 x2 x7 true) else (if ((rd_T67 x2 x7).f1) < 0 then (parallaxref15_Rises.j1 k x0 x1 x2 x7 true) else (if ((rd_T67 x2 x7).f0) ≥ x0 then (parallaxref15_Rises.j1 k x0 x1 x2 x7 true) else (parallaxref15_Rises.j1 k x0 x1 x2 x7 (decide (((rd_T67 x2 x7).f1) ≥ x1)))))) else (none)) else (some true)
def parallaxref15_Rises.j1 : Nat → Int → Int → List (S67) → Int → Bool → Option (Bool)
 | 0, _, _, _, _, _ => none
 | k + 1, x0, x1, x2, x7, x45 => if x45 = true then (some false) else (if x7 > 0 then (if 0 ≤ x7 then (if x7 < (x2.length : Int) then (if 0 ≤ (wrap64 (x7 - 1)) then (if (wrap64 (x7 - 1)) < (x2.length : Int) then (if ((rd_T67 x2 x7).f0) ≤ ((rd_T67 x2 (wrap64 (x7 - 1))).f0) then (some false) else (if ((rd_T67 x2 x7).f1) ≤ ((rd_T67 x2 (wrap64 (x7 - 1))).f1) then (some false) else (parallaxref15_Rises.l0 k x0 x1 x2 (wrap64 (x7 + 1))))) else (none)) else (none)) else (none)) else (none)) else (parallaxref15_Rises.l0 k x0 x1 x2 (wrap64 (x7 + 1))))
end
def parallaxref15_Rises.f (k : Nat) (a0 : Int) (a1 : Int) (l2 : List (S67)) : Option (Bool) := parallaxref15_Rises.l0 k a0 a1 l2 0
theorem parallaxref15_Rises.mono_l : ∀ k, (∀ y0 y1 y2 y3, LeO (parallaxref15_Rises.l0 k y0 y1 y2 y3) (parallaxref15_Rises.l0 (k + 1) y0 y1 y2 y3)) ∧ (∀ y0 y1 y2 y3 y4, LeO (parallaxref15_Rises.j1 k y0 y1 y2 y3 y4) (parallaxref15_Rises.j1 (k + 1) y0 y1 y2 y3 y4))
 | 0 => ⟨fun _ _ _ _ r h => by simp [parallaxref15_Rises.l0] at h, fun _ _ _ _ _ r h => by simp [parallaxref15_Rises.j1] at h⟩
 | k + 1 => by
  obtain ⟨ih0, ih1⟩ := parallaxref15_Rises.mono_l k
  refine ⟨?_, ?_⟩
  ·intro y0 y1 y2 y3
   unfold parallaxref15_Rises.l0
   repeat' first
   | (with_reducible exact ih0 _ _ _ _)
   | (with_reducible exact ih1 _ _ _ _ _)
   | (with_reducible exact LeO.refl _)
   | (with_reducible exact LeO.none _)
   | (with_reducible refine LeO.ite ?_ ?_)
   | (with_reducible refine LeO.bind ?_ (fun _ => ?_))
   | exact ih0 _ _ _ _
   | exact ih1 _ _ _ _ _
   | exact LeO.none _
   | refine LeO.ite ?_ ?_
   | refine LeO.bind ?_ (fun _ => ?_)
  ·intro y0 y1 y2 y3 y4
   unfold parallaxref15_Rises.j1
   repeat' first
   | (with_reducible exact ih0 _ _ _ _)
   | (with_reducible exact ih1 _ _ _ _ _)
   | (with_reducible exact LeO.refl _)
   | (with_reducible exact LeO.none _)
   | (with_reducible refine LeO.ite ?_ ?_)
   | (with_reducible refine LeO.bind ?_ (fun _ => ?_))
   | exact ih0 _ _ _ _
   | exact ih1 _ _ _ _ _
   | exact LeO.none _
   | refine LeO.ite ?_ ?_
   | refine LeO.bind ?_ (fun _ => ?_)
theorem parallaxref15_Rises.mono : ∀ a0 a1 a2 k, LeO (parallaxref15_Rises.f k a0 a1 a2) (parallaxref15_Rises.f (k + 1) a0 a1 a2) := by
 intro a0 a1 a2 k
 obtain ⟨ih0, ih1⟩ := parallaxref15_Rises.mono_l k
 unfold parallaxref15_Rises.f
 repeat' first
   | (with_reducible exact ih0 _ _ _ _)
   | (with_reducible exact ih1 _ _ _ _ _)
   | (with_reducible exact LeO.refl _)
   | (with_reducible exact LeO.none _)
   | (with_reducible refine LeO.ite ?_ ?_)
   | (with_reducible refine LeO.bind ?_ (fun _ => ?_))
   | exact ih0 _ _ _ _
   | exact ih1 _ _ _ _ _
   | exact LeO.none _
   | refine LeO.ite ?_ ?_
   | refine LeO.bind ?_ (fun _ => ?_)
set_option maxHeartbeats 8000000 in
set_option maxRecDepth 100000 in
theorem parallaxref15_Rises.calls (k : Nat) (a0 : Int) (a1 : Int) (A2 : Option Addr) (c2 : Nat) (l2 : List (S67)) (r : Bool) (w : World) (hr2 : Kd.C k67 w A2 l2.length l2) (hc2 : l2.length ≤ c2) (h : parallaxref15_Rises.f k a0 a1 l2 = some r) :
  Calls Try.prog 40 #[.int .i64 a0, .int .i64 a1, .slice A2 l2.length c2] w fun e w' => e = .returned (.bool r) ∧ Drawn0 w w' := by
 have HR2 := Aside0.mk hr2
 have HC2 := Aside0.mk hc2
 clear hr2 hc2
 have H : (parallaxref15_Rises.l0 k a0 a1 l2 0) = some r := h
 clear h
 have H' := Aside0.mk H
 clear H
 go_enter Try.func40, Try.ntmps40
 go_wp2
 repeat (go_quiet (fail); try go_wp2)
 go_loopg [7] k (fun kq v7 w' => ∃ (x7_1 : Int), v7 = .int .i64 x7_1 ∧ Aside0 (parallaxref15_Rises.l0 kq a0 a1 l2 x7_1 = some r) ∧ Aside0 (kq ≤ k) ∧ Drawn0 w w')
 case atStart => exact ⟨(0), (by first | rfl | (simp; done) | (simp [*]; done)), H', ⟨Nat.le_refl _⟩, by repeat (first | exact Drawn0.refl _ | apply Drawn0.step)⟩
 case round =>
  clear H'
  try clear c2
  try clear p2
  obtain ⟨x7_1, rfl, HA, HK1, ⟨m1, rfl⟩⟩ := hrel
  cases gk with
  | zero => exact absurd HA.out (by simp [parallaxref15_Rises.l0])
  | succ k1 =>
   have H := HA.out
   clear HA
   simp only [parallaxref15_Rises.l0] at H
   by_cases c4 : x7_1 < (l2.length : Int)
   ·rw [if_pos c4] at H
    have c4b0 : decide (x7_1 < (l2.length : Int)) = true := decide_eq_true c4
    clear c4
    have HC5 := Aside0.mk H
    clear H
    go_upto_region 4 with (fail)
    repeat (go_quiet (fail); go_upto_region 4 with (fail))
    go_cut [45] (fun v45 wc => ∃ (kq : Nat) (x45_4 : Bool), v45 = .bool x45_4 ∧ Aside0 (parallaxref15_Rises.j1 kq a0 a1 l2 x7_1 x45_4 = some r) ∧ Aside0 (kq ≤ k1) ∧ Drawn0 w wc)
    case first =>
     have H := HC5.out
     clear HC5
     by_cases c6 : 0 ≤ x7_1
     ·rw [if_pos c6] at H
      have c6b0 : decide (0 ≤ x7_1) = true := decide_eq_true c6
      clear c6
      (first | rw [c6b0] | (simp only [i64_w, i32_w]; rw [c6b0]) | skip)
      by_cases c7 : ((rd_T67 l2 x7_1).f0) < 0
      ·rw [if_pos c7] at H
       have c7b0 : decide (((rd_T67 l2 x7_1).f0) < 0) = true := decide_eq_true c7
       clear c7
       have H' := Aside0.mk H
       clear H
       have p344 : 0 ≤ (x7_1 : Int) := of_decide_eq_true (by first | (with_reducible assumption) | assumption)
       have q344 : x7_1 < (l2.length : Int) := of_decide_eq_true (by first | (with_reducible assumption) | assumption)
       obtain ⟨ad344, e344, hx344_0, hx344_1⟩ := at_T67 HR2.out x7_1 p344 q344
       cases e344
       replace p344 := eq_true p344
       replace q344 := eq_true q344
       go_wp2
       repeat (go_quiet (fail); try go_wp2)
       go_meet
       case rel => exact ⟨_, (true), (by first | rfl | (simp; done) | (simp [*]; done)), H', ⟨by have := HK1.out; first | omega | exact Nat.le_refl _⟩, by repeat (first | exact Drawn0.refl _ | apply Drawn0.step)⟩
      ·rw [if_neg c7] at H
       have c7b0 : decide (((rd_T67 l2 x7_1).f0) < 0) = false := decide_eq_false c7
       clear c7
       by_cases c8 : ((rd_T67 l2 x7_1).f1) < 0
       ·rw [if_pos c8] at H
        have c8b0 : decide (((rd_T67 l2 x7_1).f1) < 0) = true := decide_eq_true c8
        clear c8
        have H' := Aside0.mk H
        clear H
        have p344 : 0 ≤ (x7_1 : Int) := of_decide_eq_true (by first | (with_reducible assumption) | assumption)
        have q344 : x7_1 < (l2.length : Int) := of_decide_eq_true (by first | (with_reducible assumption) | assumption)
        obtain ⟨ad344, e344, hx344_0, hx344_1⟩ := at_T67 HR2.out x7_1 p344 q344
        cases e344
        replace p344 := eq_true p344
        replace q344 := eq_true q344
        have p345 : 0 ≤ (x7_1 : Int) := of_decide_eq_true (by first | (with_reducible assumption) | assumption)
        have q345 : x7_1 < (l2.length : Int) := of_decide_eq_true (by first | (with_reducible assumption) | assumption)
        obtain ⟨ad345, e345, hx345_0, hx345_1⟩ := at_T67 HR2.out x7_1 p345 q345
        obtain rfl : ad344 = ad345 := (by injection e345)
        replace p345 := eq_true p345
        replace q345 := eq_true q345
        go_wp2
        repeat (go_quiet (fail); try go_wp2)
        go_meet
        case rel => exact ⟨_, (true), (by first | rfl | (simp; done) | (simp [*]; done)), H', ⟨by have := HK1.out; first | omega | exact Nat.le_refl _⟩, by repeat (first | exact Drawn0.refl _ | apply Drawn0.step)⟩
       ·rw [if_neg c8] at H
        have c8b0 : decide (((rd_T67 l2 x7_1).f1) < 0) = false := decide_eq_false c8
        clear c8
        by_cases c9 : ((rd_T67 l2 x7_1).f0) ≥ a0
        ·rw [if_pos c9] at H
         have c9b0 : decide (a0 ≤ ((rd_T67 l2 x7_1).f0)) = true := decide_eq_true c9
         clear c9
         have H' := Aside0.mk H
         clear H
         have p344 : 0 ≤ (x7_1 : Int) := of_decide_eq_true (by first | (with_reducible assumption) | assumption)
         have q344 : x7_1 < (l2.length : Int) := of_decide_eq_true (by first | (with_reducible assumption) | assumption)
         obtain ⟨ad344, e344, hx344_0, hx344_1⟩ := at_T67 HR2.out x7_1 p344 q344
         cases e344
         replace p344 := eq_true p344
         replace q344 := eq_true q344
         have p345 : 0 ≤ (x7_1 : Int) := of_decide_eq_true (by first | (with_reducible assumption) | assumption)
         have q345 : x7_1 < (l2.length : Int) := of_decide_eq_true (by first | (with_reducible assumption) | assumption)
         obtain ⟨ad345, e345, hx345_0, hx345_1⟩ := at_T67 HR2.out x7_1 p345 q345
         obtain rfl : ad344 = ad345 := (by injection e345)
         replace p345 := eq_true p345
         replace q345 := eq_true q345
         have p346 : 0 ≤ (x7_1 : Int) := of_decide_eq_true (by first | (with_reducible assumption) | assumption)
         have q346 : x7_1 < (l2.length : Int) := of_decide_eq_true (by first | (with_reducible assumption) | assumption)
         obtain ⟨ad346, e346, hx346_0, hx346_1⟩ := at_T67 HR2.out x7_1 p346 q346
         obtain rfl : ad344 = ad346 := (by injection e346)
         replace p346 := eq_true p346
         replace q346 := eq_true q346
         go_wp2
         repeat (go_quiet (fail); try go_wp2)
         go_meet
         case rel => exact ⟨_, (true), (by first | rfl | (simp; done) | (simp [*]; done)), H', ⟨by have := HK1.out; first | omega | exact Nat.le_refl _⟩, by repeat (first | exact Drawn0.refl _ | apply Drawn0.step)⟩
        ·rw [if_neg c9] at H
         have c9b0 : decide (a0 ≤ ((rd_T67 l2 x7_1).f0)) = false := decide_eq_false c9
         clear c9
         have H' := Aside0.mk H
         clear H
         have p344 : 0 ≤ (x7_1 : Int) := of_decide_eq_true (by first | (with_reducible assumption) | assumption)
         have q344 : x7_1 < (l2.length : Int) := of_decide_eq_true (by first | (with_reducible assumption) | assumption)
         obtain ⟨ad344, e344, hx344_0, hx344_1⟩ := at_T67 HR2.out x7_1 p344 q344
         cases e344
         replace p344 := eq_true p344
         replace q344 := eq_true q344
         have p345 : 0 ≤ (x7_1 : Int) := of_decide_eq_true (by first | (with_reducible assumption) | assumption)
         have q345 : x7_1 < (l2.length : Int) := of_decide_eq_true (by first | (with_reducible assumption) | assumption)
         obtain ⟨ad345, e345, hx345_0, hx345_1⟩ := at_T67 HR2.out x7_1 p345 q345
         obtain rfl : ad344 = ad345 := (by injection e345)
         replace p345 := eq_true p345
         replace q345 := eq_true q345
         have p346 : 0 ≤ (x7_1 : Int) := of_decide_eq_true (by first | (with_reducible assumption) | assumption)
         have q346 : x7_1 < (l2.length : Int) := of_decide_eq_true (by first | (with_reducible assumption) | assumption)
         obtain ⟨ad346, e346, hx346_0, hx346_1⟩ := at_T67 HR2.out x7_1 p346 q346
         obtain rfl : ad344 = ad346 := (by injection e346)
         replace p346 := eq_true p346
         replace q346 := eq_true q346
         have p347 : 0 ≤ (x7_1 : Int) := of_decide_eq_true (by first | (with_reducible assumption) | assumption)
         have q347 : x7_1 < (l2.length : Int) := of_decide_eq_true (by first | (with_reducible assumption) | assumption)
         obtain ⟨ad347, e347, hx347_0, hx347_1⟩ := at_T67 HR2.out x7_1 p347 q347
         obtain rfl : ad344 = ad347 := (by injection e347)
         replace p347 := eq_true p347
         replace q347 := eq_true q347
         go_wp2
         repeat (go_quiet (fail); try go_wp2)
         go_meet
         case rel => exact ⟨_, (decide (((rd_T67 l2 x7_1).f1) ≥ a1)), (by first | rfl | (simp; done) | (simp [*]; done)), H', ⟨by have := HK1.out; first | omega | exact Nat.le_refl _⟩, by repeat (first | exact Drawn0.refl _ | apply Drawn0.step)⟩
     ·rw [if_neg c6] at H
      exact absurd H (by simp)
    case rest =>
     clear HC5
     try clear c2
     try clear p2
     try clear p3
     try clear q3
     try clear hx3
     try clear c4
     try clear c4b0
     try clear c6
     try clear c6b0
     try clear c7
     try clear c7b0
     try clear c8
     try clear c8b0
     try clear c9
     try clear c9b0
     try clear hx344_0
     try clear hx344_1
     try clear hx345_0
     try clear hx345_1
     try clear hx346_0
     try clear hx346_1
     try clear hx347_0
     try clear hx347_1
     try clear p2
     try clear p344
     try clear p345
     try clear p346
     try clear p347
     try clear q344
     try clear q345
     try clear q346
     try clear q347
     obtain ⟨kq, x45_4, rfl, HA, HJ4, ⟨mc4, rfl⟩⟩ := hcut
     cases kq with
     | zero => exact absurd HA.out (by simp [parallaxref15_Rises.j1])
     | succ kj4 =>
      have H := HA.out
      clear HA
      simp only [parallaxref15_Rises.j1] at H
      by_cases c10 : x45_4 = true
      ·subst c10
       have H1 : (some false) = some r := by rw [if_pos rfl] at H; exact H
       clear H
       have H := H1
       clear H1
       obtain rfl := Option.some.inj H
       go_wp2
       repeat (go_quiet (fail); try go_wp2)
       go_ret
       exact ⟨by first | rfl | (simp; done) | (simp [*]; done), by repeat (first | exact Drawn0.refl _ | apply Drawn0.step)⟩
      ·replace c10 := Bool.eq_false_iff.mpr c10
       subst c10
       have H1 : (if x7_1 > 0 then (if 0 ≤ x7_1 then (if x7_1 < (l2.length : Int) then (if 0 ≤ (wrap64 (x7_1 - 1)) then (if (wrap64 (x7_1 - 1)) < (l2.length : Int) then (if ((rd_T67 l2 x7_1).f0) ≤ ((rd_T67 l2 (wrap64 (x7_1 - 1))).f0) then (some false) else (if ((rd_T67 l2 x7_1).f1) ≤ ((rd_T67 l2 (wrap64 (x7_1 - 1))).f1) then (some false) else (parallaxref15_Rises.l0 kj4 a0 a1 l2 (wrap64 (x7_1 + 1))))) else (none)) else (none)) else (none)) else (none)) else (parallaxref15_Rises.l0 kj4 a0 a1 l2 (wrap64 (x7_1 + 1)))) = some r := by rw [if_neg (show ¬ (false = true) by decide)] at H; exact H
       clear H
       have H := H1
       clear H1
       by_cases c11 : x7_1 > 0
       ·rw [if_pos c11] at H
        have c11b0 : decide (0 < x7_1) = true := decide_eq_true c11
        clear c11
        by_cases c12 : 0 ≤ x7_1
        ·rw [if_pos c12] at H
         have c12b0 : decide (0 ≤ x7_1) = true := decide_eq_true c12
         clear c12
         by_cases c13 : x7_1 < (l2.length : Int)
         ·rw [if_pos c13] at H
          have c13b0 : decide (x7_1 < (l2.length : Int)) = true := decide_eq_true c13
          clear c13
          obtain ⟨ji14, hji14⟩ : ∃ j_ : Int, (wrap64 (x7_1 - 1)) = j_ := ⟨_, rfl⟩
          replace H : (if 0 ≤ (ji14) then (if (ji14) < (l2.length : Int) then (if ((rd_T67 l2 x7_1).f0) ≤ ((rd_T67 l2 (ji14)).f0) then (some false) else (if ((rd_T67 l2 x7_1).f1) ≤ ((rd_T67 l2 (ji14)).f1) then (some false) else (parallaxref15_Rises.l0 kj4 a0 a1 l2 (wrap64 (x7_1 + 1))))) else (none)) else (none)) = some r := by first | (rw [hji14] at H; exact H) | (simp only [hji14] at H ⊢; exact H)
          have hji14w : (IntKind.i64.wrap (x7_1 - 1)) = ji14 := (i64_w _).trans hji14
          by_cases c15 : 0 ≤ (ji14)
          ·rw [if_pos c15] at H
           have c15b0 : decide (0 ≤ (ji14)) = true := decide_eq_true c15
           clear c15
           by_cases c16 : (ji14) < (l2.length : Int)
           ·rw [if_pos c16] at H
            have c16b0 : decide ((ji14) < (l2.length : Int)) = true := decide_eq_true c16
            clear c16
            by_cases c17 : ((rd_T67 l2 x7_1).f0) ≤ ((rd_T67 l2 (ji14)).f0)
            ·rw [if_pos c17] at H
             have c17b0 : decide (((rd_T67 l2 x7_1).f0) ≤ ((rd_T67 l2 (ji14)).f0)) = true := decide_eq_true c17
             clear c17
             obtain rfl := Option.some.inj H
             have p348 : 0 ≤ (x7_1 : Int) := of_decide_eq_true (by first | (with_reducible assumption) | assumption)
             have q348 : x7_1 < (l2.length : Int) := of_decide_eq_true (by first | (with_reducible assumption) | assumption)
             obtain ⟨ad348, e348, hx348_0, hx348_1⟩ := at_T67 HR2.out x7_1 p348 q348
             cases e348
             replace p348 := eq_true p348
             replace q348 := eq_true q348
             have p349 : 0 ≤ ((ji14) : Int) := of_decide_eq_true (by first | (with_reducible assumption) | assumption)
             have q349 : (ji14) < (l2.length : Int) := of_decide_eq_true (by first | (with_reducible assumption) | assumption)
             obtain ⟨ad349, e349, hx349_0, hx349_1⟩ := at_T67 HR2.out (ji14) p349 q349
             obtain rfl : ad348 = ad349 := (by injection e349)
             replace p349 := eq_true p349
             replace q349 := eq_true q349
             go_wp2
             repeat (go_quiet (fail); try go_wp2)
             go_ret
             exact ⟨by first | rfl | (simp; done) | (simp only [← hji14] <;> (first | rfl | simp)) | (simp [*]; done), by repeat (first | exact Drawn0.refl _ | apply Drawn0.step)⟩
            ·rw [if_neg c17] at H
             have c17b0 : decide (((rd_T67 l2 x7_1).f0) ≤ ((rd_T67 l2 (ji14)).f0)) = false := decide_eq_false c17
             clear c17
             by_cases c18 : ((rd_T67 l2 x7_1).f1) ≤ ((rd_T67 l2 (ji14)).f1)
             ·rw [if_pos c18] at H
              have c18b0 : decide (((rd_T67 l2 x7_1).f1) ≤ ((rd_T67 l2 (ji14)).f1)) = true := decide_eq_true c18
              clear c18
              obtain rfl := Option.some.inj H
              have p348 : 0 ≤ (x7_1 : Int) := of_decide_eq_true (by first | (with_reducible assumption) | assumption)
              have q348 : x7_1 < (l2.length : Int) := of_decide_eq_true (by first | (with_reducible assumption) | assumption)
              obtain ⟨ad348, e348, hx348_0, hx348_1⟩ := at_T67 HR2.out x7_1 p348 q348
              cases e348
              replace p348 := eq_true p348
              replace q348 := eq_true q348
              have p349 : 0 ≤ ((ji14) : Int) := of_decide_eq_true (by first | (with_reducible assumption) | assumption)
              have q349 : (ji14) < (l2.length : Int) := of_decide_eq_true (by first | (with_reducible assumption) | assumption)
              obtain ⟨ad349, e349, hx349_0, hx349_1⟩ := at_T67 HR2.out (ji14) p349 q349
              obtain rfl : ad348 = ad349 := (by injection e349)
              replace p349 := eq_true p349
              replace q349 := eq_true q349
              have p350 : 0 ≤ (x7_1 : Int) := of_decide_eq_true (by first | (with_reducible assumption) | assumption)
              have q350 : x7_1 < (l2.length : Int) := of_decide_eq_true (by first | (with_reducible assumption) | assumption)
              obtain ⟨ad350, e350, hx350_0, hx350_1⟩ := at_T67 HR2.out x7_1 p350 q350
              obtain rfl : ad348 = ad350 := (by injection e350)
              replace p350 := eq_true p350
              replace q350 := eq_true q350
              have p351 : 0 ≤ ((ji14) : Int) := of_decide_eq_true (by first | (with_reducible assumption) | assumption)
              have q351 : (ji14) < (l2.length : Int) := of_decide_eq_true (by first | (with_reducible assumption) | assumption)
              obtain ⟨ad351, e351, hx351_0, hx351_1⟩ := at_T67 HR2.out (ji14) p351 q351
              obtain rfl : ad348 = ad351 := (by injection e351)
              replace p351 := eq_true p351
              replace q351 := eq_true q351
              go_wp2
              repeat (go_quiet (fail); try go_wp2)
              go_ret
              exact ⟨by first | rfl | (simp; done) | (simp only [← hji14] <;> (first | rfl | simp)) | (simp [*]; done), by repeat (first | exact Drawn0.refl _ | apply Drawn0.step)⟩
             ·rw [if_neg c18] at H
              have c18b0 : decide (((rd_T67 l2 x7_1).f1) ≤ ((rd_T67 l2 (ji14)).f1)) = false := decide_eq_false c18
              clear c18
              have H' := Aside0.mk H
              clear H
              have p348 : 0 ≤ (x7_1 : Int) := of_decide_eq_true (by first | (with_reducible assumption) | assumption)
              have q348 : x7_1 < (l2.length : Int) := of_decide_eq_true (by first | (with_reducible assumption) | assumption)
              obtain ⟨ad348, e348, hx348_0, hx348_1⟩ := at_T67 HR2.out x7_1 p348 q348
              cases e348
              replace p348 := eq_true p348
              replace q348 := eq_true q348
              have p349 : 0 ≤ ((ji14) : Int) := of_decide_eq_true (by first | (with_reducible assumption) | assumption)
              have q349 : (ji14) < (l2.length : Int) := of_decide_eq_true (by first | (with_reducible assumption) | assumption)
              obtain ⟨ad349, e349, hx349_0, hx349_1⟩ := at_T67 HR2.out (ji14) p349 q349
              obtain rfl : ad348 = ad349 := (by injection e349)
              replace p349 := eq_true p349
              replace q349 := eq_true q349
              have p350 : 0 ≤ (x7_1 : Int) := of_decide_eq_true (by first | (with_reducible assumption) | assumption)
              have q350 : x7_1 < (l2.length : Int) := of_decide_eq_true (by first | (with_reducible assumption) | assumption)
              obtain ⟨ad350, e350, hx350_0, hx350_1⟩ := at_T67 HR2.out x7_1 p350 q350
              obtain rfl : ad348 = ad350 := (by injection e350)
              replace p350 := eq_true p350
              replace q350 := eq_true q350
              have p351 : 0 ≤ ((ji14) : Int) := of_decide_eq_true (by first | (with_reducible assumption) | assumption)
              have q351 : (ji14) < (l2.length : Int) := of_decide_eq_true (by first | (with_reducible assumption) | assumption)
              obtain ⟨ad351, e351, hx351_0, hx351_1⟩ := at_T67 HR2.out (ji14) p351 q351
              obtain rfl : ad348 = ad351 := (by injection e351)
              replace p351 := eq_true p351
              replace q351 := eq_true q351
              go_wp2
              repeat (go_quiet (fail); try go_wp2)
              go_roundg kj4
              case measure => have := HK1.out; have := HJ4.out; omega
              case rel => exact ⟨(wrap64 (x7_1 + 1)), (by first | rfl | (simp; done) | (simp [*]; done)), H', ⟨by have := HK1.out; have := HJ4.out; omega⟩, by repeat (first | exact Drawn0.refl _ | apply Drawn0.step)⟩
           ·rw [if_neg c16] at H
            exact absurd H (by simp)
          ·rw [if_neg c15] at H
           exact absurd H (by simp)
         ·rw [if_neg c13] at H
          exact absurd H (by simp)
        ·rw [if_neg c12] at H
         exact absurd H (by simp)
       ·rw [if_neg c11] at H
        have c11b0 : decide (0 < x7_1) = false := decide_eq_false c11
        clear c11
        have H' := Aside0.mk H
        clear H
        go_wp2
        repeat (go_quiet (fail); try go_wp2)
        go_roundg kj4
        case measure => have := HK1.out; have := HJ4.out; omega
        case rel => exact ⟨(wrap64 (x7_1 + 1)), (by first | rfl | (simp; done) | (simp [*]; done)), H', ⟨by have := HK1.out; have := HJ4.out; omega⟩, by repeat (first | exact Drawn0.refl _ | apply Drawn0.step)⟩
   ·rw [if_neg c4] at H
    have c4b0 : decide (x7_1 < (l2.length : Int)) = false := decide_eq_false c4
    clear c4
    obtain rfl := Option.some.inj H
    go_wp2
    repeat (go_quiet (fail); try go_wp2)
    go_ret
    exact ⟨by first | rfl | (simp; done) | (simp [*]; done), by repeat (first | exact Drawn0.refl _ | apply Drawn0.step)⟩

/-! ### parallaxref15_Fits: function 22 -/
def parallaxref15_Fits.l0 : Nat → List (S24) → List (S24) → List (S67) → Int → Option (Bool)
 | 0, _, _, _, _ => none
 | k + 1, x0, x1, x2, x7 => if x7 < (x2.length : Int) then (if 0 ≤ x7 then (if 0 ≤ ((rd_T67 x2 x7).f0) then (if ((rd_T67 x2 x7).f0) < (x0.length : Int) then (if 0 ≤ ((rd_T67 x2 x7).f1) then (if ((rd_T67 x2 x7).f1) < (x1.length : Int) then (if (!(((rd_T24 x0 ((rd_T67 x2 x7).f0)).f0) == ((rd_T24 x1 ((rd_T67 x2 x7).f1)).f0)) || (!(((rd_T24 x0 ((rd_T67 x2 x7).f0)).f1) == ((rd_T24 x1 ((rd_T67 x2 x7).f1)).f1)))) = true then (some false) else (parallaxref15_Fits.l0 k x0 x1 x2 (wrap64 (x7 + 1)))) else (none)) else (none)) else (none)) else (none)) else (none)) else (some true)
def parallaxref15_Fits.f (k : Nat) (l0 : List (S24)) (l1 : List (S24)) (l2 : List (S67)) : Option (Bool) := (parallaxref15_Rises.f k (l0.length : Int) (l1.length : Int) l2).bind fun t352 => (if t352 = true then (parallaxref15_Fits.l0 k l0 l1 l2 0) else (some false))
theorem parallaxref15_Fits.mono_l : ∀ k, (∀ y0 y1 y2 y3, LeO (parallaxref15_Fits.l0 k y0 y1 y2 y3) (parallaxref15_Fits.l0 (k + 1) y0 y1 y2 y3))
 | 0 => fun _ _ _ _ r h => by simp [parallaxref15_Fits.l0] at h
 | k + 1 => by
  have ih0 := parallaxref15_Fits.mono_l k
  ·intro y0 y1 y2 y3
   unfold parallaxref15_Fits.l0
   repeat' first
   | (with_reducible exact ih0 _ _ _ _)
   | (with_reducible exact parallaxref15_Rises.mono _ _ _ _)
   | (with_reducible exact LeO.refl _)
   | (with_reducible exact LeO.none _)
   | (with_reducible refine LeO.ite ?_ ?_)
   | (with_reducible refine LeO.bind ?_ (fun _ => ?_))
   | exact ih0 _ _ _ _
   | exact parallaxref15_Rises.mono _ _ _ _
   | exact LeO.none _
   | refine LeO.ite ?_ ?_
   | refine LeO.bind ?_ (fun _ => ?_)
theorem parallaxref15_Fits.mono : ∀ a0 a1 a2 k, LeO (parallaxref15_Fits.f k a0 a1 a2) (parallaxref15_Fits.f (k + 1) a0 a1 a2) := by
 intro a0 a1 a2 k
 have ih0 := parallaxref15_Fits.mono_l k
 unfold parallaxref15_Fits.f
 repeat' first
   | (with_reducible exact ih0 _ _ _ _)
   | (with_reducible exact parallaxref15_Rises.mono _ _ _ _)
   | (with_reducible exact LeO.refl _)
   | (with_reducible exact LeO.none _)
   | (with_reducible refine LeO.ite ?_ ?_)
   | (with_reducible refine LeO.bind ?_ (fun _ => ?_))
   | exact ih0 _ _ _ _
   | exact parallaxref15_Rises.mono _ _ _ _
   | exact LeO.none _
   | refine LeO.ite ?_ ?_
   | refine LeO.bind ?_ (fun _ => ?_)
set_option maxHeartbeats 8000000 in
set_option maxRecDepth 100000 in
theorem parallaxref15_Fits.calls (k : Nat) (A0 : Option Addr) (c0 : Nat) (l0 : List (S24)) (A1 : Option Addr) (c1 : Nat) (l1 : List (S24)) (A2 : Option Addr) (c2 : Nat) (l2 : List (S67)) (r : Bool) (w : World) (hr0 : Kd.C k24 w A0 l0.length l0) (hc0 : l0.length ≤ c0) (hr1 : Kd.C k24 w A1 l1.length l1) (hc1 : l1.length ≤ c1) (hr2 : Kd.C k67 w A2 l2.length l2) (hc2 : l2.length ≤ c2) (h : parallaxref15_Fits.f k l0 l1 l2 = some r) :
  Calls Try.prog 22 #[.slice A0 l0.length c0, .slice A1 l1.length c1, .slice A2 l2.length c2] w fun e w' => e = .returned (.bool r) ∧ Drawn0 w w' := by
 have hu24 := Try.underlying24
 have HR0 := Aside0.mk hr0
 have HC0 := Aside0.mk hc0
 clear hr0 hc0
 have HR1 := Aside0.mk hr1
 have HC1 := Aside0.mk hc1
 clear hr1 hc1
 have HR2 := Aside0.mk hr2
 have HC2 := Aside0.mk hc2
 clear hr2 hc2
 have H : ((parallaxref15_Rises.f k (l0.length : Int) (l1.length : Int) l2).bind fun t352 => (if t352 = true then (parallaxref15_Fits.l0 k l0 l1 l2 0) else (some false))) = some r := h
 clear h
 replace H := Option.bind_eq_some_iff.mp H
 obtain ⟨t352, A40, H⟩ := H
 replace H : (if t352 = true then (parallaxref15_Fits.l0 k l0 l1 l2 0) else (some false)) = some r := H
 have A4 := Aside0.mk A40
 clear A40
 by_cases c5 : t352 = true
 ·subst c5
  have H1 : (parallaxref15_Fits.l0 k l0 l1 l2 0) = some r := by rw [if_pos rfl] at H; exact H
  clear H
  have H := H1
  clear H1
  have H' := Aside0.mk H
  clear H
  go_enter Try.func22, Try.ntmps22
  go_wp2_with (first | (go_at_call 40; (with_reducible refine (parallaxref15_Rises.calls k (l0.length : Int) (l1.length : Int) _ _ l2 true _ ?side1 ?side2 A4.out).mono ?_); (case side1 => repeat (first | exact HR2.out | (with_reducible refine Kd.C_alloc ?_ _) | (with_reducible refine Kd.C_drewN ?_ _) | (with_reducible refine Kd.C_drew ?_))); (case side2 => exact HC2.out); rintro e w' ⟨rfl, ⟨nd, rfl⟩⟩; (try first | exact ⟨rfl, _, World.drewN_drewN _ _ _⟩ | exact ⟨rfl, _, Eq.trans (World.drewN_drewN _ _ _) (congrArg (World.drewN _) (Nat.add_assoc _ _ _))⟩)))
  repeat (go_quiet (first | (go_at_call 40; (with_reducible refine (parallaxref15_Rises.calls k (l0.length : Int) (l1.length : Int) _ _ l2 true _ ?side1 ?side2 A4.out).mono ?_); (case side1 => repeat (first | exact HR2.out | (with_reducible refine Kd.C_alloc ?_ _) | (with_reducible refine Kd.C_drewN ?_ _) | (with_reducible refine Kd.C_drew ?_))); (case side2 => exact HC2.out); rintro e w' ⟨rfl, ⟨nd, rfl⟩⟩; (try first | exact ⟨rfl, _, World.drewN_drewN _ _ _⟩ | exact ⟨rfl, _, Eq.trans (World.drewN_drewN _ _ _) (congrArg (World.drewN _) (Nat.add_assoc _ _ _))⟩))); try go_wp2_with (first | (go_at_call 40; (with_reducible refine (parallaxref15_Rises.calls k (l0.length : Int) (l1.length : Int) _ _ l2 true _ ?side1 ?side2 A4.out).mono ?_); (case side1 => repeat (first | exact HR2.out | (with_reducible refine Kd.C_alloc ?_ _) | (with_reducible refine Kd.C_drewN ?_ _) | (with_reducible refine Kd.C_drew ?_))); (case side2 => exact HC2.out); rintro e w' ⟨rfl, ⟨nd, rfl⟩⟩; (try first | exact ⟨rfl, _, World.drewN_drewN _ _ _⟩ | exact ⟨rfl, _, Eq.trans (World.drewN_drewN _ _ _) (congrArg (World.drewN _) (Nat.add_assoc _ _ _))⟩))))
  go_loopg [7] k (fun kq v7 w' => ∃ (x7_1 : Int), v7 = .int .i64 x7_1 ∧ Aside0 (parallaxref15_Fits.l0 kq l0 l1 l2 x7_1 = some r) ∧ Aside0 (kq ≤ k) ∧ Drawn0 w w')
  case atStart => exact ⟨(0), (by first | rfl | (simp; done) | (simp [*]; done)), H', ⟨Nat.le_refl _⟩, by repeat (first | exact Drawn0.refl _ | apply Drawn0.step)⟩
  case round =>
   clear H'
   try clear c1
   try clear c2
   try clear p2
   try clear c5
   obtain ⟨x7_1, rfl, HA, HK1, ⟨m1, rfl⟩⟩ := hrel
   cases gk with
   | zero => exact absurd HA.out (by simp [parallaxref15_Fits.l0])
   | succ k1 =>
    have H := HA.out
    clear HA
    simp only [parallaxref15_Fits.l0] at H
    by_cases c6 : x7_1 < (l2.length : Int)
    ·rw [if_pos c6] at H
     have c6b0 : decide (x7_1 < (l2.length : Int)) = true := decide_eq_true c6
     clear c6
     by_cases c7 : 0 ≤ x7_1
     ·rw [if_pos c7] at H
      have c7b0 : decide (0 ≤ x7_1) = true := decide_eq_true c7
      clear c7
      by_cases c8 : 0 ≤ ((rd_T67 l2 x7_1).f0)
      ·rw [if_pos c8] at H
       have c8b0 : decide (0 ≤ ((rd_T67 l2 x7_1).f0)) = true := decide_eq_true c8
       clear c8
       by_cases c9 : ((rd_T67 l2 x7_1).f0) < (l0.length : Int)
       ·rw [if_pos c9] at H
        have c9b0 : decide (((rd_T67 l2 x7_1).f0) < (l0.length : Int)) = true := decide_eq_true c9
        clear c9
        by_cases c10 : 0 ≤ ((rd_T67 l2 x7_1).f1)
        ·rw [if_pos c10] at H
         have c10b0 : decide (0 ≤ ((rd_T67 l2 x7_1).f1)) = true := decide_eq_true c10
         clear c10
         by_cases c11 : ((rd_T67 l2 x7_1).f1) < (l1.length : Int)
         ·rw [if_pos c11] at H
          have c11b0 : decide (((rd_T67 l2 x7_1).f1) < (l1.length : Int)) = true := decide_eq_true c11
          clear c11
          by_cases c12 : (!(((rd_T24 l0 ((rd_T67 l2 x7_1).f0)).f0) == ((rd_T24 l1 ((rd_T67 l2 x7_1).f1)).f0)) || (!(((rd_T24 l0 ((rd_T67 l2 x7_1).f0)).f1) == ((rd_T24 l1 ((rd_T67 l2 x7_1).f1)).f1)))) = true
          ·rw [if_pos c12] at H
           have c12b0 : (!(((rd_T24 l0 ((rd_T67 l2 x7_1).f0)).f0) == ((rd_T24 l1 ((rd_T67 l2 x7_1).f1)).f0)) || (!(((rd_T24 l0 ((rd_T67 l2 x7_1).f0)).f1) == ((rd_T24 l1 ((rd_T67 l2 x7_1).f1)).f1)))) = true := c12
           clear c12
           obtain rfl := Option.some.inj H
           have p353 : 0 ≤ (x7_1 : Int) := of_decide_eq_true (by first | (with_reducible assumption) | assumption)
           have q353 : x7_1 < (l2.length : Int) := of_decide_eq_true (by first | (with_reducible assumption) | assumption)
           obtain ⟨ad353, e353, hx353_0, hx353_1⟩ := at_T67 HR2.out x7_1 p353 q353
           cases e353
           replace p353 := eq_true p353
           replace q353 := eq_true q353
           have p354 : 0 ≤ (((rd_T67 l2 x7_1).f0) : Int) := of_decide_eq_true (by first | (with_reducible assumption) | assumption)
           have q354 : ((rd_T67 l2 x7_1).f0) < (l0.length : Int) := of_decide_eq_true (by first | (with_reducible assumption) | assumption)
           obtain ⟨ad354, e354, hx354_0, hx354_1⟩ := at_T24 HR0.out ((rd_T67 l2 x7_1).f0) p354 q354
           cases e354
           replace p354 := eq_true p354
           replace q354 := eq_true q354
           have p355 : 0 ≤ (x7_1 : Int) := of_decide_eq_true (by first | (with_reducible assumption) | assumption)
           have q355 : x7_1 < (l2.length : Int) := of_decide_eq_true (by first | (with_reducible assumption) | assumption)
           obtain ⟨ad355, e355, hx355_0, hx355_1⟩ := at_T67 HR2.out x7_1 p355 q355
           obtain rfl : ad353 = ad355 := (by injection e355)
           replace p355 := eq_true p355
           replace q355 := eq_true q355
           have p356 : 0 ≤ (((rd_T67 l2 x7_1).f1) : Int) := of_decide_eq_true (by first | (with_reducible assumption) | assumption)
           have q356 : ((rd_T67 l2 x7_1).f1) < (l1.length : Int) := of_decide_eq_true (by first | (with_reducible assumption) | assumption)
           obtain ⟨ad356, e356, hx356_0, hx356_1⟩ := at_T24 HR1.out ((rd_T67 l2 x7_1).f1) p356 q356
           cases e356
           replace p356 := eq_true p356
           replace q356 := eq_true q356
           go_wp2
           repeat (go_quiet (fail); try go_wp2)
           go_ret
           exact ⟨by first | rfl | (simp; done) | (simp [*]; done), by repeat (first | exact Drawn0.refl _ | apply Drawn0.step)⟩
          ·rw [if_neg c12] at H
           have c12b0 : (!(((rd_T24 l0 ((rd_T67 l2 x7_1).f0)).f0) == ((rd_T24 l1 ((rd_T67 l2 x7_1).f1)).f0)) || (!(((rd_T24 l0 ((rd_T67 l2 x7_1).f0)).f1) == ((rd_T24 l1 ((rd_T67 l2 x7_1).f1)).f1)))) = false := by simpa using c12
           clear c12
           have H' := Aside0.mk H
           clear H
           have p353 : 0 ≤ (x7_1 : Int) := of_decide_eq_true (by first | (with_reducible assumption) | assumption)
           have q353 : x7_1 < (l2.length : Int) := of_decide_eq_true (by first | (with_reducible assumption) | assumption)
           obtain ⟨ad353, e353, hx353_0, hx353_1⟩ := at_T67 HR2.out x7_1 p353 q353
           cases e353
           replace p353 := eq_true p353
           replace q353 := eq_true q353
           have p354 : 0 ≤ (((rd_T67 l2 x7_1).f0) : Int) := of_decide_eq_true (by first | (with_reducible assumption) | assumption)
           have q354 : ((rd_T67 l2 x7_1).f0) < (l0.length : Int) := of_decide_eq_true (by first | (with_reducible assumption) | assumption)
           obtain ⟨ad354, e354, hx354_0, hx354_1⟩ := at_T24 HR0.out ((rd_T67 l2 x7_1).f0) p354 q354
           cases e354
           replace p354 := eq_true p354
           replace q354 := eq_true q354
           have p355 : 0 ≤ (x7_1 : Int) := of_decide_eq_true (by first | (with_reducible assumption) | assumption)
           have q355 : x7_1 < (l2.length : Int) := of_decide_eq_true (by first | (with_reducible assumption) | assumption)
           obtain ⟨ad355, e355, hx355_0, hx355_1⟩ := at_T67 HR2.out x7_1 p355 q355
           obtain rfl : ad353 = ad355 := (by injection e355)
           replace p355 := eq_true p355
           replace q355 := eq_true q355
           have p356 : 0 ≤ (((rd_T67 l2 x7_1).f1) : Int) := of_decide_eq_true (by first | (with_reducible assumption) | assumption)
           have q356 : ((rd_T67 l2 x7_1).f1) < (l1.length : Int) := of_decide_eq_true (by first | (with_reducible assumption) | assumption)
           obtain ⟨ad356, e356, hx356_0, hx356_1⟩ := at_T24 HR1.out ((rd_T67 l2 x7_1).f1) p356 q356
           cases e356
           replace p356 := eq_true p356
           replace q356 := eq_true q356
           go_wp2
           repeat (go_quiet (fail); try go_wp2)
           go_roundg k1
           case measure => have := HK1.out; omega
           case rel => exact ⟨(wrap64 (x7_1 + 1)), (by first | rfl | (simp; done) | (simp [*]; done)), H', ⟨by have := HK1.out; omega⟩, by repeat (first | exact Drawn0.refl _ | apply Drawn0.step)⟩
         ·rw [if_neg c11] at H
          exact absurd H (by simp)
        ·rw [if_neg c10] at H
         exact absurd H (by simp)
       ·rw [if_neg c9] at H
        exact absurd H (by simp)
      ·rw [if_neg c8] at H
       exact absurd H (by simp)
     ·rw [if_neg c7] at H
      exact absurd H (by simp)
    ·rw [if_neg c6] at H
     have c6b0 : decide (x7_1 < (l2.length : Int)) = false := decide_eq_false c6
     clear c6
     obtain rfl := Option.some.inj H
     go_wp2
     repeat (go_quiet (fail); try go_wp2)
     go_ret
     exact ⟨by first | rfl | (simp; done) | (simp [*]; done), by repeat (first | exact Drawn0.refl _ | apply Drawn0.step)⟩
 ·replace c5 := Bool.eq_false_iff.mpr c5
  subst c5
  have H1 : (some false) = some r := by rw [if_neg (show ¬ (false = true) by decide)] at H; exact H
  clear H
  have H := H1
  clear H1
  obtain rfl := Option.some.inj H
  go_enter Try.func22, Try.ntmps22
  go_wp2_with (first | (go_at_call 40; (with_reducible refine (parallaxref15_Rises.calls k (l0.length : Int) (l1.length : Int) _ _ l2 false _ ?side1 ?side2 A4.out).mono ?_); (case side1 => repeat (first | exact HR2.out | (with_reducible refine Kd.C_alloc ?_ _) | (with_reducible refine Kd.C_drewN ?_ _) | (with_reducible refine Kd.C_drew ?_))); (case side2 => exact HC2.out); rintro e w' ⟨rfl, ⟨nd, rfl⟩⟩; (try first | exact ⟨rfl, _, World.drewN_drewN _ _ _⟩ | exact ⟨rfl, _, Eq.trans (World.drewN_drewN _ _ _) (congrArg (World.drewN _) (Nat.add_assoc _ _ _))⟩)))
  repeat (go_quiet (first | (go_at_call 40; (with_reducible refine (parallaxref15_Rises.calls k (l0.length : Int) (l1.length : Int) _ _ l2 false _ ?side1 ?side2 A4.out).mono ?_); (case side1 => repeat (first | exact HR2.out | (with_reducible refine Kd.C_alloc ?_ _) | (with_reducible refine Kd.C_drewN ?_ _) | (with_reducible refine Kd.C_drew ?_))); (case side2 => exact HC2.out); rintro e w' ⟨rfl, ⟨nd, rfl⟩⟩; (try first | exact ⟨rfl, _, World.drewN_drewN _ _ _⟩ | exact ⟨rfl, _, Eq.trans (World.drewN_drewN _ _ _) (congrArg (World.drewN _) (Nat.add_assoc _ _ _))⟩))); try go_wp2_with (first | (go_at_call 40; (with_reducible refine (parallaxref15_Rises.calls k (l0.length : Int) (l1.length : Int) _ _ l2 false _ ?side1 ?side2 A4.out).mono ?_); (case side1 => repeat (first | exact HR2.out | (with_reducible refine Kd.C_alloc ?_ _) | (with_reducible refine Kd.C_drewN ?_ _) | (with_reducible refine Kd.C_drew ?_))); (case side2 => exact HC2.out); rintro e w' ⟨rfl, ⟨nd, rfl⟩⟩; (try first | exact ⟨rfl, _, World.drewN_drewN _ _ _⟩ | exact ⟨rfl, _, Eq.trans (World.drewN_drewN _ _ _) (congrArg (World.drewN _) (Nat.add_assoc _ _ _))⟩))))
  go_ret
  exact ⟨by first | rfl | (simp; done) | (simp [*]; done), by repeat (first | exact Drawn0.refl _ | apply Drawn0.step)⟩

/-! ### align_Fits: function 25 -/
def align_Fits.l0 : Nat → List (S24) → List (S24) → List (S41) → Int → Int → Option (Bool)
 | 0, _, _, _, _, _ => none
 | k + 1, x0, x1, x16, x17, x18 => if x18 < x17 then (if 0 ≤ x18 then (if x18 < (x16.length : Int) then (if 0 ≤ ((rd_T41 x16 x18).f0) then (if ((rd_T41 x16 x18).f0) < (x0.length : Int) then (if 0 ≤ ((rd_T41 x16 x18).f1) then (if ((rd_T41 x16 x18).f1) < (x1.length : Int) then (if (!(((rd_T24 x0 ((rd_T41 x16 x18).f0)).f0) == ((rd_T24 x1 ((rd_T41 x16 x18).f1)).f0)) || (!(((rd_T24 x0 ((rd_T41 x16 x18).f0)).f1) == ((rd_T24 x1 ((rd_T41 x16 x18).f1)).f1)))) = true then (some false) else (align_Fits.l0 k x0 x1 x16 x17 (wrap64 (x18 + 1)))) else (none)) else (none)) else (none)) else (none)) else (none)) else (none)) else (some true)
def align_Fits.f (k : Nat) (l0 : List (S24)) (l1 : List (S24)) (l2 : List (S41)) : Option (Bool) := (align_rising.f k (l0.length : Int) (l1.length : Int) l2).bind fun t357 => (if t357 = true then (align_Fits.l0 k l0 l1 l2 (l2.length : Int) 0) else (some false))
theorem align_Fits.mono_l : ∀ k, (∀ y0 y1 y2 y3 y4, LeO (align_Fits.l0 k y0 y1 y2 y3 y4) (align_Fits.l0 (k + 1) y0 y1 y2 y3 y4))
 | 0 => fun _ _ _ _ _ r h => by simp [align_Fits.l0] at h
 | k + 1 => by
  have ih0 := align_Fits.mono_l k
  ·intro y0 y1 y2 y3 y4
   unfold align_Fits.l0
   repeat' first
   | (with_reducible exact ih0 _ _ _ _ _)
   | (with_reducible exact align_rising.mono _ _ _ _)
   | (with_reducible exact LeO.refl _)
   | (with_reducible exact LeO.none _)
   | (with_reducible refine LeO.ite ?_ ?_)
   | (with_reducible refine LeO.bind ?_ (fun _ => ?_))
   | exact ih0 _ _ _ _ _
   | exact align_rising.mono _ _ _ _
   | exact LeO.none _
   | refine LeO.ite ?_ ?_
   | refine LeO.bind ?_ (fun _ => ?_)
theorem align_Fits.mono : ∀ a0 a1 a2 k, LeO (align_Fits.f k a0 a1 a2) (align_Fits.f (k + 1) a0 a1 a2) := by
 intro a0 a1 a2 k
 have ih0 := align_Fits.mono_l k
 unfold align_Fits.f
 repeat' first
   | (with_reducible exact ih0 _ _ _ _ _)
   | (with_reducible exact align_rising.mono _ _ _ _)
   | (with_reducible exact LeO.refl _)
   | (with_reducible exact LeO.none _)
   | (with_reducible refine LeO.ite ?_ ?_)
   | (with_reducible refine LeO.bind ?_ (fun _ => ?_))
   | exact ih0 _ _ _ _ _
   | exact align_rising.mono _ _ _ _
   | exact LeO.none _
   | refine LeO.ite ?_ ?_
   | refine LeO.bind ?_ (fun _ => ?_)
set_option maxHeartbeats 8000000 in
set_option maxRecDepth 100000 in
theorem align_Fits.calls (k : Nat) (A0 : Option Addr) (c0 : Nat) (l0 : List (S24)) (A1 : Option Addr) (c1 : Nat) (l1 : List (S24)) (A2 : Option Addr) (c2 : Nat) (l2 : List (S41)) (r : Bool) (w : World) (hr0 : Kd.C k24 w A0 l0.length l0) (hc0 : l0.length ≤ c0) (hr1 : Kd.C k24 w A1 l1.length l1) (hc1 : l1.length ≤ c1) (hr2 : Kd.C k41 w A2 l2.length l2) (hc2 : l2.length ≤ c2) (h : align_Fits.f k l0 l1 l2 = some r) :
  Calls Try.prog 25 #[.slice A0 l0.length c0, .slice A1 l1.length c1, .slice A2 l2.length c2] w fun e w' => e = .returned (.bool r) ∧ Below w.heap.size w w' := by
 have hu41 := Try.underlying41
 have hu24 := Try.underlying24
 have HR0 := Aside0.mk hr0
 have HC0 := Aside0.mk hc0
 clear hr0 hc0
 have HR1 := Aside0.mk hr1
 have HC1 := Aside0.mk hc1
 clear hr1 hc1
 have HR2 := Aside0.mk hr2
 have HC2 := Aside0.mk hc2
 clear hr2 hc2
 have HB := Aside0.mk (Below.refl w.heap.size w)
 have H : ((align_rising.f k (l0.length : Int) (l1.length : Int) l2).bind fun t357 => (if t357 = true then (align_Fits.l0 k l0 l1 l2 (l2.length : Int) 0) else (some false))) = some r := h
 clear h
 replace H := Option.bind_eq_some_iff.mp H
 obtain ⟨t357, A40, H⟩ := H
 replace H : (if t357 = true then (align_Fits.l0 k l0 l1 l2 (l2.length : Int) 0) else (some false)) = some r := H
 have A4 := Aside0.mk A40
 clear A40
 by_cases c5 : t357 = true
 ·subst c5
  have H1 : (align_Fits.l0 k l0 l1 l2 (l2.length : Int) 0) = some r := by rw [if_pos rfl] at H; exact H
  clear H
  have H := H1
  clear H1
  have H' := Aside0.mk H
  clear H
  go_enter Try.func25, Try.ntmps25
  go_wp2_with (first | (go_at_call 43; (with_reducible refine (align_rising.calls k (l0.length : Int) (l1.length : Int) _ _ l2 true _ ?side1 ?side2 A4.out).mono ?_); (case side1 => repeat (first | exact HR2.out | (with_reducible refine Kd.C_alloc ?_ _) | (with_reducible refine Kd.C_drewN ?_ _) | (with_reducible refine Kd.C_drew ?_))); (case side2 => exact HC2.out); rintro e w6 ⟨rfl, hb⟩; have n0_ := Aside0.mk (below_step (by repeat (first | (with_reducible first | exact HB.out | apply below_alloc | apply pw_below_drewN | apply below_drew1) | exact HB.out)) hb); clear HB; have HB := n0_; clear n0_; (try clear hb); (try clear hb2); (try clear hk); (try clear hi)))
  repeat (go_quiet (first | (go_at_call 43; (with_reducible refine (align_rising.calls k (l0.length : Int) (l1.length : Int) _ _ l2 true _ ?side1 ?side2 A4.out).mono ?_); (case side1 => repeat (first | exact HR2.out | (with_reducible refine Kd.C_alloc ?_ _) | (with_reducible refine Kd.C_drewN ?_ _) | (with_reducible refine Kd.C_drew ?_))); (case side2 => exact HC2.out); rintro e w6 ⟨rfl, hb⟩; have n0_ := Aside0.mk (below_step (by repeat (first | (with_reducible first | exact HB.out | apply below_alloc | apply pw_below_drewN | apply below_drew1) | exact HB.out)) hb); clear HB; have HB := n0_; clear n0_; (try clear hb); (try clear hb2); (try clear hk); (try clear hi))); try go_wp2_with (first | (go_at_call 43; (with_reducible refine (align_rising.calls k (l0.length : Int) (l1.length : Int) _ _ l2 true _ ?side1 ?side2 A4.out).mono ?_); (case side1 => repeat (first | exact HR2.out | (with_reducible refine Kd.C_alloc ?_ _) | (with_reducible refine Kd.C_drewN ?_ _) | (with_reducible refine Kd.C_drew ?_))); (case side2 => exact HC2.out); rintro e w6 ⟨rfl, hb⟩; have n0_ := Aside0.mk (below_step (by repeat (first | (with_reducible first | exact HB.out | apply below_alloc | apply pw_below_drewN | apply below_drew1) | exact HB.out)) hb); clear HB; have HB := n0_; clear n0_; (try clear hb); (try clear hb2); (try clear hk); (try clear hi))))
  go_loopg [18] k (fun kq v18 w' => ∃ (x18_1 : Int), v18 = .int .i64 x18_1 ∧ Aside0 (align_Fits.l0 kq l0 l1 l2 (l2.length : Int) x18_1 = some r) ∧ Aside0 (kq ≤ k) ∧ Aside0 (Below w.heap.size w w'))
  case atStart => exact ⟨(0), (by first | rfl | (simp; done) | (simp [*]; done)), H', ⟨Nat.le_refl _⟩, ⟨by repeat (first | (with_reducible first | exact HB.out | apply below_alloc | apply pw_below_drewN | apply below_drew1) | exact HB.out)⟩⟩
  case round =>
   clear H'
   try clear c1
   try clear c2
   try clear p2
   try clear c5
   obtain ⟨x18_1, rfl, HA, HK1, HB⟩ := hrel
   cases gk with
   | zero => exact absurd HA.out (by simp [align_Fits.l0])
   | succ k1 =>
    have H := HA.out
    clear HA
    simp only [align_Fits.l0] at H
    by_cases c7 : x18_1 < (l2.length : Int)
    ·rw [if_pos c7] at H
     have c7b0 : decide (x18_1 < (l2.length : Int)) = true := decide_eq_true c7
     clear c7
     by_cases c8 : 0 ≤ x18_1
     ·rw [if_pos c8] at H
      have c8b0 : decide (0 ≤ x18_1) = true := decide_eq_true c8
      clear c8
      by_cases c9 : x18_1 < (l2.length : Int)
      ·rw [if_pos c9] at H
       have c9b0 : decide (x18_1 < (l2.length : Int)) = true := decide_eq_true c9
       clear c9
       by_cases c10 : 0 ≤ ((rd_T41 l2 x18_1).f0)
       ·rw [if_pos c10] at H
        have c10b0 : decide (0 ≤ ((rd_T41 l2 x18_1).f0)) = true := decide_eq_true c10
        clear c10
        by_cases c11 : ((rd_T41 l2 x18_1).f0) < (l0.length : Int)
        ·rw [if_pos c11] at H
         have c11b0 : decide (((rd_T41 l2 x18_1).f0) < (l0.length : Int)) = true := decide_eq_true c11
         clear c11
         by_cases c12 : 0 ≤ ((rd_T41 l2 x18_1).f1)
         ·rw [if_pos c12] at H
          have c12b0 : decide (0 ≤ ((rd_T41 l2 x18_1).f1)) = true := decide_eq_true c12
          clear c12
          by_cases c13 : ((rd_T41 l2 x18_1).f1) < (l1.length : Int)
          ·rw [if_pos c13] at H
           have c13b0 : decide (((rd_T41 l2 x18_1).f1) < (l1.length : Int)) = true := decide_eq_true c13
           clear c13
           by_cases c14 : (!(((rd_T24 l0 ((rd_T41 l2 x18_1).f0)).f0) == ((rd_T24 l1 ((rd_T41 l2 x18_1).f1)).f0)) || (!(((rd_T24 l0 ((rd_T41 l2 x18_1).f0)).f1) == ((rd_T24 l1 ((rd_T41 l2 x18_1).f1)).f1)))) = true
           ·rw [if_pos c14] at H
            have c14b0 : (!(((rd_T24 l0 ((rd_T41 l2 x18_1).f0)).f0) == ((rd_T24 l1 ((rd_T41 l2 x18_1).f1)).f0)) || (!(((rd_T24 l0 ((rd_T41 l2 x18_1).f0)).f1) == ((rd_T24 l1 ((rd_T41 l2 x18_1).f1)).f1)))) = true := c14
            clear c14
            obtain rfl := Option.some.inj H
            have p358 : 0 ≤ (x18_1 : Int) := of_decide_eq_true (by first | (with_reducible assumption) | assumption)
            have q358 : x18_1 < (l2.length : Int) := of_decide_eq_true (by first | (with_reducible assumption) | assumption)
            obtain ⟨ad358, e358, hx358_0, hx358_1⟩ := at_T41 HR2.out x18_1 p358 q358
            cases e358
            replace hx358_0 := (HB.out.cell (World.block_lt_of_cell? w _ hx358_0)).trans hx358_0
            replace hx358_1 := (HB.out.cell (World.block_lt_of_cell? w _ hx358_1)).trans hx358_1
            replace p358 := eq_true p358
            replace q358 := eq_true q358
            go_wp2_with (first | ((with_reducible refine gate_dst (N := 8) rfl ?_); refine box_event ?hg (N := 8) ?hd (cs := #[.int .i64 0, .int .i64 0]) (t := 41) ?hr ?_; (case hd => rfl); (case hg => rfl); (case hr => first | (go_simp; done) | (go_simp; rfl)); intro gb359 hg w15 hbox hb; have n0_ := Aside0.mk (below_step (by repeat (first | (with_reducible first | exact HB.out | apply below_alloc | apply pw_below_drewN | apply below_drew1) | exact HB.out)) hb); have n1_ := Aside0.mk (hbox); have n2_ := Aside0.mk ((by rw [hg]; exact (below_size (by repeat (first | (with_reducible first | exact HB.out | apply below_alloc | apply pw_below_drewN | apply below_drew1) | exact HB.out))) : w.heap.size ≤ gb359)); have n3_ := Aside0.mk ((by rw [hg]; exact (below_size (by repeat (first | (with_reducible first | exact HB.out | apply below_alloc | apply pw_below_drewN | apply below_drew1) | exact HB.out))) : w.heap.size ≤ gb359)); clear HB; have HB := n0_; have BK359 := n1_; have GW359 := n2_; have GE359 := n3_; clear n0_ n1_ n2_ n3_; clear hb hbox hg; have hcz16_0 : w15.cell? ⟨gb359, 0, none⟩ = some (.int .i64 0) := (blk_cell BK359.out 0).trans rfl; have hcz16_1 : w15.cell? ⟨gb359, 1, none⟩ = some (.int .i64 0) := (blk_cell BK359.out 1).trans rfl; have hfz16_0 := blk_frozen BK359.out 0; have hfz16_1 := blk_frozen BK359.out 1; have p360 : 0 ≤ (((rd_T41 l2 x18_1).f0) : Int) := of_decide_eq_true (by first | (with_reducible assumption) | assumption); have q360 : ((rd_T41 l2 x18_1).f0) < (l0.length : Int) := of_decide_eq_true (by first | (with_reducible assumption) | assumption); obtain ⟨ad360, e360, hx360_0, hx360_1⟩ := at_T24 HR0.out ((rd_T41 l2 x18_1).f0) p360 q360; cases e360; have hn360_0 : ad360.block ≠ gb359 := Nat.ne_of_lt (Nat.lt_of_lt_of_le (by have := World.block_lt_of_cell? _ _ hx360_0; first | rwa [add_block] at this | exact this) GW359.out); have hn360_1 : ad360.block ≠ gb359 := Nat.ne_of_lt (Nat.lt_of_lt_of_le (by have := World.block_lt_of_cell? _ _ hx360_0; first | rwa [add_block] at this | exact this) GW359.out); replace hx360_0 := (HB.out.cell (World.block_lt_of_cell? w _ hx360_0)).trans hx360_0; replace hx360_1 := (HB.out.cell (World.block_lt_of_cell? w _ hx360_1)).trans hx360_1; replace hx360_0 := (cell_far (p := ⟨gb359, 0, none⟩) (by first | (rw [add_block]; exact hn360_0) | (show (Addr.add _ _).block ≠ _; rw [add_block]; exact hn360_0) | exact hn360_0) (.int .i64 ((rd_T41 l2 x18_1).f0))).trans hx360_0; replace hx360_1 := (cell_far (p := ⟨gb359, 0, none⟩) (by first | (rw [add_block]; exact hn360_0) | (show (Addr.add _ _).block ≠ _; rw [add_block]; exact hn360_0) | exact hn360_0) (.int .i64 ((rd_T41 l2 x18_1).f0))).trans hx360_1; replace hx360_0 := (cell_far (p := ⟨gb359, 1, none⟩) (by first | (rw [add_block]; exact hn360_1) | (show (Addr.add _ _).block ≠ _; rw [add_block]; exact hn360_1) | exact hn360_1) (.int .i64 ((rd_T41 l2 x18_1).f1))).trans hx360_0; replace hx360_1 := (cell_far (p := ⟨gb359, 1, none⟩) (by first | (rw [add_block]; exact hn360_1) | (show (Addr.add _ _).block ≠ _; rw [add_block]; exact hn360_1) | exact hn360_1) (.int .i64 ((rd_T41 l2 x18_1).f1))).trans hx360_1; (try have hy360_0 := fun (n_ : Nat) => (show ((((w15.drewN n_).setCell ⟨gb359, 0, none⟩ (.int .i64 ((rd_T41 l2 x18_1).f0))).setCell ⟨gb359, 1, none⟩ (.int .i64 ((rd_T41 l2 x18_1).f1)))).cell? _ = some _ from hx360_0)); (try have hy360_1 := fun (n_ : Nat) => (show ((((w15.drewN n_).setCell ⟨gb359, 0, none⟩ (.int .i64 ((rd_T41 l2 x18_1).f0))).setCell ⟨gb359, 1, none⟩ (.int .i64 ((rd_T41 l2 x18_1).f1)))).cell? _ = some _ from hx360_1)); clear hn360_0; clear hn360_1; replace p360 := eq_true p360; replace q360 := eq_true q360; have p361 : 0 ≤ (((rd_T41 l2 x18_1).f1) : Int) := of_decide_eq_true (by first | (with_reducible assumption) | assumption); have q361 : ((rd_T41 l2 x18_1).f1) < (l1.length : Int) := of_decide_eq_true (by first | (with_reducible assumption) | assumption); obtain ⟨ad361, e361, hx361_0, hx361_1⟩ := at_T24 HR1.out ((rd_T41 l2 x18_1).f1) p361 q361; cases e361; have hn361_0 : ad361.block ≠ gb359 := Nat.ne_of_lt (Nat.lt_of_lt_of_le (by have := World.block_lt_of_cell? _ _ hx361_0; first | rwa [add_block] at this | exact this) GW359.out); have hn361_1 : ad361.block ≠ gb359 := Nat.ne_of_lt (Nat.lt_of_lt_of_le (by have := World.block_lt_of_cell? _ _ hx361_0; first | rwa [add_block] at this | exact this) GW359.out); replace hx361_0 := (HB.out.cell (World.block_lt_of_cell? w _ hx361_0)).trans hx361_0; replace hx361_1 := (HB.out.cell (World.block_lt_of_cell? w _ hx361_1)).trans hx361_1; replace hx361_0 := (cell_far (p := ⟨gb359, 0, none⟩) (by first | (rw [add_block]; exact hn361_0) | (show (Addr.add _ _).block ≠ _; rw [add_block]; exact hn361_0) | exact hn361_0) (.int .i64 ((rd_T41 l2 x18_1).f0))).trans hx361_0; replace hx361_1 := (cell_far (p := ⟨gb359, 0, none⟩) (by first | (rw [add_block]; exact hn361_0) | (show (Addr.add _ _).block ≠ _; rw [add_block]; exact hn361_0) | exact hn361_0) (.int .i64 ((rd_T41 l2 x18_1).f0))).trans hx361_1; replace hx361_0 := (cell_far (p := ⟨gb359, 1, none⟩) (by first | (rw [add_block]; exact hn361_1) | (show (Addr.add _ _).block ≠ _; rw [add_block]; exact hn361_1) | exact hn361_1) (.int .i64 ((rd_T41 l2 x18_1).f1))).trans hx361_0; replace hx361_1 := (cell_far (p := ⟨gb359, 1, none⟩) (by first | (rw [add_block]; exact hn361_1) | (show (Addr.add _ _).block ≠ _; rw [add_block]; exact hn361_1) | exact hn361_1) (.int .i64 ((rd_T41 l2 x18_1).f1))).trans hx361_1; (try have hy361_0 := fun (n_ : Nat) => (show ((((w15.drewN n_).setCell ⟨gb359, 0, none⟩ (.int .i64 ((rd_T41 l2 x18_1).f0))).setCell ⟨gb359, 1, none⟩ (.int .i64 ((rd_T41 l2 x18_1).f1)))).cell? _ = some _ from hx361_0)); (try have hy361_1 := fun (n_ : Nat) => (show ((((w15.drewN n_).setCell ⟨gb359, 0, none⟩ (.int .i64 ((rd_T41 l2 x18_1).f0))).setCell ⟨gb359, 1, none⟩ (.int .i64 ((rd_T41 l2 x18_1).f1)))).cell? _ = some _ from hx361_1)); clear hn361_0; clear hn361_1; replace p361 := eq_true p361; replace q361 := eq_true q361))
            repeat (go_quiet (first | ((with_reducible refine gate_dst (N := 8) rfl ?_); refine box_event ?hg (N := 8) ?hd (cs := #[.int .i64 0, .int .i64 0]) (t := 41) ?hr ?_; (case hd => rfl); (case hg => rfl); (case hr => first | (go_simp; done) | (go_simp; rfl)); intro gb359 hg w15 hbox hb; have n0_ := Aside0.mk (below_step (by repeat (first | (with_reducible first | exact HB.out | apply below_alloc | apply pw_below_drewN | apply below_drew1) | exact HB.out)) hb); have n1_ := Aside0.mk (hbox); have n2_ := Aside0.mk ((by rw [hg]; exact (below_size (by repeat (first | (with_reducible first | exact HB.out | apply below_alloc | apply pw_below_drewN | apply below_drew1) | exact HB.out))) : w.heap.size ≤ gb359)); have n3_ := Aside0.mk ((by rw [hg]; exact (below_size (by repeat (first | (with_reducible first | exact HB.out | apply below_alloc | apply pw_below_drewN | apply below_drew1) | exact HB.out))) : w.heap.size ≤ gb359)); clear HB; have HB := n0_; have BK359 := n1_; have GW359 := n2_; have GE359 := n3_; clear n0_ n1_ n2_ n3_; clear hb hbox hg; have hcz16_0 : w15.cell? ⟨gb359, 0, none⟩ = some (.int .i64 0) := (blk_cell BK359.out 0).trans rfl; have hcz16_1 : w15.cell? ⟨gb359, 1, none⟩ = some (.int .i64 0) := (blk_cell BK359.out 1).trans rfl; have hfz16_0 := blk_frozen BK359.out 0; have hfz16_1 := blk_frozen BK359.out 1; have p360 : 0 ≤ (((rd_T41 l2 x18_1).f0) : Int) := of_decide_eq_true (by first | (with_reducible assumption) | assumption); have q360 : ((rd_T41 l2 x18_1).f0) < (l0.length : Int) := of_decide_eq_true (by first | (with_reducible assumption) | assumption); obtain ⟨ad360, e360, hx360_0, hx360_1⟩ := at_T24 HR0.out ((rd_T41 l2 x18_1).f0) p360 q360; cases e360; have hn360_0 : ad360.block ≠ gb359 := Nat.ne_of_lt (Nat.lt_of_lt_of_le (by have := World.block_lt_of_cell? _ _ hx360_0; first | rwa [add_block] at this | exact this) GW359.out); have hn360_1 : ad360.block ≠ gb359 := Nat.ne_of_lt (Nat.lt_of_lt_of_le (by have := World.block_lt_of_cell? _ _ hx360_0; first | rwa [add_block] at this | exact this) GW359.out); replace hx360_0 := (HB.out.cell (World.block_lt_of_cell? w _ hx360_0)).trans hx360_0; replace hx360_1 := (HB.out.cell (World.block_lt_of_cell? w _ hx360_1)).trans hx360_1; replace hx360_0 := (cell_far (p := ⟨gb359, 0, none⟩) (by first | (rw [add_block]; exact hn360_0) | (show (Addr.add _ _).block ≠ _; rw [add_block]; exact hn360_0) | exact hn360_0) (.int .i64 ((rd_T41 l2 x18_1).f0))).trans hx360_0; replace hx360_1 := (cell_far (p := ⟨gb359, 0, none⟩) (by first | (rw [add_block]; exact hn360_0) | (show (Addr.add _ _).block ≠ _; rw [add_block]; exact hn360_0) | exact hn360_0) (.int .i64 ((rd_T41 l2 x18_1).f0))).trans hx360_1; replace hx360_0 := (cell_far (p := ⟨gb359, 1, none⟩) (by first | (rw [add_block]; exact hn360_1) | (show (Addr.add _ _).block ≠ _; rw [add_block]; exact hn360_1) | exact hn360_1) (.int .i64 ((rd_T41 l2 x18_1).f1))).trans hx360_0; replace hx360_1 := (cell_far (p := ⟨gb359, 1, none⟩) (by first | (rw [add_block]; exact hn360_1) | (show (Addr.add _ _).block ≠ _; rw [add_block]; exact hn360_1) | exact hn360_1) (.int .i64 ((rd_T41 l2 x18_1).f1))).trans hx360_1; (try have hy360_0 := fun (n_ : Nat) => (show ((((w15.drewN n_).setCell ⟨gb359, 0, none⟩ (.int .i64 ((rd_T41 l2 x18_1).f0))).setCell ⟨gb359, 1, none⟩ (.int .i64 ((rd_T41 l2 x18_1).f1)))).cell? _ = some _ from hx360_0)); (try have hy360_1 := fun (n_ : Nat) => (show ((((w15.drewN n_).setCell ⟨gb359, 0, none⟩ (.int .i64 ((rd_T41 l2 x18_1).f0))).setCell ⟨gb359, 1, none⟩ (.int .i64 ((rd_T41 l2 x18_1).f1)))).cell? _ = some _ from hx360_1)); clear hn360_0; clear hn360_1; replace p360 := eq_true p360; replace q360 := eq_true q360; have p361 : 0 ≤ (((rd_T41 l2 x18_1).f1) : Int) := of_decide_eq_true (by first | (with_reducible assumption) | assumption); have q361 : ((rd_T41 l2 x18_1).f1) < (l1.length : Int) := of_decide_eq_true (by first | (with_reducible assumption) | assumption); obtain ⟨ad361, e361, hx361_0, hx361_1⟩ := at_T24 HR1.out ((rd_T41 l2 x18_1).f1) p361 q361; cases e361; have hn361_0 : ad361.block ≠ gb359 := Nat.ne_of_lt (Nat.lt_of_lt_of_le (by have := World.block_lt_of_cell? _ _ hx361_0; first | rwa [add_block] at this | exact this) GW359.out); have hn361_1 : ad361.block ≠ gb359 := Nat.ne_of_lt (Nat.lt_of_lt_of_le (by have := World.block_lt_of_cell? _ _ hx361_0; first | rwa [add_block] at this | exact this) GW359.out); replace hx361_0 := (HB.out.cell (World.block_lt_of_cell? w _ hx361_0)).trans hx361_0; replace hx361_1 := (HB.out.cell (World.block_lt_of_cell? w _ hx361_1)).trans hx361_1; replace hx361_0 := (cell_far (p := ⟨gb359, 0, none⟩) (by first | (rw [add_block]; exact hn361_0) | (show (Addr.add _ _).block ≠ _; rw [add_block]; exact hn361_0) | exact hn361_0) (.int .i64 ((rd_T41 l2 x18_1).f0))).trans hx361_0; replace hx361_1 := (cell_far (p := ⟨gb359, 0, none⟩) (by first | (rw [add_block]; exact hn361_0) | (show (Addr.add _ _).block ≠ _; rw [add_block]; exact hn361_0) | exact hn361_0) (.int .i64 ((rd_T41 l2 x18_1).f0))).trans hx361_1; replace hx361_0 := (cell_far (p := ⟨gb359, 1, none⟩) (by first | (rw [add_block]; exact hn361_1) | (show (Addr.add _ _).block ≠ _; rw [add_block]; exact hn361_1) | exact hn361_1) (.int .i64 ((rd_T41 l2 x18_1).f1))).trans hx361_0; replace hx361_1 := (cell_far (p := ⟨gb359, 1, none⟩) (by first | (rw [add_block]; exact hn361_1) | (show (Addr.add _ _).block ≠ _; rw [add_block]; exact hn361_1) | exact hn361_1) (.int .i64 ((rd_T41 l2 x18_1).f1))).trans hx361_1; (try have hy361_0 := fun (n_ : Nat) => (show ((((w15.drewN n_).setCell ⟨gb359, 0, none⟩ (.int .i64 ((rd_T41 l2 x18_1).f0))).setCell ⟨gb359, 1, none⟩ (.int .i64 ((rd_T41 l2 x18_1).f1)))).cell? _ = some _ from hx361_0)); (try have hy361_1 := fun (n_ : Nat) => (show ((((w15.drewN n_).setCell ⟨gb359, 0, none⟩ (.int .i64 ((rd_T41 l2 x18_1).f0))).setCell ⟨gb359, 1, none⟩ (.int .i64 ((rd_T41 l2 x18_1).f1)))).cell? _ = some _ from hx361_1)); clear hn361_0; clear hn361_1; replace p361 := eq_true p361; replace q361 := eq_true q361)); try go_wp2_with (first | ((with_reducible refine gate_dst (N := 8) rfl ?_); refine box_event ?hg (N := 8) ?hd (cs := #[.int .i64 0, .int .i64 0]) (t := 41) ?hr ?_; (case hd => rfl); (case hg => rfl); (case hr => first | (go_simp; done) | (go_simp; rfl)); intro gb359 hg w15 hbox hb; have n0_ := Aside0.mk (below_step (by repeat (first | (with_reducible first | exact HB.out | apply below_alloc | apply pw_below_drewN | apply below_drew1) | exact HB.out)) hb); have n1_ := Aside0.mk (hbox); have n2_ := Aside0.mk ((by rw [hg]; exact (below_size (by repeat (first | (with_reducible first | exact HB.out | apply below_alloc | apply pw_below_drewN | apply below_drew1) | exact HB.out))) : w.heap.size ≤ gb359)); have n3_ := Aside0.mk ((by rw [hg]; exact (below_size (by repeat (first | (with_reducible first | exact HB.out | apply below_alloc | apply pw_below_drewN | apply below_drew1) | exact HB.out))) : w.heap.size ≤ gb359)); clear HB; have HB := n0_; have BK359 := n1_; have GW359 := n2_; have GE359 := n3_; clear n0_ n1_ n2_ n3_; clear hb hbox hg; have hcz16_0 : w15.cell? ⟨gb359, 0, none⟩ = some (.int .i64 0) := (blk_cell BK359.out 0).trans rfl; have hcz16_1 : w15.cell? ⟨gb359, 1, none⟩ = some (.int .i64 0) := (blk_cell BK359.out 1).trans rfl; have hfz16_0 := blk_frozen BK359.out 0; have hfz16_1 := blk_frozen BK359.out 1; have p360 : 0 ≤ (((rd_T41 l2 x18_1).f0) : Int) := of_decide_eq_true (by first | (with_reducible assumption) | assumption); have q360 : ((rd_T41 l2 x18_1).f0) < (l0.length : Int) := of_decide_eq_true (by first | (with_reducible assumption) | assumption); obtain ⟨ad360, e360, hx360_0, hx360_1⟩ := at_T24 HR0.out ((rd_T41 l2 x18_1).f0) p360 q360; cases e360; have hn360_0 : ad360.block ≠ gb359 := Nat.ne_of_lt (Nat.lt_of_lt_of_le (by have := World.block_lt_of_cell? _ _ hx360_0; first | rwa [add_block] at this | exact this) GW359.out); have hn360_1 : ad360.block ≠ gb359 := Nat.ne_of_lt (Nat.lt_of_lt_of_le (by have := World.block_lt_of_cell? _ _ hx360_0; first | rwa [add_block] at this | exact this) GW359.out); replace hx360_0 := (HB.out.cell (World.block_lt_of_cell? w _ hx360_0)).trans hx360_0; replace hx360_1 := (HB.out.cell (World.block_lt_of_cell? w _ hx360_1)).trans hx360_1; replace hx360_0 := (cell_far (p := ⟨gb359, 0, none⟩) (by first | (rw [add_block]; exact hn360_0) | (show (Addr.add _ _).block ≠ _; rw [add_block]; exact hn360_0) | exact hn360_0) (.int .i64 ((rd_T41 l2 x18_1).f0))).trans hx360_0; replace hx360_1 := (cell_far (p := ⟨gb359, 0, none⟩) (by first | (rw [add_block]; exact hn360_0) | (show (Addr.add _ _).block ≠ _; rw [add_block]; exact hn360_0) | exact hn360_0) (.int .i64 ((rd_T41 l2 x18_1).f0))).trans hx360_1; replace hx360_0 := (cell_far (p := ⟨gb359, 1, none⟩) (by first | (rw [add_block]; exact hn360_1) | (show (Addr.add _ _).block ≠ _; rw [add_block]; exact hn360_1) | exact hn360_1) (.int .i64 ((rd_T41 l2 x18_1).f1))).trans hx360_0; replace hx360_1 := (cell_far (p := ⟨gb359, 1, none⟩) (by first | (rw [add_block]; exact hn360_1) | (show (Addr.add _ _).block ≠ _; rw [add_block]; exact hn360_1) | exact hn360_1) (.int .i64 ((rd_T41 l2 x18_1).f1))).trans hx360_1; (try have hy360_0 := fun (n_ : Nat) => (show ((((w15.drewN n_).setCell ⟨gb359, 0, none⟩ (.int .i64 ((rd_T41 l2 x18_1).f0))).setCell ⟨gb359, 1, none⟩ (.int .i64 ((rd_T41 l2 x18_1).f1)))).cell? _ = some _ from hx360_0)); (try have hy360_1 := fun (n_ : Nat) => (show ((((w15.drewN n_).setCell ⟨gb359, 0, none⟩ (.int .i64 ((rd_T41 l2 x18_1).f0))).setCell ⟨gb359, 1, none⟩ (.int .i64 ((rd_T41 l2 x18_1).f1)))).cell? _ = some _ from hx360_1)); clear hn360_0; clear hn360_1; replace p360 := eq_true p360; replace q360 := eq_true q360; have p361 : 0 ≤ (((rd_T41 l2 x18_1).f1) : Int) := of_decide_eq_true (by first | (with_reducible assumption) | assumption); have q361 : ((rd_T41 l2 x18_1).f1) < (l1.length : Int) := of_decide_eq_true (by first | (with_reducible assumption) | assumption); obtain ⟨ad361, e361, hx361_0, hx361_1⟩ := at_T24 HR1.out ((rd_T41 l2 x18_1).f1) p361 q361; cases e361; have hn361_0 : ad361.block ≠ gb359 := Nat.ne_of_lt (Nat.lt_of_lt_of_le (by have := World.block_lt_of_cell? _ _ hx361_0; first | rwa [add_block] at this | exact this) GW359.out); have hn361_1 : ad361.block ≠ gb359 := Nat.ne_of_lt (Nat.lt_of_lt_of_le (by have := World.block_lt_of_cell? _ _ hx361_0; first | rwa [add_block] at this | exact this) GW359.out); replace hx361_0 := (HB.out.cell (World.block_lt_of_cell? w _ hx361_0)).trans hx361_0; replace hx361_1 := (HB.out.cell (World.block_lt_of_cell? w _ hx361_1)).trans hx361_1; replace hx361_0 := (cell_far (p := ⟨gb359, 0, none⟩) (by first | (rw [add_block]; exact hn361_0) | (show (Addr.add _ _).block ≠ _; rw [add_block]; exact hn361_0) | exact hn361_0) (.int .i64 ((rd_T41 l2 x18_1).f0))).trans hx361_0; replace hx361_1 := (cell_far (p := ⟨gb359, 0, none⟩) (by first | (rw [add_block]; exact hn361_0) | (show (Addr.add _ _).block ≠ _; rw [add_block]; exact hn361_0) | exact hn361_0) (.int .i64 ((rd_T41 l2 x18_1).f0))).trans hx361_1; replace hx361_0 := (cell_far (p := ⟨gb359, 1, none⟩) (by first | (rw [add_block]; exact hn361_1) | (show (Addr.add _ _).block ≠ _; rw [add_block]; exact hn361_1) | exact hn361_1) (.int .i64 ((rd_T41 l2 x18_1).f1))).trans hx361_0; replace hx361_1 := (cell_far (p := ⟨gb359, 1, none⟩) (by first | (rw [add_block]; exact hn361_1) | (show (Addr.add _ _).block ≠ _; rw [add_block]; exact hn361_1) | exact hn361_1) (.int .i64 ((rd_T41 l2 x18_1).f1))).trans hx361_1; (try have hy361_0 := fun (n_ : Nat) => (show ((((w15.drewN n_).setCell ⟨gb359, 0, none⟩ (.int .i64 ((rd_T41 l2 x18_1).f0))).setCell ⟨gb359, 1, none⟩ (.int .i64 ((rd_T41 l2 x18_1).f1)))).cell? _ = some _ from hx361_0)); (try have hy361_1 := fun (n_ : Nat) => (show ((((w15.drewN n_).setCell ⟨gb359, 0, none⟩ (.int .i64 ((rd_T41 l2 x18_1).f0))).setCell ⟨gb359, 1, none⟩ (.int .i64 ((rd_T41 l2 x18_1).f1)))).cell? _ = some _ from hx361_1)); clear hn361_0; clear hn361_1; replace p361 := eq_true p361; replace q361 := eq_true q361)))
            go_ret
            exact ⟨by first | rfl | (simp [errW_none, errW_some] <;> rfl) | (simp [*, errW_none, errW_some] <;> rfl), by repeat (first | (with_reducible first | exact HB.out | apply below_alloc | apply pw_below_drewN | apply below_drew1 | refine below_set ?_ GE359.out) | exact HB.out)⟩
           ·rw [if_neg c14] at H
            have c14b0 : (!(((rd_T24 l0 ((rd_T41 l2 x18_1).f0)).f0) == ((rd_T24 l1 ((rd_T41 l2 x18_1).f1)).f0)) || (!(((rd_T24 l0 ((rd_T41 l2 x18_1).f0)).f1) == ((rd_T24 l1 ((rd_T41 l2 x18_1).f1)).f1)))) = false := by simpa using c14
            clear c14
            have H' := Aside0.mk H
            clear H
            have p358 : 0 ≤ (x18_1 : Int) := of_decide_eq_true (by first | (with_reducible assumption) | assumption)
            have q358 : x18_1 < (l2.length : Int) := of_decide_eq_true (by first | (with_reducible assumption) | assumption)
            obtain ⟨ad358, e358, hx358_0, hx358_1⟩ := at_T41 HR2.out x18_1 p358 q358
            cases e358
            replace hx358_0 := (HB.out.cell (World.block_lt_of_cell? w _ hx358_0)).trans hx358_0
            replace hx358_1 := (HB.out.cell (World.block_lt_of_cell? w _ hx358_1)).trans hx358_1
            replace p358 := eq_true p358
            replace q358 := eq_true q358
            go_wp2_with (first | ((with_reducible refine gate_dst (N := 8) rfl ?_); refine box_event ?hg (N := 8) ?hd (cs := #[.int .i64 0, .int .i64 0]) (t := 41) ?hr ?_; (case hd => rfl); (case hg => rfl); (case hr => first | (go_simp; done) | (go_simp; rfl)); intro gb359 hg w17 hbox hb; have n0_ := Aside0.mk (below_step (by repeat (first | (with_reducible first | exact HB.out | apply below_alloc | apply pw_below_drewN | apply below_drew1) | exact HB.out)) hb); have n1_ := Aside0.mk (hbox); have n2_ := Aside0.mk ((by rw [hg]; exact (below_size (by repeat (first | (with_reducible first | exact HB.out | apply below_alloc | apply pw_below_drewN | apply below_drew1) | exact HB.out))) : w.heap.size ≤ gb359)); have n3_ := Aside0.mk ((by rw [hg]; exact (below_size (by repeat (first | (with_reducible first | exact HB.out | apply below_alloc | apply pw_below_drewN | apply below_drew1) | exact HB.out))) : w.heap.size ≤ gb359)); clear HB; have HB := n0_; have BK359 := n1_; have GW359 := n2_; have GE359 := n3_; clear n0_ n1_ n2_ n3_; clear hb hbox hg; have hcz18_0 : w17.cell? ⟨gb359, 0, none⟩ = some (.int .i64 0) := (blk_cell BK359.out 0).trans rfl; have hcz18_1 : w17.cell? ⟨gb359, 1, none⟩ = some (.int .i64 0) := (blk_cell BK359.out 1).trans rfl; have hfz18_0 := blk_frozen BK359.out 0; have hfz18_1 := blk_frozen BK359.out 1; have p360 : 0 ≤ (((rd_T41 l2 x18_1).f0) : Int) := of_decide_eq_true (by first | (with_reducible assumption) | assumption); have q360 : ((rd_T41 l2 x18_1).f0) < (l0.length : Int) := of_decide_eq_true (by first | (with_reducible assumption) | assumption); obtain ⟨ad360, e360, hx360_0, hx360_1⟩ := at_T24 HR0.out ((rd_T41 l2 x18_1).f0) p360 q360; cases e360; have hn360_0 : ad360.block ≠ gb359 := Nat.ne_of_lt (Nat.lt_of_lt_of_le (by have := World.block_lt_of_cell? _ _ hx360_0; first | rwa [add_block] at this | exact this) GW359.out); have hn360_1 : ad360.block ≠ gb359 := Nat.ne_of_lt (Nat.lt_of_lt_of_le (by have := World.block_lt_of_cell? _ _ hx360_0; first | rwa [add_block] at this | exact this) GW359.out); replace hx360_0 := (HB.out.cell (World.block_lt_of_cell? w _ hx360_0)).trans hx360_0; replace hx360_1 := (HB.out.cell (World.block_lt_of_cell? w _ hx360_1)).trans hx360_1; replace hx360_0 := (cell_far (p := ⟨gb359, 0, none⟩) (by first | (rw [add_block]; exact hn360_0) | (show (Addr.add _ _).block ≠ _; rw [add_block]; exact hn360_0) | exact hn360_0) (.int .i64 ((rd_T41 l2 x18_1).f0))).trans hx360_0; replace hx360_1 := (cell_far (p := ⟨gb359, 0, none⟩) (by first | (rw [add_block]; exact hn360_0) | (show (Addr.add _ _).block ≠ _; rw [add_block]; exact hn360_0) | exact hn360_0) (.int .i64 ((rd_T41 l2 x18_1).f0))).trans hx360_1; replace hx360_0 := (cell_far (p := ⟨gb359, 1, none⟩) (by first | (rw [add_block]; exact hn360_1) | (show (Addr.add _ _).block ≠ _; rw [add_block]; exact hn360_1) | exact hn360_1) (.int .i64 ((rd_T41 l2 x18_1).f1))).trans hx360_0; replace hx360_1 := (cell_far (p := ⟨gb359, 1, none⟩) (by first | (rw [add_block]; exact hn360_1) | (show (Addr.add _ _).block ≠ _; rw [add_block]; exact hn360_1) | exact hn360_1) (.int .i64 ((rd_T41 l2 x18_1).f1))).trans hx360_1; (try have hy360_0 := fun (n_ : Nat) => (show ((((w17.drewN n_).setCell ⟨gb359, 0, none⟩ (.int .i64 ((rd_T41 l2 x18_1).f0))).setCell ⟨gb359, 1, none⟩ (.int .i64 ((rd_T41 l2 x18_1).f1)))).cell? _ = some _ from hx360_0)); (try have hy360_1 := fun (n_ : Nat) => (show ((((w17.drewN n_).setCell ⟨gb359, 0, none⟩ (.int .i64 ((rd_T41 l2 x18_1).f0))).setCell ⟨gb359, 1, none⟩ (.int .i64 ((rd_T41 l2 x18_1).f1)))).cell? _ = some _ from hx360_1)); clear hn360_0; clear hn360_1; replace p360 := eq_true p360; replace q360 := eq_true q360; have p361 : 0 ≤ (((rd_T41 l2 x18_1).f1) : Int) := of_decide_eq_true (by first | (with_reducible assumption) | assumption); have q361 : ((rd_T41 l2 x18_1).f1) < (l1.length : Int) := of_decide_eq_true (by first | (with_reducible assumption) | assumption); obtain ⟨ad361, e361, hx361_0, hx361_1⟩ := at_T24 HR1.out ((rd_T41 l2 x18_1).f1) p361 q361; cases e361; have hn361_0 : ad361.block ≠ gb359 := Nat.ne_of_lt (Nat.lt_of_lt_of_le (by have := World.block_lt_of_cell? _ _ hx361_0; first | rwa [add_block] at this | exact this) GW359.out); have hn361_1 : ad361.block ≠ gb359 := Nat.ne_of_lt (Nat.lt_of_lt_of_le (by have := World.block_lt_of_cell? _ _ hx361_0; first | rwa [add_block] at this | exact this) GW359.out); replace hx361_0 := (HB.out.cell (World.block_lt_of_cell? w _ hx361_0)).trans hx361_0; replace hx361_1 := (HB.out.cell (World.block_lt_of_cell? w _ hx361_1)).trans hx361_1; replace hx361_0 := (cell_far (p := ⟨gb359, 0, none⟩) (by first | (rw [add_block]; exact hn361_0) | (show (Addr.add _ _).block ≠ _; rw [add_block]; exact hn361_0) | exact hn361_0) (.int .i64 ((rd_T41 l2 x18_1).f0))).trans hx361_0; replace hx361_1 := (cell_far (p := ⟨gb359, 0, none⟩) (by first | (rw [add_block]; exact hn361_0) | (show (Addr.add _ _).block ≠ _; rw [add_block]; exact hn361_0) | exact hn361_0) (.int .i64 ((rd_T41 l2 x18_1).f0))).trans hx361_1; replace hx361_0 := (cell_far (p := ⟨gb359, 1, none⟩) (by first | (rw [add_block]; exact hn361_1) | (show (Addr.add _ _).block ≠ _; rw [add_block]; exact hn361_1) | exact hn361_1) (.int .i64 ((rd_T41 l2 x18_1).f1))).trans hx361_0; replace hx361_1 := (cell_far (p := ⟨gb359, 1, none⟩) (by first | (rw [add_block]; exact hn361_1) | (show (Addr.add _ _).block ≠ _; rw [add_block]; exact hn361_1) | exact hn361_1) (.int .i64 ((rd_T41 l2 x18_1).f1))).trans hx361_1; (try have hy361_0 := fun (n_ : Nat) => (show ((((w17.drewN n_).setCell ⟨gb359, 0, none⟩ (.int .i64 ((rd_T41 l2 x18_1).f0))).setCell ⟨gb359, 1, none⟩ (.int .i64 ((rd_T41 l2 x18_1).f1)))).cell? _ = some _ from hx361_0)); (try have hy361_1 := fun (n_ : Nat) => (show ((((w17.drewN n_).setCell ⟨gb359, 0, none⟩ (.int .i64 ((rd_T41 l2 x18_1).f0))).setCell ⟨gb359, 1, none⟩ (.int .i64 ((rd_T41 l2 x18_1).f1)))).cell? _ = some _ from hx361_1)); clear hn361_0; clear hn361_1; replace p361 := eq_true p361; replace q361 := eq_true q361))
            repeat (go_quiet (first | ((with_reducible refine gate_dst (N := 8) rfl ?_); refine box_event ?hg (N := 8) ?hd (cs := #[.int .i64 0, .int .i64 0]) (t := 41) ?hr ?_; (case hd => rfl); (case hg => rfl); (case hr => first | (go_simp; done) | (go_simp; rfl)); intro gb359 hg w17 hbox hb; have n0_ := Aside0.mk (below_step (by repeat (first | (with_reducible first | exact HB.out | apply below_alloc | apply pw_below_drewN | apply below_drew1) | exact HB.out)) hb); have n1_ := Aside0.mk (hbox); have n2_ := Aside0.mk ((by rw [hg]; exact (below_size (by repeat (first | (with_reducible first | exact HB.out | apply below_alloc | apply pw_below_drewN | apply below_drew1) | exact HB.out))) : w.heap.size ≤ gb359)); have n3_ := Aside0.mk ((by rw [hg]; exact (below_size (by repeat (first | (with_reducible first | exact HB.out | apply below_alloc | apply pw_below_drewN | apply below_drew1) | exact HB.out))) : w.heap.size ≤ gb359)); clear HB; have HB := n0_; have BK359 := n1_; have GW359 := n2_; have GE359 := n3_; clear n0_ n1_ n2_ n3_; clear hb hbox hg; have hcz18_0 : w17.cell? ⟨gb359, 0, none⟩ = some (.int .i64 0) := (blk_cell BK359.out 0).trans rfl; have hcz18_1 : w17.cell? ⟨gb359, 1, none⟩ = some (.int .i64 0) := (blk_cell BK359.out 1).trans rfl; have hfz18_0 := blk_frozen BK359.out 0; have hfz18_1 := blk_frozen BK359.out 1; have p360 : 0 ≤ (((rd_T41 l2 x18_1).f0) : Int) := of_decide_eq_true (by first | (with_reducible assumption) | assumption); have q360 : ((rd_T41 l2 x18_1).f0) < (l0.length : Int) := of_decide_eq_true (by first | (with_reducible assumption) | assumption); obtain ⟨ad360, e360, hx360_0, hx360_1⟩ := at_T24 HR0.out ((rd_T41 l2 x18_1).f0) p360 q360; cases e360; have hn360_0 : ad360.block ≠ gb359 := Nat.ne_of_lt (Nat.lt_of_lt_of_le (by have := World.block_lt_of_cell? _ _ hx360_0; first | rwa [add_block] at this | exact this) GW359.out); have hn360_1 : ad360.block ≠ gb359 := Nat.ne_of_lt (Nat.lt_of_lt_of_le (by have := World.block_lt_of_cell? _ _ hx360_0; first | rwa [add_block] at this | exact this) GW359.out); replace hx360_0 := (HB.out.cell (World.block_lt_of_cell? w _ hx360_0)).trans hx360_0; replace hx360_1 := (HB.out.cell (World.block_lt_of_cell? w _ hx360_1)).trans hx360_1; replace hx360_0 := (cell_far (p := ⟨gb359, 0, none⟩) (by first | (rw [add_block]; exact hn360_0) | (show (Addr.add _ _).block ≠ _; rw [add_block]; exact hn360_0) | exact hn360_0) (.int .i64 ((rd_T41 l2 x18_1).f0))).trans hx360_0; replace hx360_1 := (cell_far (p := ⟨gb359, 0, none⟩) (by first | (rw [add_block]; exact hn360_0) | (show (Addr.add _ _).block ≠ _; rw [add_block]; exact hn360_0) | exact hn360_0) (.int .i64 ((rd_T41 l2 x18_1).f0))).trans hx360_1; replace hx360_0 := (cell_far (p := ⟨gb359, 1, none⟩) (by first | (rw [add_block]; exact hn360_1) | (show (Addr.add _ _).block ≠ _; rw [add_block]; exact hn360_1) | exact hn360_1) (.int .i64 ((rd_T41 l2 x18_1).f1))).trans hx360_0; replace hx360_1 := (cell_far (p := ⟨gb359, 1, none⟩) (by first | (rw [add_block]; exact hn360_1) | (show (Addr.add _ _).block ≠ _; rw [add_block]; exact hn360_1) | exact hn360_1) (.int .i64 ((rd_T41 l2 x18_1).f1))).trans hx360_1; (try have hy360_0 := fun (n_ : Nat) => (show ((((w17.drewN n_).setCell ⟨gb359, 0, none⟩ (.int .i64 ((rd_T41 l2 x18_1).f0))).setCell ⟨gb359, 1, none⟩ (.int .i64 ((rd_T41 l2 x18_1).f1)))).cell? _ = some _ from hx360_0)); (try have hy360_1 := fun (n_ : Nat) => (show ((((w17.drewN n_).setCell ⟨gb359, 0, none⟩ (.int .i64 ((rd_T41 l2 x18_1).f0))).setCell ⟨gb359, 1, none⟩ (.int .i64 ((rd_T41 l2 x18_1).f1)))).cell? _ = some _ from hx360_1)); clear hn360_0; clear hn360_1; replace p360 := eq_true p360; replace q360 := eq_true q360; have p361 : 0 ≤ (((rd_T41 l2 x18_1).f1) : Int) := of_decide_eq_true (by first | (with_reducible assumption) | assumption); have q361 : ((rd_T41 l2 x18_1).f1) < (l1.length : Int) := of_decide_eq_true (by first | (with_reducible assumption) | assumption); obtain ⟨ad361, e361, hx361_0, hx361_1⟩ := at_T24 HR1.out ((rd_T41 l2 x18_1).f1) p361 q361; cases e361; have hn361_0 : ad361.block ≠ gb359 := Nat.ne_of_lt (Nat.lt_of_lt_of_le (by have := World.block_lt_of_cell? _ _ hx361_0; first | rwa [add_block] at this | exact this) GW359.out); have hn361_1 : ad361.block ≠ gb359 := Nat.ne_of_lt (Nat.lt_of_lt_of_le (by have := World.block_lt_of_cell? _ _ hx361_0; first | rwa [add_block] at this | exact this) GW359.out); replace hx361_0 := (HB.out.cell (World.block_lt_of_cell? w _ hx361_0)).trans hx361_0; replace hx361_1 := (HB.out.cell (World.block_lt_of_cell? w _ hx361_1)).trans hx361_1; replace hx361_0 := (cell_far (p := ⟨gb359, 0, none⟩) (by first | (rw [add_block]; exact hn361_0) | (show (Addr.add _ _).block ≠ _; rw [add_block]; exact hn361_0) | exact hn361_0) (.int .i64 ((rd_T41 l2 x18_1).f0))).trans hx361_0; replace hx361_1 := (cell_far (p := ⟨gb359, 0, none⟩) (by first | (rw [add_block]; exact hn361_0) | (show (Addr.add _ _).block ≠ _; rw [add_block]; exact hn361_0) | exact hn361_0) (.int .i64 ((rd_T41 l2 x18_1).f0))).trans hx361_1; replace hx361_0 := (cell_far (p := ⟨gb359, 1, none⟩) (by first | (rw [add_block]; exact hn361_1) | (show (Addr.add _ _).block ≠ _; rw [add_block]; exact hn361_1) | exact hn361_1) (.int .i64 ((rd_T41 l2 x18_1).f1))).trans hx361_0; replace hx361_1 := (cell_far (p := ⟨gb359, 1, none⟩) (by first | (rw [add_block]; exact hn361_1) | (show (Addr.add _ _).block ≠ _; rw [add_block]; exact hn361_1) | exact hn361_1) (.int .i64 ((rd_T41 l2 x18_1).f1))).trans hx361_1; (try have hy361_0 := fun (n_ : Nat) => (show ((((w17.drewN n_).setCell ⟨gb359, 0, none⟩ (.int .i64 ((rd_T41 l2 x18_1).f0))).setCell ⟨gb359, 1, none⟩ (.int .i64 ((rd_T41 l2 x18_1).f1)))).cell? _ = some _ from hx361_0)); (try have hy361_1 := fun (n_ : Nat) => (show ((((w17.drewN n_).setCell ⟨gb359, 0, none⟩ (.int .i64 ((rd_T41 l2 x18_1).f0))).setCell ⟨gb359, 1, none⟩ (.int .i64 ((rd_T41 l2 x18_1).f1)))).cell? _ = some _ from hx361_1)); clear hn361_0; clear hn361_1; replace p361 := eq_true p361; replace q361 := eq_true q361)); try go_wp2_with (first | ((with_reducible refine gate_dst (N := 8) rfl ?_); refine box_event ?hg (N := 8) ?hd (cs := #[.int .i64 0, .int .i64 0]) (t := 41) ?hr ?_; (case hd => rfl); (case hg => rfl); (case hr => first | (go_simp; done) | (go_simp; rfl)); intro gb359 hg w17 hbox hb; have n0_ := Aside0.mk (below_step (by repeat (first | (with_reducible first | exact HB.out | apply below_alloc | apply pw_below_drewN | apply below_drew1) | exact HB.out)) hb); have n1_ := Aside0.mk (hbox); have n2_ := Aside0.mk ((by rw [hg]; exact (below_size (by repeat (first | (with_reducible first | exact HB.out | apply below_alloc | apply pw_below_drewN | apply below_drew1) | exact HB.out))) : w.heap.size ≤ gb359)); have n3_ := Aside0.mk ((by rw [hg]; exact (below_size (by repeat (first | (with_reducible first | exact HB.out | apply below_alloc | apply pw_below_drewN | apply below_drew1) | exact HB.out))) : w.heap.size ≤ gb359)); clear HB; have HB := n0_; have BK359 := n1_; have GW359 := n2_; have GE359 := n3_; clear n0_ n1_ n2_ n3_; clear hb hbox hg; have hcz18_0 : w17.cell? ⟨gb359, 0, none⟩ = some (.int .i64 0) := (blk_cell BK359.out 0).trans rfl; have hcz18_1 : w17.cell? ⟨gb359, 1, none⟩ = some (.int .i64 0) := (blk_cell BK359.out 1).trans rfl; have hfz18_0 := blk_frozen BK359.out 0; have hfz18_1 := blk_frozen BK359.out 1; have p360 : 0 ≤ (((rd_T41 l2 x18_1).f0) : Int) := of_decide_eq_true (by first | (with_reducible assumption) | assumption); have q360 : ((rd_T41 l2 x18_1).f0) < (l0.length : Int) := of_decide_eq_true (by first | (with_reducible assumption) | assumption); obtain ⟨ad360, e360, hx360_0, hx360_1⟩ := at_T24 HR0.out ((rd_T41 l2 x18_1).f0) p360 q360; cases e360; have hn360_0 : ad360.block ≠ gb359 := Nat.ne_of_lt (Nat.lt_of_lt_of_le (by have := World.block_lt_of_cell? _ _ hx360_0; first | rwa [add_block] at this | exact this) GW359.out); have hn360_1 : ad360.block ≠ gb359 := Nat.ne_of_lt (Nat.lt_of_lt_of_le (by have := World.block_lt_of_cell? _ _ hx360_0; first | rwa [add_block] at this | exact this) GW359.out); replace hx360_0 := (HB.out.cell (World.block_lt_of_cell? w _ hx360_0)).trans hx360_0; replace hx360_1 := (HB.out.cell (World.block_lt_of_cell? w _ hx360_1)).trans hx360_1; replace hx360_0 := (cell_far (p := ⟨gb359, 0, none⟩) (by first | (rw [add_block]; exact hn360_0) | (show (Addr.add _ _).block ≠ _; rw [add_block]; exact hn360_0) | exact hn360_0) (.int .i64 ((rd_T41 l2 x18_1).f0))).trans hx360_0; replace hx360_1 := (cell_far (p := ⟨gb359, 0, none⟩) (by first | (rw [add_block]; exact hn360_0) | (show (Addr.add _ _).block ≠ _; rw [add_block]; exact hn360_0) | exact hn360_0) (.int .i64 ((rd_T41 l2 x18_1).f0))).trans hx360_1; replace hx360_0 := (cell_far (p := ⟨gb359, 1, none⟩) (by first | (rw [add_block]; exact hn360_1) | (show (Addr.add _ _).block ≠ _; rw [add_block]; exact hn360_1) | exact hn360_1) (.int .i64 ((rd_T41 l2 x18_1).f1))).trans hx360_0; replace hx360_1 := (cell_far (p := ⟨gb359, 1, none⟩) (by first | (rw [add_block]; exact hn360_1) | (show (Addr.add _ _).block ≠ _; rw [add_block]; exact hn360_1) | exact hn360_1) (.int .i64 ((rd_T41 l2 x18_1).f1))).trans hx360_1; (try have hy360_0 := fun (n_ : Nat) => (show ((((w17.drewN n_).setCell ⟨gb359, 0, none⟩ (.int .i64 ((rd_T41 l2 x18_1).f0))).setCell ⟨gb359, 1, none⟩ (.int .i64 ((rd_T41 l2 x18_1).f1)))).cell? _ = some _ from hx360_0)); (try have hy360_1 := fun (n_ : Nat) => (show ((((w17.drewN n_).setCell ⟨gb359, 0, none⟩ (.int .i64 ((rd_T41 l2 x18_1).f0))).setCell ⟨gb359, 1, none⟩ (.int .i64 ((rd_T41 l2 x18_1).f1)))).cell? _ = some _ from hx360_1)); clear hn360_0; clear hn360_1; replace p360 := eq_true p360; replace q360 := eq_true q360; have p361 : 0 ≤ (((rd_T41 l2 x18_1).f1) : Int) := of_decide_eq_true (by first | (with_reducible assumption) | assumption); have q361 : ((rd_T41 l2 x18_1).f1) < (l1.length : Int) := of_decide_eq_true (by first | (with_reducible assumption) | assumption); obtain ⟨ad361, e361, hx361_0, hx361_1⟩ := at_T24 HR1.out ((rd_T41 l2 x18_1).f1) p361 q361; cases e361; have hn361_0 : ad361.block ≠ gb359 := Nat.ne_of_lt (Nat.lt_of_lt_of_le (by have := World.block_lt_of_cell? _ _ hx361_0; first | rwa [add_block] at this | exact this) GW359.out); have hn361_1 : ad361.block ≠ gb359 := Nat.ne_of_lt (Nat.lt_of_lt_of_le (by have := World.block_lt_of_cell? _ _ hx361_0; first | rwa [add_block] at this | exact this) GW359.out); replace hx361_0 := (HB.out.cell (World.block_lt_of_cell? w _ hx361_0)).trans hx361_0; replace hx361_1 := (HB.out.cell (World.block_lt_of_cell? w _ hx361_1)).trans hx361_1; replace hx361_0 := (cell_far (p := ⟨gb359, 0, none⟩) (by first | (rw [add_block]; exact hn361_0) | (show (Addr.add _ _).block ≠ _; rw [add_block]; exact hn361_0) | exact hn361_0) (.int .i64 ((rd_T41 l2 x18_1).f0))).trans hx361_0; replace hx361_1 := (cell_far (p := ⟨gb359, 0, none⟩) (by first | (rw [add_block]; exact hn361_0) | (show (Addr.add _ _).block ≠ _; rw [add_block]; exact hn361_0) | exact hn361_0) (.int .i64 ((rd_T41 l2 x18_1).f0))).trans hx361_1; replace hx361_0 := (cell_far (p := ⟨gb359, 1, none⟩) (by first | (rw [add_block]; exact hn361_1) | (show (Addr.add _ _).block ≠ _; rw [add_block]; exact hn361_1) | exact hn361_1) (.int .i64 ((rd_T41 l2 x18_1).f1))).trans hx361_0; replace hx361_1 := (cell_far (p := ⟨gb359, 1, none⟩) (by first | (rw [add_block]; exact hn361_1) | (show (Addr.add _ _).block ≠ _; rw [add_block]; exact hn361_1) | exact hn361_1) (.int .i64 ((rd_T41 l2 x18_1).f1))).trans hx361_1; (try have hy361_0 := fun (n_ : Nat) => (show ((((w17.drewN n_).setCell ⟨gb359, 0, none⟩ (.int .i64 ((rd_T41 l2 x18_1).f0))).setCell ⟨gb359, 1, none⟩ (.int .i64 ((rd_T41 l2 x18_1).f1)))).cell? _ = some _ from hx361_0)); (try have hy361_1 := fun (n_ : Nat) => (show ((((w17.drewN n_).setCell ⟨gb359, 0, none⟩ (.int .i64 ((rd_T41 l2 x18_1).f0))).setCell ⟨gb359, 1, none⟩ (.int .i64 ((rd_T41 l2 x18_1).f1)))).cell? _ = some _ from hx361_1)); clear hn361_0; clear hn361_1; replace p361 := eq_true p361; replace q361 := eq_true q361)))
            go_roundg k1
            case measure => have := HK1.out; omega
            case rel => exact ⟨(wrap64 (x18_1 + 1)), (by first | rfl | (simp; done) | (simp [*]; done)), H', ⟨by have := HK1.out; omega⟩, ⟨by repeat (first | (with_reducible first | exact HB.out | apply below_alloc | apply pw_below_drewN | apply below_drew1 | refine below_set ?_ GE359.out) | exact HB.out)⟩⟩
          ·rw [if_neg c13] at H
           exact absurd H (by simp)
         ·rw [if_neg c12] at H
          exact absurd H (by simp)
        ·rw [if_neg c11] at H
         exact absurd H (by simp)
       ·rw [if_neg c10] at H
        exact absurd H (by simp)
      ·rw [if_neg c9] at H
       exact absurd H (by simp)
     ·rw [if_neg c8] at H
      exact absurd H (by simp)
    ·rw [if_neg c7] at H
     have c7b0 : decide (x18_1 < (l2.length : Int)) = false := decide_eq_false c7
     clear c7
     obtain rfl := Option.some.inj H
     go_wp2
     repeat (go_quiet (fail); try go_wp2)
     go_ret
     exact ⟨by first | rfl | (simp [errW_none, errW_some] <;> rfl) | (simp [*, errW_none, errW_some] <;> rfl), by repeat (first | (with_reducible first | exact HB.out | apply below_alloc | apply pw_below_drewN | apply below_drew1) | exact HB.out)⟩
 ·replace c5 := Bool.eq_false_iff.mpr c5
  subst c5
  have H1 : (some false) = some r := by rw [if_neg (show ¬ (false = true) by decide)] at H; exact H
  clear H
  have H := H1
  clear H1
  obtain rfl := Option.some.inj H
  go_enter Try.func25, Try.ntmps25
  go_wp2_with (first | (go_at_call 43; (with_reducible refine (align_rising.calls k (l0.length : Int) (l1.length : Int) _ _ l2 false _ ?side1 ?side2 A4.out).mono ?_); (case side1 => repeat (first | exact HR2.out | (with_reducible refine Kd.C_alloc ?_ _) | (with_reducible refine Kd.C_drewN ?_ _) | (with_reducible refine Kd.C_drew ?_))); (case side2 => exact HC2.out); rintro e w19 ⟨rfl, hb⟩; have n0_ := Aside0.mk (below_step (by repeat (first | (with_reducible first | exact HB.out | apply below_alloc | apply pw_below_drewN | apply below_drew1) | exact HB.out)) hb); clear HB; have HB := n0_; clear n0_; (try clear hb); (try clear hb2); (try clear hk); (try clear hi)))
  repeat (go_quiet (first | (go_at_call 43; (with_reducible refine (align_rising.calls k (l0.length : Int) (l1.length : Int) _ _ l2 false _ ?side1 ?side2 A4.out).mono ?_); (case side1 => repeat (first | exact HR2.out | (with_reducible refine Kd.C_alloc ?_ _) | (with_reducible refine Kd.C_drewN ?_ _) | (with_reducible refine Kd.C_drew ?_))); (case side2 => exact HC2.out); rintro e w19 ⟨rfl, hb⟩; have n0_ := Aside0.mk (below_step (by repeat (first | (with_reducible first | exact HB.out | apply below_alloc | apply pw_below_drewN | apply below_drew1) | exact HB.out)) hb); clear HB; have HB := n0_; clear n0_; (try clear hb); (try clear hb2); (try clear hk); (try clear hi))); try go_wp2_with (first | (go_at_call 43; (with_reducible refine (align_rising.calls k (l0.length : Int) (l1.length : Int) _ _ l2 false _ ?side1 ?side2 A4.out).mono ?_); (case side1 => repeat (first | exact HR2.out | (with_reducible refine Kd.C_alloc ?_ _) | (with_reducible refine Kd.C_drewN ?_ _) | (with_reducible refine Kd.C_drew ?_))); (case side2 => exact HC2.out); rintro e w19 ⟨rfl, hb⟩; have n0_ := Aside0.mk (below_step (by repeat (first | (with_reducible first | exact HB.out | apply below_alloc | apply pw_below_drewN | apply below_drew1) | exact HB.out)) hb); clear HB; have HB := n0_; clear n0_; (try clear hb); (try clear hb2); (try clear hk); (try clear hi))))
  go_ret
  exact ⟨by first | rfl | (simp [errW_none, errW_some] <;> rfl) | (simp [*, errW_none, errW_some] <;> rfl), by repeat (first | (with_reducible first | exact HB.out | apply below_alloc | apply pw_below_drewN | apply below_drew1) | exact HB.out)⟩

end Go.Proofs.Ythbgbeelcnfofaa.P
