-- Written by a program of this session (its own turn of the print: wip/patch_print.py), not by hand. Lean checks it.
import Derived.Test.YtmbjogpphegoaaaDoorWZip3
import Derived.Test.YtmbjogpphegoaaaDoorPx0
import Derived.Test.YtmbjogpphegoaaaDoorPx1
namespace Go.Proofs.YtmbjogpphegoaaaDoor.P
open Go.RowKit Go.Proofs.YtmbjogpphegoaaaDoorW.PrintWords Go.Proofs.YtmbjogpphegoaaaDoorW.PrintLast Go.Proofs.YtmbjogpphegoaaaDoorW.PrintMore
attribute [local go_sem] max2_int min2_int max_two min_two max_three min_three max_four min_four
set_option linter.unusedVariables false
set_option linter.unusedSimpArgs false

attribute [local go_sem high] eqA40
/-! ### parallaxref10_Same: function 12 -/
mutual
def parallaxref10_Same.l0 : Nat → List (S35) → List (S35) → Int → Option (Bool)
 | 0, _, _, _ => none
 | k + 1, x0, x1, x5 => if x5 < (x0.length : Int) then (if 0 ≤ x5 then (if x5 < (x1.length : Int) then (if ((rd_T35 x0 x5).f1) = ((rd_T35 x1 x5).f1) then (if ((rd_T35 x0 x5).f2) = ((rd_T35 x1 x5).f2) then (if (((rd_T35 x0 x5).f3) != ((rd_T35 x1 x5).f3)) = true then (parallaxref10_Same.j1 k x0 x1 x5 true) else (parallaxref10_Same.j1 k x0 x1 x5 ((((rd_T35 x0 x5).f0).length : Int) != (((rd_T35 x1 x5).f0).length : Int)))) else (parallaxref10_Same.j1 k x0 x1 x5 true)) else (parallaxref10_Same.j1 k x0 x1 x5 true)) else (none)) else (none)) else (some true)
def parallaxref10_Same.j1 : Nat → List (S35) → List (S35) → Int → Bool → Option (Bool)
 | 0, _, _, _, _ => none
 | k + 1, x0, x1, x5, x69 => if x69 = true then (some false) else (parallaxref10_Same.l1 k x0 x1 x5 0)
def parallaxref10_Same.l1 : Nat → List (S35) → List (S35) → Int → Int → Option (Bool)
 | 0, _, _, _, _ => none
 | k + 1, x0, x1, x5, x6 => if 0 ≤ x5 then (if x5 < (x0.length : Int) then (if x6 < (((rd_T35 x0 x5).f0).length : Int) then (if 0 ≤ x6 then (if x5 < (x1.length : Int) then (if x6 < (((rd_T35 x1 x5).f0).length : Int) then (if (!(((rd_T40 ((rd_T35 x0 x5).f0) x6).f0) == ((rd_T40 ((rd_T35 x1 x5).f0) x6).f0)) || (!(((rd_T40 ((rd_T35 x0 x5).f0) x6).f1) == ((rd_T40 ((rd_T35 x1 x5).f0) x6).f1)) || (!(((rd_T40 ((rd_T35 x0 x5).f0) x6).f2) == ((rd_T40 ((rd_T35 x1 x5).f0) x6).f2))))) = true then (some false) else (parallaxref10_Same.l1 k x0 x1 x5 (wrap64 (x6 + 1)))) else (none)) else (none)) else (none)) else (parallaxref10_Same.l0 k x0 x1 (wrap64 (x5 + 1)))) else (none)) else (none)
end
def parallaxref10_Same.f (k : Nat) (l0 : List (S35)) (l1 : List (S35)) : Option (Bool) := if (l0.length : Int) = (l1.length : Int) then (parallaxref10_Same.l0 k l0 l1 0) else (some false)
set_option maxHeartbeats 8000000 in
set_option maxRecDepth 100000 in
theorem parallaxref10_Same.calls (k : Nat) (A0 : Option Addr) (c0 : Nat) (l0 : List (S35)) (A1 : Option Addr) (c1 : Nat) (l1 : List (S35)) (r : Bool) (w : World) (hr0 : Kd.C k35 w A0 l0.length l0) (hc0 : l0.length ≤ c0) (hr1 : Kd.C k35 w A1 l1.length l1) (hc1 : l1.length ≤ c1) (h : parallaxref10_Same.f k l0 l1 = some r) :
  Calls Tryd.prog 12 #[.slice A0 l0.length c0, .slice A1 l1.length c1] w fun e w' => e = .returned (.bool r) ∧ Drawn0 w w' := by
 have hu40 := Tryd.underlying40; have HR0 := Aside0.mk hr0; have HC0 := Aside0.mk hc0; clear hr0 hc0; have HR1 := Aside0.mk hr1; have HC1 := Aside0.mk hc1; clear hr1 hc1; have H : (if (l0.length : Int) = (l1.length : Int) then (parallaxref10_Same.l0 k l0 l1 0) else (some false)) = some r := h; clear h
 by_cases c3 : (l0.length : Int) = (l1.length : Int)
 ·rw [if_pos c3] at H; obtain ⟨c3b0, c3b1⟩ := eqs c3
  have c3b2 : (l0.length == l1.length) = true := by first | simpa using c3 | (simp at c3 ⊢; omega)
  clear c3; have H' := Aside0.mk H; clear H; go_enter Tryd.func12, Tryd.ntmps12; go_wp2
  repeat (go_quiet (fail); try go_wp2)
  go_loopg [5] k (fun kq v5 w' => ∃ (x5_1 : Int), v5 = .int .i64 x5_1 ∧ Aside0 (parallaxref10_Same.l0 kq l0 l1 x5_1 = some r) ∧ Aside0 (kq ≤ k) ∧ Drawn0 w w')
  case atStart => exact ⟨(0), pr, H', ⟨Nat.le_refl _⟩, by repeat (first | exact Drawn0.refl _ | apply Drawn0.step)⟩
  case round =>
   clear H'; (try clear c1); (try clear p2); (try clear c3); (try clear c3b0); (try clear c3b1); (try clear c3b2); obtain ⟨x5_1, rfl, HA, HK1, ⟨m1, rfl⟩⟩ := hrel
   cases gk with
   | zero => exact absurd HA.out (by simp [parallaxref10_Same.l0])
   | succ k1 =>
    have H := HA.out; clear HA; simp only [parallaxref10_Same.l0] at H
    by_cases c4 : x5_1 < (l0.length : Int)
    ·rw [if_pos c4] at H; have c4b0 := decide_eq_true c4; clear c4; have HC5 := Aside0.mk H; clear H
     go_upto_region 6 with (fail)
     repeat (go_quiet (fail); go_upto_region 6 with (fail))
     go_cut [69] (fun v69 wc => ∃ (kq : Nat) (x69_4 : Bool), v69 = .bool x69_4 ∧ Aside0 (parallaxref10_Same.j1 kq l0 l1 x5_1 x69_4 = some r) ∧ Aside0 (kq ≤ k1) ∧ Drawn0 w wc)
     case first =>
      have H := HC5.out; clear HC5
      replace H := it (c := 0 ≤ x5_1) H; obtain ⟨c6, H⟩ := H; have c6b0 := decide_eq_true c6; clear c6; (first | rw [c6b0] | (simp only [i64_w, i32_w]; rw [c6b0]) | skip)
      replace H := it (c := x5_1 < (l1.length : Int)) H; obtain ⟨c7, H⟩ := H; have c7b0 := decide_eq_true c7; clear c7
      by_cases c8 : ((rd_T35 l0 x5_1).f1) = ((rd_T35 l1 x5_1).f1)
      ·rw [if_pos c8] at H; obtain ⟨c8b0, c8b1⟩ := eqs c8; clear c8
       by_cases c9 : ((rd_T35 l0 x5_1).f2) = ((rd_T35 l1 x5_1).f2)
       ·rw [if_pos c9] at H; obtain ⟨c9b0, c9b1⟩ := eqs c9; clear c9
        by_cases c10 : (((rd_T35 l0 x5_1).f3) != ((rd_T35 l1 x5_1).f3)) = true
        ·rw [if_pos c10] at H; have c10b0 : (((rd_T35 l0 x5_1).f3) != ((rd_T35 l1 x5_1).f3)) = true := c10; (try (have c10b1 : decide (((rd_T35 l0 x5_1).f3) = ((rd_T35 l1 x5_1).f3)) = false := by simpa using c10)); (try (have c10b2 : (((rd_T35 l0 x5_1).f3) == ((rd_T35 l1 x5_1).f3)) = false := by simpa using c10)); (try (have c10b3 : ¬ (((rd_T35 l0 x5_1).f3) = ((rd_T35 l1 x5_1).f3)) := by simpa using c10)); clear c10; have H' := Aside0.mk H; clear H
         have p577 : 0 ≤ (x5_1 : Int) := of_decide_eq_true pa
         have q577 : x5_1 < (l0.length : Int) := of_decide_eq_true pa
         obtain ⟨ad577, A577_0, c577_0, e577, hx577_0, hx577_1, hx577_2, hx577_3, hl577_0, hi577_0⟩ := at_T35 HR0.out x5_1 p577 q577
         cases e577
         have HR577_0 := Aside0.mk hi577_0; have HC577_0 := Aside0.mk hl577_0; clear hi577_0 hl577_0; replace p577 := eq_true p577; replace q577 := eq_true q577
         have p578 : 0 ≤ (x5_1 : Int) := of_decide_eq_true pa
         have q578 : x5_1 < (l1.length : Int) := of_decide_eq_true pa
         obtain ⟨ad578, A578_0, c578_0, e578, hx578_0, hx578_1, hx578_2, hx578_3, hl578_0, hi578_0⟩ := at_T35 HR1.out x5_1 p578 q578
         cases e578
         have HR578_0 := Aside0.mk hi578_0; have HC578_0 := Aside0.mk hl578_0; clear hi578_0 hl578_0; replace p578 := eq_true p578; replace q578 := eq_true q578
         have p579 : 0 ≤ (x5_1 : Int) := of_decide_eq_true pa
         have q579 : x5_1 < (l0.length : Int) := of_decide_eq_true pa
         obtain ⟨ad579, A579_0, c579_0, e579, hx579_0, hx579_1, hx579_2, hx579_3, hl579_0, hi579_0⟩ := at_T35 HR0.out x5_1 p579 q579; obtain rfl : ad577 = ad579 := (by injection e579); have HR579_0 := Aside0.mk hi579_0; have HC579_0 := Aside0.mk hl579_0; clear hi579_0 hl579_0; replace p579 := eq_true p579; replace q579 := eq_true q579; have ea_ := Option.some.inj (hx577_0.symm.trans hx579_0)
         injection ea_ with ea_ en_ ec_
         subst ea_; subst ec_; clear en_
         have p580 : 0 ≤ (x5_1 : Int) := of_decide_eq_true pa
         have q580 : x5_1 < (l1.length : Int) := of_decide_eq_true pa
         obtain ⟨ad580, A580_0, c580_0, e580, hx580_0, hx580_1, hx580_2, hx580_3, hl580_0, hi580_0⟩ := at_T35 HR1.out x5_1 p580 q580; obtain rfl : ad578 = ad580 := (by injection e580); have HR580_0 := Aside0.mk hi580_0; have HC580_0 := Aside0.mk hl580_0; clear hi580_0 hl580_0; replace p580 := eq_true p580; replace q580 := eq_true q580; have ea_ := Option.some.inj (hx578_0.symm.trans hx580_0)
         injection ea_ with ea_ en_ ec_
         subst ea_; subst ec_; clear en_
         have p581 : 0 ≤ (x5_1 : Int) := of_decide_eq_true pa
         have q581 : x5_1 < (l0.length : Int) := of_decide_eq_true pa
         obtain ⟨ad581, A581_0, c581_0, e581, hx581_0, hx581_1, hx581_2, hx581_3, hl581_0, hi581_0⟩ := at_T35 HR0.out x5_1 p581 q581; obtain rfl : ad577 = ad581 := (by injection e581); have HR581_0 := Aside0.mk hi581_0; have HC581_0 := Aside0.mk hl581_0; clear hi581_0 hl581_0; replace p581 := eq_true p581; replace q581 := eq_true q581; have ea_ := Option.some.inj (hx577_0.symm.trans hx581_0)
         injection ea_ with ea_ en_ ec_
         subst ea_; subst ec_; clear en_
         have p582 : 0 ≤ (x5_1 : Int) := of_decide_eq_true pa
         have q582 : x5_1 < (l1.length : Int) := of_decide_eq_true pa
         obtain ⟨ad582, A582_0, c582_0, e582, hx582_0, hx582_1, hx582_2, hx582_3, hl582_0, hi582_0⟩ := at_T35 HR1.out x5_1 p582 q582; obtain rfl : ad578 = ad582 := (by injection e582); have HR582_0 := Aside0.mk hi582_0; have HC582_0 := Aside0.mk hl582_0; clear hi582_0 hl582_0; replace p582 := eq_true p582; replace q582 := eq_true q582; have ea_ := Option.some.inj (hx578_0.symm.trans hx582_0)
         injection ea_ with ea_ en_ ec_
         subst ea_; subst ec_; clear en_; go_wp2
         repeat (go_quiet (fail); try go_wp2)
         go_meet
         case rel => exact ⟨_, (true), pr, H', ⟨by have := HK1.out; first | omega | exact Nat.le_refl _⟩, by repeat (first | exact Drawn0.refl _ | apply Drawn0.step)⟩
        ·rw [if_neg c10] at H; have c10b0 : (((rd_T35 l0 x5_1).f3) != ((rd_T35 l1 x5_1).f3)) = false := by simpa using c10
         (try (have c10b1 : decide (((rd_T35 l0 x5_1).f3) = ((rd_T35 l1 x5_1).f3)) = true := by simpa using c10)); (try (have c10b2 : (((rd_T35 l0 x5_1).f3) == ((rd_T35 l1 x5_1).f3)) = true := by simpa using c10)); clear c10; have H' := Aside0.mk H; clear H
         have p577 : 0 ≤ (x5_1 : Int) := of_decide_eq_true pa
         have q577 : x5_1 < (l0.length : Int) := of_decide_eq_true pa
         obtain ⟨ad577, A577_0, c577_0, e577, hx577_0, hx577_1, hx577_2, hx577_3, hl577_0, hi577_0⟩ := at_T35 HR0.out x5_1 p577 q577
         cases e577
         have HR577_0 := Aside0.mk hi577_0; have HC577_0 := Aside0.mk hl577_0; clear hi577_0 hl577_0; replace p577 := eq_true p577; replace q577 := eq_true q577
         have p578 : 0 ≤ (x5_1 : Int) := of_decide_eq_true pa
         have q578 : x5_1 < (l1.length : Int) := of_decide_eq_true pa
         obtain ⟨ad578, A578_0, c578_0, e578, hx578_0, hx578_1, hx578_2, hx578_3, hl578_0, hi578_0⟩ := at_T35 HR1.out x5_1 p578 q578
         cases e578
         have HR578_0 := Aside0.mk hi578_0; have HC578_0 := Aside0.mk hl578_0; clear hi578_0 hl578_0; replace p578 := eq_true p578; replace q578 := eq_true q578
         have p579 : 0 ≤ (x5_1 : Int) := of_decide_eq_true pa
         have q579 : x5_1 < (l0.length : Int) := of_decide_eq_true pa
         obtain ⟨ad579, A579_0, c579_0, e579, hx579_0, hx579_1, hx579_2, hx579_3, hl579_0, hi579_0⟩ := at_T35 HR0.out x5_1 p579 q579; obtain rfl : ad577 = ad579 := (by injection e579); have HR579_0 := Aside0.mk hi579_0; have HC579_0 := Aside0.mk hl579_0; clear hi579_0 hl579_0; replace p579 := eq_true p579; replace q579 := eq_true q579; have ea_ := Option.some.inj (hx577_0.symm.trans hx579_0)
         injection ea_ with ea_ en_ ec_
         subst ea_; subst ec_; clear en_
         have p580 : 0 ≤ (x5_1 : Int) := of_decide_eq_true pa
         have q580 : x5_1 < (l1.length : Int) := of_decide_eq_true pa
         obtain ⟨ad580, A580_0, c580_0, e580, hx580_0, hx580_1, hx580_2, hx580_3, hl580_0, hi580_0⟩ := at_T35 HR1.out x5_1 p580 q580; obtain rfl : ad578 = ad580 := (by injection e580); have HR580_0 := Aside0.mk hi580_0; have HC580_0 := Aside0.mk hl580_0; clear hi580_0 hl580_0; replace p580 := eq_true p580; replace q580 := eq_true q580; have ea_ := Option.some.inj (hx578_0.symm.trans hx580_0)
         injection ea_ with ea_ en_ ec_
         subst ea_; subst ec_; clear en_
         have p581 : 0 ≤ (x5_1 : Int) := of_decide_eq_true pa
         have q581 : x5_1 < (l0.length : Int) := of_decide_eq_true pa
         obtain ⟨ad581, A581_0, c581_0, e581, hx581_0, hx581_1, hx581_2, hx581_3, hl581_0, hi581_0⟩ := at_T35 HR0.out x5_1 p581 q581; obtain rfl : ad577 = ad581 := (by injection e581); have HR581_0 := Aside0.mk hi581_0; have HC581_0 := Aside0.mk hl581_0; clear hi581_0 hl581_0; replace p581 := eq_true p581; replace q581 := eq_true q581; have ea_ := Option.some.inj (hx577_0.symm.trans hx581_0)
         injection ea_ with ea_ en_ ec_
         subst ea_; subst ec_; clear en_
         have p582 : 0 ≤ (x5_1 : Int) := of_decide_eq_true pa
         have q582 : x5_1 < (l1.length : Int) := of_decide_eq_true pa
         obtain ⟨ad582, A582_0, c582_0, e582, hx582_0, hx582_1, hx582_2, hx582_3, hl582_0, hi582_0⟩ := at_T35 HR1.out x5_1 p582 q582; obtain rfl : ad578 = ad582 := (by injection e582); have HR582_0 := Aside0.mk hi582_0; have HC582_0 := Aside0.mk hl582_0; clear hi582_0 hl582_0; replace p582 := eq_true p582; replace q582 := eq_true q582; have ea_ := Option.some.inj (hx578_0.symm.trans hx582_0)
         injection ea_ with ea_ en_ ec_
         subst ea_; subst ec_; clear en_
         have p583 : 0 ≤ (x5_1 : Int) := of_decide_eq_true pa
         have q583 : x5_1 < (l0.length : Int) := of_decide_eq_true pa
         obtain ⟨ad583, A583_0, c583_0, e583, hx583_0, hx583_1, hx583_2, hx583_3, hl583_0, hi583_0⟩ := at_T35 HR0.out x5_1 p583 q583; obtain rfl : ad577 = ad583 := (by injection e583); have HR583_0 := Aside0.mk hi583_0; have HC583_0 := Aside0.mk hl583_0; clear hi583_0 hl583_0; replace p583 := eq_true p583; replace q583 := eq_true q583; have ea_ := Option.some.inj (hx577_0.symm.trans hx583_0)
         injection ea_ with ea_ en_ ec_
         subst ea_; subst ec_; clear en_
         have p584 : 0 ≤ (x5_1 : Int) := of_decide_eq_true pa
         have q584 : x5_1 < (l1.length : Int) := of_decide_eq_true pa
         obtain ⟨ad584, A584_0, c584_0, e584, hx584_0, hx584_1, hx584_2, hx584_3, hl584_0, hi584_0⟩ := at_T35 HR1.out x5_1 p584 q584; obtain rfl : ad578 = ad584 := (by injection e584); have HR584_0 := Aside0.mk hi584_0; have HC584_0 := Aside0.mk hl584_0; clear hi584_0 hl584_0; replace p584 := eq_true p584; replace q584 := eq_true q584; have ea_ := Option.some.inj (hx578_0.symm.trans hx584_0)
         injection ea_ with ea_ en_ ec_
         subst ea_; subst ec_; clear en_; go_wp2
         repeat (go_quiet (fail); try go_wp2)
         go_meet
         case rel => exact ⟨_, (((((rd_T35 l0 x5_1).f0).length : Int) != (((rd_T35 l1 x5_1).f0).length : Int))), pr, H', ⟨by have := HK1.out; first | omega | exact Nat.le_refl _⟩, by repeat (first | exact Drawn0.refl _ | apply Drawn0.step)⟩
       ·rw [if_neg c9] at H; obtain ⟨c9b0, c9b1⟩ := eqf c9; have H' := Aside0.mk H; clear H
        have p577 : 0 ≤ (x5_1 : Int) := of_decide_eq_true pa
        have q577 : x5_1 < (l0.length : Int) := of_decide_eq_true pa
        obtain ⟨ad577, A577_0, c577_0, e577, hx577_0, hx577_1, hx577_2, hx577_3, hl577_0, hi577_0⟩ := at_T35 HR0.out x5_1 p577 q577
        cases e577
        have HR577_0 := Aside0.mk hi577_0; have HC577_0 := Aside0.mk hl577_0; clear hi577_0 hl577_0; replace p577 := eq_true p577; replace q577 := eq_true q577
        have p578 : 0 ≤ (x5_1 : Int) := of_decide_eq_true pa
        have q578 : x5_1 < (l1.length : Int) := of_decide_eq_true pa
        obtain ⟨ad578, A578_0, c578_0, e578, hx578_0, hx578_1, hx578_2, hx578_3, hl578_0, hi578_0⟩ := at_T35 HR1.out x5_1 p578 q578
        cases e578
        have HR578_0 := Aside0.mk hi578_0; have HC578_0 := Aside0.mk hl578_0; clear hi578_0 hl578_0; replace p578 := eq_true p578; replace q578 := eq_true q578
        have p579 : 0 ≤ (x5_1 : Int) := of_decide_eq_true pa
        have q579 : x5_1 < (l0.length : Int) := of_decide_eq_true pa
        obtain ⟨ad579, A579_0, c579_0, e579, hx579_0, hx579_1, hx579_2, hx579_3, hl579_0, hi579_0⟩ := at_T35 HR0.out x5_1 p579 q579; obtain rfl : ad577 = ad579 := (by injection e579); have HR579_0 := Aside0.mk hi579_0; have HC579_0 := Aside0.mk hl579_0; clear hi579_0 hl579_0; replace p579 := eq_true p579; replace q579 := eq_true q579; have ea_ := Option.some.inj (hx577_0.symm.trans hx579_0)
        injection ea_ with ea_ en_ ec_
        subst ea_; subst ec_; clear en_
        have p580 : 0 ≤ (x5_1 : Int) := of_decide_eq_true pa
        have q580 : x5_1 < (l1.length : Int) := of_decide_eq_true pa
        obtain ⟨ad580, A580_0, c580_0, e580, hx580_0, hx580_1, hx580_2, hx580_3, hl580_0, hi580_0⟩ := at_T35 HR1.out x5_1 p580 q580; obtain rfl : ad578 = ad580 := (by injection e580); have HR580_0 := Aside0.mk hi580_0; have HC580_0 := Aside0.mk hl580_0; clear hi580_0 hl580_0; replace p580 := eq_true p580; replace q580 := eq_true q580; have ea_ := Option.some.inj (hx578_0.symm.trans hx580_0)
        injection ea_ with ea_ en_ ec_
        subst ea_; subst ec_; clear en_; go_wp2
        repeat (go_quiet (fail); try go_wp2)
        go_meet
        case rel => exact ⟨_, (true), pr, H', ⟨by have := HK1.out; first | omega | exact Nat.le_refl _⟩, by repeat (first | exact Drawn0.refl _ | apply Drawn0.step)⟩
      ·rw [if_neg c8] at H; obtain ⟨c8b0, c8b1⟩ := eqf c8; have H' := Aside0.mk H; clear H
       have p577 : 0 ≤ (x5_1 : Int) := of_decide_eq_true pa
       have q577 : x5_1 < (l0.length : Int) := of_decide_eq_true pa
       obtain ⟨ad577, A577_0, c577_0, e577, hx577_0, hx577_1, hx577_2, hx577_3, hl577_0, hi577_0⟩ := at_T35 HR0.out x5_1 p577 q577
       cases e577
       have HR577_0 := Aside0.mk hi577_0; have HC577_0 := Aside0.mk hl577_0; clear hi577_0 hl577_0; replace p577 := eq_true p577; replace q577 := eq_true q577
       have p578 : 0 ≤ (x5_1 : Int) := of_decide_eq_true pa
       have q578 : x5_1 < (l1.length : Int) := of_decide_eq_true pa
       obtain ⟨ad578, A578_0, c578_0, e578, hx578_0, hx578_1, hx578_2, hx578_3, hl578_0, hi578_0⟩ := at_T35 HR1.out x5_1 p578 q578
       cases e578
       have HR578_0 := Aside0.mk hi578_0; have HC578_0 := Aside0.mk hl578_0; clear hi578_0 hl578_0; replace p578 := eq_true p578; replace q578 := eq_true q578; go_wp2
       repeat (go_quiet (fail); try go_wp2)
       go_meet
       case rel => exact ⟨_, (true), pr, H', ⟨by have := HK1.out; first | omega | exact Nat.le_refl _⟩, by repeat (first | exact Drawn0.refl _ | apply Drawn0.step)⟩
     case rest =>
      clear HC5; (try clear c1); (try clear p2); (try clear c3); (try clear c3b0); (try clear c3b1); (try clear c3b2); (try clear c4); (try clear c4b0); (try clear c5); (try clear p5); (try clear q5); (try clear hx5); (try clear c6); (try clear c6b0); (try clear c7); (try clear c7b0); (try clear c8); (try clear c8b0); (try clear c8b1); (try clear c9); (try clear c9b0); (try clear c9b1); (try clear c10); (try clear c10b0); (try clear c10b1); (try clear c10b2); (try clear hx577_0); (try clear hx577_1); (try clear hx577_2); (try clear hx577_3); (try clear hx578_0); (try clear hx578_1); (try clear hx578_2); (try clear hx578_3); (try clear hx579_0); (try clear hx579_1); (try clear hx579_2); (try clear hx579_3); (try clear hx580_0); (try clear hx580_1); (try clear hx580_2); (try clear hx580_3); (try clear hx581_0); (try clear hx581_1); (try clear hx581_2); (try clear hx581_3); (try clear hx582_0); (try clear hx582_1); (try clear hx582_2); (try clear hx582_3); (try clear hx583_0); (try clear hx583_1); (try clear hx583_2); (try clear hx583_3); (try clear hx584_0); (try clear hx584_1); (try clear hx584_2); (try clear hx584_3); (try clear p2); (try clear p577); (try clear p578); (try clear p579); (try clear p580); (try clear p581); (try clear p582); (try clear p583); (try clear p584); (try clear q577); (try clear q578); (try clear q579); (try clear q580); (try clear q581); (try clear q582); (try clear q583); (try clear q584); obtain ⟨kq, x69_4, rfl, HA, HJ4, ⟨mc4, rfl⟩⟩ := hcut
      cases kq with
      | zero => exact absurd HA.out (by simp [parallaxref10_Same.j1])
      | succ kj4 =>
       have H := HA.out; clear HA; simp only [parallaxref10_Same.j1] at H
       by_cases c11 : x69_4 = true
       ·subst c11; rw [if_pos rfl] at H; obtain rfl := Option.some.inj H; go_wp2
        repeat (go_quiet (fail); try go_wp2)
        go_ret; exact ⟨by first | rfl | (simp; done) | (simp [*]; done), by repeat (first | exact Drawn0.refl _ | apply Drawn0.step)⟩
       ·replace c11 := Bool.eq_false_iff.mpr c11; subst c11; rw [if_neg (show ¬ (false = true) by decide)] at H; have H' := Aside0.mk H; clear H; go_wp2
        repeat (go_quiet (fail); try go_wp2)
        go_loopg [6] kj4 (fun kq v6 w' => ∃ (x6_3 : Int), v6 = .int .i64 x6_3 ∧ Aside0 (parallaxref10_Same.l1 kq l0 l1 x5_1 x6_3 = some r) ∧ Aside0 (kq ≤ kj4) ∧ Drawn0 w w')
        case atStart => exact ⟨(0), pr, H', ⟨Nat.le_refl _⟩, by repeat (first | exact Drawn0.refl _ | apply Drawn0.step)⟩
        case round =>
         clear H'; (try clear c1); (try clear p2); (try clear c3); (try clear c3b0); (try clear c3b1); (try clear c3b2); (try clear c4); (try clear c4b0); (try clear c5); (try clear p5); (try clear q5); (try clear hx5); (try clear c6); (try clear c6b0); (try clear c7); (try clear c7b0); (try clear c8); (try clear c8b0); (try clear c8b1); (try clear c9); (try clear c9b0); (try clear c9b1); (try clear c10); (try clear c10b0); (try clear c10b1); (try clear c10b2); (try clear c11); (try clear hx577_0); (try clear hx577_1); (try clear hx577_2); (try clear hx577_3); (try clear hx578_0); (try clear hx578_1); (try clear hx578_2); (try clear hx578_3); (try clear hx579_0); (try clear hx579_1); (try clear hx579_2); (try clear hx579_3); (try clear hx580_0); (try clear hx580_1); (try clear hx580_2); (try clear hx580_3); (try clear hx581_0); (try clear hx581_1); (try clear hx581_2); (try clear hx581_3); (try clear hx582_0); (try clear hx582_1); (try clear hx582_2); (try clear hx582_3); (try clear hx583_0); (try clear hx583_1); (try clear hx583_2); (try clear hx583_3); (try clear hx584_0); (try clear hx584_1); (try clear hx584_2); (try clear hx584_3); (try clear p2); (try clear p5); (try clear p577); (try clear p578); (try clear p579); (try clear p580); (try clear p581); (try clear p582); (try clear p583); (try clear p584); (try clear q5); (try clear q577); (try clear q578); (try clear q579); (try clear q580); (try clear q581); (try clear q582); (try clear q583); (try clear q584); obtain ⟨x6_3, rfl, HA, HK3, ⟨m3, rfl⟩⟩ := hrel
         cases gk with
         | zero => exact absurd HA.out (by simp [parallaxref10_Same.l1])
         | succ k3 =>
          have H := HA.out; clear HA; simp only [parallaxref10_Same.l1] at H
          replace H := it (c := 0 ≤ x5_1) H; obtain ⟨c12, H⟩ := H; have c12b0 := decide_eq_true c12; clear c12
          replace H := it (c := x5_1 < (l0.length : Int)) H; obtain ⟨c13, H⟩ := H; have c13b0 := decide_eq_true c13; clear c13; have HH_ := Aside0.mk H; clear H
          have p585 : 0 ≤ (x5_1 : Int) := of_decide_eq_true pa
          have q585 : x5_1 < (l0.length : Int) := of_decide_eq_true pa
          obtain ⟨ad585, A585_0, c585_0, e585, hx585_0, hx585_1, hx585_2, hx585_3, hl585_0, hi585_0⟩ := at_T35 HR0.out x5_1 p585 q585
          cases e585
          have HR585_0 := Aside0.mk hi585_0; have HC585_0 := Aside0.mk hl585_0; clear hi585_0 hl585_0; replace p585 := eq_true p585; replace q585 := eq_true q585; have H := HH_.out; clear HH_
          by_cases c14 : x6_3 < (((rd_T35 l0 x5_1).f0).length : Int)
          ·rw [if_pos c14] at H; have c14b0 := decide_eq_true c14; clear c14
           replace H := it (c := 0 ≤ x6_3) H; obtain ⟨c15, H⟩ := H; have c15b0 := decide_eq_true c15; clear c15
           replace H := it (c := x5_1 < (l1.length : Int)) H; obtain ⟨c16, H⟩ := H; have c16b0 := decide_eq_true c16; clear c16
           replace H := it (c := x6_3 < (((rd_T35 l1 x5_1).f0).length : Int)) H; obtain ⟨c17, H⟩ := H; have c17b0 := decide_eq_true c17; clear c17; have HH_ := Aside0.mk H; clear H
           have p586 : 0 ≤ (x5_1 : Int) := of_decide_eq_true pa
           have q586 : x5_1 < (l0.length : Int) := of_decide_eq_true pa
           obtain ⟨ad586, A586_0, c586_0, e586, hx586_0, hx586_1, hx586_2, hx586_3, hl586_0, hi586_0⟩ := at_T35 HR0.out x5_1 p586 q586; obtain rfl : ad585 = ad586 := (by injection e586); have HR586_0 := Aside0.mk hi586_0; have HC586_0 := Aside0.mk hl586_0; clear hi586_0 hl586_0; replace p586 := eq_true p586; replace q586 := eq_true q586; have ea_ := Option.some.inj (hx585_0.symm.trans hx586_0)
           injection ea_ with ea_ en_ ec_
           subst ea_; subst ec_; clear en_
           have p587 : 0 ≤ (x6_3 : Int) := of_decide_eq_true pa
           have q587 : x6_3 < (((rd_T35 l0 x5_1).f0).length : Int) := of_decide_eq_true pa
           obtain ⟨ad587, e587, hx587_0, hx587_1, hx587_2⟩ := at_T40 HR586_0.out x6_3 p587 q587
           cases e587
           replace p587 := eq_true p587; replace q587 := eq_true q587
           have p588 : 0 ≤ (x5_1 : Int) := of_decide_eq_true pa
           have q588 : x5_1 < (l1.length : Int) := of_decide_eq_true pa
           obtain ⟨ad588, A588_0, c588_0, e588, hx588_0, hx588_1, hx588_2, hx588_3, hl588_0, hi588_0⟩ := at_T35 HR1.out x5_1 p588 q588
           cases e588
           have HR588_0 := Aside0.mk hi588_0; have HC588_0 := Aside0.mk hl588_0; clear hi588_0 hl588_0; replace p588 := eq_true p588; replace q588 := eq_true q588
           have p589 : 0 ≤ (x6_3 : Int) := of_decide_eq_true pa
           have q589 : x6_3 < (((rd_T35 l1 x5_1).f0).length : Int) := of_decide_eq_true pa
           obtain ⟨ad589, e589, hx589_0, hx589_1, hx589_2⟩ := at_T40 HR588_0.out x6_3 p589 q589
           cases e589
           replace p589 := eq_true p589; replace q589 := eq_true q589; have H := HH_.out; clear HH_
           by_cases c18 : (!(((rd_T40 ((rd_T35 l0 x5_1).f0) x6_3).f0) == ((rd_T40 ((rd_T35 l1 x5_1).f0) x6_3).f0)) || (!(((rd_T40 ((rd_T35 l0 x5_1).f0) x6_3).f1) == ((rd_T40 ((rd_T35 l1 x5_1).f0) x6_3).f1)) || (!(((rd_T40 ((rd_T35 l0 x5_1).f0) x6_3).f2) == ((rd_T40 ((rd_T35 l1 x5_1).f0) x6_3).f2))))) = true
           ·rw [if_pos c18] at H
            have c18b0 : (!(((rd_T40 ((rd_T35 l0 x5_1).f0) x6_3).f0) == ((rd_T40 ((rd_T35 l1 x5_1).f0) x6_3).f0)) || (!(((rd_T40 ((rd_T35 l0 x5_1).f0) x6_3).f1) == ((rd_T40 ((rd_T35 l1 x5_1).f0) x6_3).f1)) || (!(((rd_T40 ((rd_T35 l0 x5_1).f0) x6_3).f2) == ((rd_T40 ((rd_T35 l1 x5_1).f0) x6_3).f2))))) = true := c18
            clear c18; obtain rfl := Option.some.inj H; go_wp2
            repeat (go_quiet (fail); try go_wp2)
            go_ret; exact ⟨by first | rfl | (simp; done) | (simp [*]; done), by repeat (first | exact Drawn0.refl _ | apply Drawn0.step)⟩
           ·rw [if_neg c18] at H
            have c18b0 : (!(((rd_T40 ((rd_T35 l0 x5_1).f0) x6_3).f0) == ((rd_T40 ((rd_T35 l1 x5_1).f0) x6_3).f0)) || (!(((rd_T40 ((rd_T35 l0 x5_1).f0) x6_3).f1) == ((rd_T40 ((rd_T35 l1 x5_1).f0) x6_3).f1)) || (!(((rd_T40 ((rd_T35 l0 x5_1).f0) x6_3).f2) == ((rd_T40 ((rd_T35 l1 x5_1).f0) x6_3).f2))))) = false := by simpa using c18
            clear c18; have H' := Aside0.mk H; clear H; go_wp2
            repeat (go_quiet (fail); try go_wp2)
            go_roundg k3
            case measure => have := HK1.out; have := HJ4.out; have := HK3.out; omega
            case rel => exact ⟨(wrap64 (x6_3 + 1)), pr, H', ⟨by have := HK1.out; have := HJ4.out; have := HK3.out; omega⟩, by repeat (first | exact Drawn0.refl _ | apply Drawn0.step)⟩
          ·rw [if_neg c14] at H; have c14b0 := decide_eq_false c14; clear c14; have H' := Aside0.mk H; clear H; go_wp2
           repeat (go_quiet (fail); try go_wp2)
           go_roundg k3
           case measure => have := HK1.out; have := HJ4.out; have := HK3.out; omega
           case rel => exact ⟨(wrap64 (x5_1 + 1)), pr, H', ⟨by have := HK1.out; have := HJ4.out; have := HK3.out; omega⟩, by repeat (first | exact Drawn0.refl _ | apply Drawn0.step)⟩
    ·rw [if_neg c4] at H; have c4b0 := decide_eq_false c4; clear c4; obtain rfl := Option.some.inj H; go_wp2
     repeat (go_quiet (fail); try go_wp2)
     go_ret; exact ⟨by first | rfl | (simp; done) | (simp [*]; done), by repeat (first | exact Drawn0.refl _ | apply Drawn0.step)⟩
 ·rw [if_neg c3] at H; obtain ⟨c3b0, c3b1⟩ := eqf c3
  have c3b2 : (l0.length == l1.length) = false := by first | simpa using c3 | (simp at c3 ⊢; omega)
  obtain rfl := Option.some.inj H; go_enter Tryd.func12, Tryd.ntmps12; go_wp2
  repeat (go_quiet (fail); try go_wp2)
  go_ret; exact ⟨by first | rfl | (simp; done) | (simp [*]; done), by repeat (first | exact Drawn0.refl _ | apply Drawn0.step)⟩

end Go.Proofs.YtmbjogpphegoaaaDoor.P
