-- Written by a program of this session (its own turn of the print: wip/patch_print.py), not by hand. Lean checks it.
import Derived.Test.YtmbjogpphegoaaaDoorWZip3
import Derived.Test.YtmbjogpphegoaaaDoorPx0
import Derived.Test.YtmbjogpphegoaaaDoorPx2
import Derived.Test.YtmbjogpphegoaaaDoorPx3
import Derived.Test.YtmbjogpphegoaaaDoorPx8
import Derived.Test.YtmbjogpphegoaaaDoorPx16
import Derived.Test.YtmbjogpphegoaaaDoorPx17
import Derived.Test.YtmbjogpphegoaaaDoorPx21
import Derived.Test.YtmbjogpphegoaaaDoorPx22
namespace Go.Proofs.YtmbjogpphegoaaaDoor.P
open Go.RowKit Go.Proofs.YtmbjogpphegoaaaDoorW.PrintWords Go.Proofs.YtmbjogpphegoaaaDoorW.PrintLast Go.Proofs.YtmbjogpphegoaaaDoorW.PrintMore
attribute [local go_sem] max2_int min2_int max_two min_two max_three min_three max_four min_four
set_option linter.unusedVariables false
set_option linter.unusedSimpArgs false

/-! ### parallaxlaw10_PeepSound: function 4 -/
mutual
def parallaxlaw10_PeepSound.j0 : Nat → List (S35) → List (S35) → Bool → Option (Bool)
 | 0, _, _, _ => none
 | k + 1, x0, x5, x44 => if x44 = true then (some false) else (parallaxlaw10_PeepSound.l0 k x0 x5 0)
def parallaxlaw10_PeepSound.l0 : Nat → List (S35) → List (S35) → Int → Option (Bool)
 | 0, _, _, _ => none
 | k + 1, x0, x5, x7 => if x7 < (x0.length : Int) then ((parallaxref08_Heights.f k x5 x7).bind fun bt564 => (if 0 ≤ x7 then (if x7 < (x5.length : Int) then (if (((rd_T35 x5 x7).f0).length : Int) > (((rd_T35 x0 x7).f0).length : Int) then (parallaxlaw10_PeepSound.j2 k x0 x5 x7 bt564.1 true) else (if ((rd_T35 x5 x7).f1) = ((rd_T35 x0 x7).f1) then (if ((rd_T35 x5 x7).f2) = ((rd_T35 x0 x7).f2) then (parallaxlaw10_PeepSound.j2 k x0 x5 x7 bt564.1 (((rd_T35 x5 x7).f3) != ((rd_T35 x0 x7).f3))) else (parallaxlaw10_PeepSound.j2 k x0 x5 x7 bt564.1 true)) else (parallaxlaw10_PeepSound.j2 k x0 x5 x7 bt564.1 true))) else (none)) else (none))) else ((parallaxlaw10_known.f k).bind fun t563 => (some t563))
def parallaxlaw10_PeepSound.j2 : Nat → List (S35) → List (S35) → Int → List Int → Bool → Option (Bool)
 | 0, _, _, _, _, _ => none
 | k + 1, x0, x5, x7, x8, x108 => if x108 = true then (some false) else (parallaxlaw10_PeepSound.l1 k x0 x5 x7 x8 0)
def parallaxlaw10_PeepSound.l1 : Nat → List (S35) → List (S35) → Int → List Int → Int → Option (Bool)
 | 0, _, _, _, _, _ => none
 | k + 1, x0, x5, x7, x8, x10 => if x10 < (x8.length : Int) then (if 0 ≤ x10 then (if (rd x8 x10) < 0 then (some false) else (parallaxlaw10_PeepSound.l1 k x0 x5 x7 x8 (wrap64 (x10 + 1)))) else (none)) else (parallaxlaw10_PeepSound.l0 k x0 x5 (wrap64 (x7 + 1)))
end
def parallaxlaw10_PeepSound.f (k : Nat) (l0 : List (S35)) (a1 : Int) : Option (Bool) := (parallaxlaw10_great.f k l0).bind fun t554 => (if t554 = true then ((parallaxlaw10_known.f k).bind fun t555 => (some t555)) else ((peep_Make.f k l0 a1).bind fun bt556 => (if bt556.2 = 0 then ((code_Sound.f k bt556.1 a1).bind fun t562 => (if t562 = true then (parallaxlaw10_PeepSound.j0 k l0 bt556.1 ((bt556.1.length : Int) != (l0.length : Int))) else (parallaxlaw10_PeepSound.j0 k l0 bt556.1 true))) else ((parallaxref08_Sound.f k l0 a1).bind fun t560 => (if t560 = true then (some false) else (if (bt556.1.length : Int) = 0 then ((parallaxlaw10_known.f k).bind fun t561 => (some t561)) else (some false)))))))
set_option maxHeartbeats 8000000 in
set_option maxRecDepth 100000 in
theorem parallaxlaw10_PeepSound.calls (k : Nat) (A0 : Option Addr) (c0 : Nat) (l0 : List (S35)) (a1 : Int) (r : Bool) (w : World) (hr0 : Kd.C k35 w A0 l0.length l0) (hc0 : l0.length ≤ c0) (hLd : Laid w) (h : parallaxlaw10_PeepSound.f k l0 a1 = some r) (hr_ : r = true := by rfl) :
  Calls Tryd.prog 4 #[.slice A0 l0.length c0, .int .i64 a1] w fun e w' => e = .returned (.bool r) ∧ Below w.heap.size w w' := by
 have HR0 := Aside0.mk hr0; have HC0 := Aside0.mk hc0; clear hr0 hc0; have HLd := Aside0.mk hLd; clear hLd; have HB := Aside0.mk (Below.refl w.heap.size w); have H : ((parallaxlaw10_great.f k l0).bind fun t554 => (if t554 = true then ((parallaxlaw10_known.f k).bind fun t555 => (some t555)) else ((peep_Make.f k l0 a1).bind fun bt556 => (if bt556.2 = 0 then ((code_Sound.f k bt556.1 a1).bind fun t562 => (if t562 = true then (parallaxlaw10_PeepSound.j0 k l0 bt556.1 ((bt556.1.length : Int) != (l0.length : Int))) else (parallaxlaw10_PeepSound.j0 k l0 bt556.1 true))) else ((parallaxref08_Sound.f k l0 a1).bind fun t560 => (if t560 = true then (some false) else (if (bt556.1.length : Int) = 0 then ((parallaxlaw10_known.f k).bind fun t561 => (some t561)) else (some false)))))))) = some r := h; clear h; replace H := ob H; obtain ⟨t554, A3, H⟩ := H
 by_cases c4 : t554 = true
 ·subst c4; rw [if_pos rfl] at H; replace H := ob H; obtain ⟨t555, A5, H⟩ := H; obtain rfl := Option.some.inj H; go_enter Tryd.func4, Tryd.ntmps4
  go_wp2_with (first | (go_at_call 8; (with_reducible refine (parallaxlaw10_great.calls k _ _ l0 true _ ?side1 ?side2 A3.out).mono ?_); (case side1 => repeat (first | exact HR0.out | (with_reducible refine Kd.C_alloc ?_ _) | (with_reducible refine Kd.C_drewN ?_ _) | (with_reducible refine Kd.C_drew ?_))); (case side2 => exact HC0.out); rintro e w' ⟨rfl, ⟨nd, rfl⟩⟩; (try first | exact ⟨rfl, _, World.drewN_drewN _ _ _⟩ | exact ⟨rfl, _, Eq.trans (World.drewN_drewN _ _ _) (congrArg (World.drewN _) (Nat.add_assoc _ _ _))⟩)) | (go_at_call 9; (with_reducible refine (parallaxlaw10_known.calls k  t555 _ ?side1 A5.out).mono ?_); (case side1 => exact Laid.below HLd.out bl); rintro e w6 ⟨rfl, hb⟩; have n0_ := Aside0.mk (below_step bl hb); clear HB; have HB := n0_; clear n0_; (try clear hb)))
  repeat (go_quiet (fail); try go_wp2_with (first | (go_at_call 8; (with_reducible refine (parallaxlaw10_great.calls k _ _ l0 true _ ?side1 ?side2 A3.out).mono ?_); (case side1 => repeat (first | exact HR0.out | (with_reducible refine Kd.C_alloc ?_ _) | (with_reducible refine Kd.C_drewN ?_ _) | (with_reducible refine Kd.C_drew ?_))); (case side2 => exact HC0.out); rintro e w' ⟨rfl, ⟨nd, rfl⟩⟩; (try first | exact ⟨rfl, _, World.drewN_drewN _ _ _⟩ | exact ⟨rfl, _, Eq.trans (World.drewN_drewN _ _ _) (congrArg (World.drewN _) (Nat.add_assoc _ _ _))⟩)) | (go_at_call 9; (with_reducible refine (parallaxlaw10_known.calls k  t555 _ ?side1 A5.out).mono ?_); (case side1 => exact Laid.below HLd.out bl); rintro e w6 ⟨rfl, hb⟩; have n0_ := Aside0.mk (below_step bl hb); clear HB; have HB := n0_; clear n0_)))
  go_ret; exact ⟨pe, bl⟩
 ·replace c4 := Bool.eq_false_iff.mpr c4; subst c4; rw [if_neg (show ¬ (false = true) by decide)] at H; replace H := ob H; obtain ⟨⟨t556, t559⟩, A7, H⟩ := H
  by_cases c8 : t559 = 0
  ·rw [if_pos c8] at H; obtain ⟨c8b0, c8b1⟩ := eqs c8; clear c8; have HC9 := Aside0.mk H; clear H; go_enter Tryd.func4, Tryd.ntmps4
   go_upto_region 6 with (first | (go_at_call 8; (with_reducible refine (parallaxlaw10_great.calls k _ _ l0 false _ ?side1 ?side2 A3.out).mono ?_); (case side1 => repeat (first | exact HR0.out | (with_reducible refine Kd.C_alloc ?_ _) | (with_reducible refine Kd.C_drewN ?_ _) | (with_reducible refine Kd.C_drew ?_))); (case side2 => exact HC0.out); rintro e w' ⟨rfl, ⟨nd, rfl⟩⟩; (try first | exact ⟨rfl, _, World.drewN_drewN _ _ _⟩ | exact ⟨rfl, _, Eq.trans (World.drewN_drewN _ _ _) (congrArg (World.drewN _) (Nat.add_assoc _ _ _))⟩)) | (go_at_call 10; (with_reducible refine (peep_Make.calls k _ _ l0 a1 t556 t559 _ ?side1 ?side2 ?side3 A7.out).mono ?_); (case side1 => repeat (first | exact HR0.out | (with_reducible refine Kd.C_alloc ?_ _) | (with_reducible refine Kd.C_drewN ?_ _) | (with_reducible refine Kd.C_drew ?_))); (case side2 => exact HC0.out); (case side3 => exact Laid.below HLd.out bl); rintro e w10 ⟨v557, rfl, ho0, hb⟩; have n_ := an2 (Kd.N_lower (Kd.N_mono (ok' := fun k_ => True) ho0 (fun k_ hk_ => trivial)) (below_size bl)) (below_step bl hb); clear HB; obtain ⟨HO558, HB⟩ := n_; (try clear hb); (try clear ho0)))
   repeat (go_quiet (first | (go_at_call 8; (with_reducible refine (parallaxlaw10_great.calls k _ _ l0 false _ ?side1 ?side2 A3.out).mono ?_); (case side1 => repeat (first | exact HR0.out | (with_reducible refine Kd.C_alloc ?_ _) | (with_reducible refine Kd.C_drewN ?_ _) | (with_reducible refine Kd.C_drew ?_))); (case side2 => exact HC0.out); rintro e w' ⟨rfl, ⟨nd, rfl⟩⟩; (try first | exact ⟨rfl, _, World.drewN_drewN _ _ _⟩ | exact ⟨rfl, _, Eq.trans (World.drewN_drewN _ _ _) (congrArg (World.drewN _) (Nat.add_assoc _ _ _))⟩)) | (go_at_call 10; (with_reducible refine (peep_Make.calls k _ _ l0 a1 t556 t559 _ ?side1 ?side2 ?side3 A7.out).mono ?_); (case side1 => repeat (first | exact HR0.out | (with_reducible refine Kd.C_alloc ?_ _) | (with_reducible refine Kd.C_drewN ?_ _) | (with_reducible refine Kd.C_drew ?_))); (case side2 => exact HC0.out); (case side3 => exact Laid.below HLd.out bl); rintro e w10 ⟨v557, rfl, ho0, hb⟩; have n_ := an2 (Kd.N_lower (Kd.N_mono (ok' := fun k_ => True) ho0 (fun k_ hk_ => trivial)) (below_size bl)) (below_step bl hb); clear HB; obtain ⟨HO558, HB⟩ := n_)); go_upto_region 6 with (first | (go_at_call 8; (with_reducible refine (parallaxlaw10_great.calls k _ _ l0 false _ ?side1 ?side2 A3.out).mono ?_); (case side1 => repeat (first | exact HR0.out | (with_reducible refine Kd.C_alloc ?_ _) | (with_reducible refine Kd.C_drewN ?_ _) | (with_reducible refine Kd.C_drew ?_))); (case side2 => exact HC0.out); rintro e w' ⟨rfl, ⟨nd, rfl⟩⟩; (try first | exact ⟨rfl, _, World.drewN_drewN _ _ _⟩ | exact ⟨rfl, _, Eq.trans (World.drewN_drewN _ _ _) (congrArg (World.drewN _) (Nat.add_assoc _ _ _))⟩)) | (go_at_call 10; (with_reducible refine (peep_Make.calls k _ _ l0 a1 t556 t559 _ ?side1 ?side2 ?side3 A7.out).mono ?_); (case side1 => repeat (first | exact HR0.out | (with_reducible refine Kd.C_alloc ?_ _) | (with_reducible refine Kd.C_drewN ?_ _) | (with_reducible refine Kd.C_drew ?_))); (case side2 => exact HC0.out); (case side3 => exact Laid.below HLd.out bl); rintro e w10 ⟨v557, rfl, ho0, hb⟩; have n_ := an2 (Kd.N_lower (Kd.N_mono (ok' := fun k_ => True) ho0 (fun k_ hk_ => trivial)) (below_size bl)) (below_step bl hb); clear HB; obtain ⟨HO558, HB⟩ := n_)))
   (try simp only [Act.put, List.setIfInBounds_toArray, List.set_cons_zero, List.set_cons_succ])
   go_cut [44] (fun v44 wc => ∃ (kq : Nat) (x44_8 : Bool), v44 = .bool x44_8 ∧ Aside0 (parallaxlaw10_PeepSound.j0 kq l0 t556 x44_8 = some r) ∧ Aside0 (kq ≤ k) ∧ Aside0 (Kd.N k35 35 wc w.heap.size (fun _ => True) v557 t556) ∧ Aside0 (Below w.heap.size w wc))
   case first =>
    have H := HC9.out; clear HC9; replace H := ob H; obtain ⟨t562, A11, H⟩ := H
    by_cases c12 : t562 = true
    ·subst c12; rw [if_pos rfl] at H; have H' := Aside0.mk H; clear H; obtain ⟨Ao13, co13, eo13⟩ := Kd.N_slice HO558.out; subst eo13
     go_wp2_with (first | (go_at_call 14; (with_reducible refine (code_Sound.calls k _ _ t556 a1 true _ ?side1 ?side2 ?side3 A11.out).mono ?_); (case side1 => repeat (first | exact (Kd.N_reads' HO558.out).2.2 | (with_reducible refine Kd.C_alloc ?_ _) | (with_reducible refine Kd.C_drewN ?_ _) | (with_reducible refine Kd.C_drew ?_))); (case side2 => exact (Kd.N_reads' HO558.out).2.1); (case side3 => exact Laid.below HLd.out bl); rintro e w14 ⟨rfl, hb⟩; have n_ := an2 (Kd.N_below (bN HO558.out) hb) (below_step bl hb); clear HO558 HB; obtain ⟨HO558, HB⟩ := n_; (try clear hb)))
     repeat (go_quiet (fail); try go_wp2_with (first | (go_at_call 14; (with_reducible refine (code_Sound.calls k _ _ t556 a1 true _ ?side1 ?side2 ?side3 A11.out).mono ?_); (case side1 => repeat (first | exact (Kd.N_reads' HO558.out).2.2 | (with_reducible refine Kd.C_alloc ?_ _) | (with_reducible refine Kd.C_drewN ?_ _) | (with_reducible refine Kd.C_drew ?_))); (case side2 => exact (Kd.N_reads' HO558.out).2.1); (case side3 => exact Laid.below HLd.out bl); rintro e w14 ⟨rfl, hb⟩; have n_ := an2 (Kd.N_below (bN HO558.out) hb) (below_step bl hb); clear HO558 HB; obtain ⟨HO558, HB⟩ := n_)))
     go_meet
     case rel => exact ⟨_, (((t556.length : Int) != (l0.length : Int))), pr, H', ⟨by first | omega | exact Nat.le_refl _⟩, ⟨bN HO558.out⟩, ⟨bl⟩⟩
    ·replace c12 := Bool.eq_false_iff.mpr c12; subst c12; rw [if_neg (show ¬ (false = true) by decide)] at H; have H' := Aside0.mk H; clear H; obtain ⟨Ao15, co15, eo15⟩ := Kd.N_slice HO558.out; subst eo15
     go_wp2_with (first | (go_at_call 14; (with_reducible refine (code_Sound.calls k _ _ t556 a1 false _ ?side1 ?side2 ?side3 A11.out).mono ?_); (case side1 => repeat (first | exact (Kd.N_reads' HO558.out).2.2 | (with_reducible refine Kd.C_alloc ?_ _) | (with_reducible refine Kd.C_drewN ?_ _) | (with_reducible refine Kd.C_drew ?_))); (case side2 => exact (Kd.N_reads' HO558.out).2.1); (case side3 => exact Laid.below HLd.out bl); rintro e w16 ⟨rfl, hb⟩; have n_ := an2 (Kd.N_below (bN HO558.out) hb) (below_step bl hb); clear HO558 HB; obtain ⟨HO558, HB⟩ := n_; (try clear hb)))
     repeat (go_quiet (fail); try go_wp2_with (first | (go_at_call 14; (with_reducible refine (code_Sound.calls k _ _ t556 a1 false _ ?side1 ?side2 ?side3 A11.out).mono ?_); (case side1 => repeat (first | exact (Kd.N_reads' HO558.out).2.2 | (with_reducible refine Kd.C_alloc ?_ _) | (with_reducible refine Kd.C_drewN ?_ _) | (with_reducible refine Kd.C_drew ?_))); (case side2 => exact (Kd.N_reads' HO558.out).2.1); (case side3 => exact Laid.below HLd.out bl); rintro e w16 ⟨rfl, hb⟩; have n_ := an2 (Kd.N_below (bN HO558.out) hb) (below_step bl hb); clear HO558 HB; obtain ⟨HO558, HB⟩ := n_)))
     go_meet
     case rel => exact ⟨_, (true), pr, H', ⟨by first | omega | exact Nat.le_refl _⟩, ⟨bN HO558.out⟩, ⟨bl⟩⟩
   case rest =>
    clear HC9; (try clear c8b0); (try clear c8b1); obtain ⟨kq, x44_8, rfl, HA, HJ8, HO_5, HB⟩ := hcut
    cases kq with
    | zero => exact absurd HA.out (by simp [parallaxlaw10_PeepSound.j0])
    | succ kj8 =>
     have H := HA.out; clear HA; simp only [parallaxlaw10_PeepSound.j0] at H
     by_cases c17 : x44_8 = true
     ·subst c17; rw [if_pos rfl] at H; rw [hr_] at H; exact absurd H (by simp)
     ·replace c17 := Bool.eq_false_iff.mpr c17; subst c17; rw [if_neg (show ¬ (false = true) by decide)] at H; have H' := Aside0.mk H; clear H; go_wp2
      repeat (go_quiet (fail); try go_wp2)
      go_loopg [7] kj8 (fun kq v7 w' => ∃ (x7_2 : Int), v7 = .int .i64 x7_2 ∧ Aside0 (parallaxlaw10_PeepSound.l0 kq l0 t556 x7_2 = some r) ∧ Aside0 (kq ≤ kj8) ∧ Aside0 (Kd.N k35 35 w' w.heap.size (fun _ => True) v557 t556) ∧ Aside0 (Below w.heap.size w w'))
      case atStart => exact ⟨(0), pr, H', ⟨Nat.le_refl _⟩, ⟨bN HO_5.out⟩, ⟨bl⟩⟩
      case round =>
       clear H'; obtain ⟨x7_2, rfl, HA, HK2, HO_5, HB⟩ := hrel
       cases gk with
       | zero => exact absurd HA.out (by simp [parallaxlaw10_PeepSound.l0])
       | succ k2 =>
        have H := HA.out; clear HA; simp only [parallaxlaw10_PeepSound.l0] at H
        by_cases c18 : x7_2 < (l0.length : Int)
        ·rw [if_pos c18] at H; have c18b0 := decide_eq_true c18; clear c18; replace H := ob H; obtain ⟨⟨t564, t565⟩, A19, H⟩ := H; have HC20 := Aside0.mk H; clear H; obtain ⟨Ao21, co21, eo21⟩ := Kd.N_slice HO_5.out; subst eo21
         go_upto_region 12 with (first | (go_at_call 15; (with_reducible refine (parallaxref08_Heights.calls k2 _ _ t556 x7_2 t564 t565 _ ?side1 ?side2 A19.out).mono ?_); (case side1 => repeat (first | exact (Kd.N_reads' HO_5.out).2.2 | (with_reducible refine Kd.C_alloc ?_ _) | (with_reducible refine Kd.C_drewN ?_ _) | (with_reducible refine Kd.C_drew ?_))); (case side2 => exact (Kd.N_reads' HO_5.out).2.1); rintro e w22 ⟨v566, rfl, ho0, hb⟩; have n_ := an3 (Kd.N_elder' (bN HO_5.out) (Kd.R_base ho0) hb) (Kd.R_lower ho0 (below_size bl)) (below_step bl hb); clear HO_5 HB; obtain ⟨HO_5, HO567, HB⟩ := n_; (try clear hb); (try clear ho0)))
         repeat (go_quiet (first | (go_at_call 15; (with_reducible refine (parallaxref08_Heights.calls k2 _ _ t556 x7_2 t564 t565 _ ?side1 ?side2 A19.out).mono ?_); (case side1 => repeat (first | exact (Kd.N_reads' HO_5.out).2.2 | (with_reducible refine Kd.C_alloc ?_ _) | (with_reducible refine Kd.C_drewN ?_ _) | (with_reducible refine Kd.C_drew ?_))); (case side2 => exact (Kd.N_reads' HO_5.out).2.1); rintro e w22 ⟨v566, rfl, ho0, hb⟩; have n_ := an3 (Kd.N_elder' (bN HO_5.out) (Kd.R_base ho0) hb) (Kd.R_lower ho0 (below_size bl)) (below_step bl hb); clear HO_5 HB; obtain ⟨HO_5, HO567, HB⟩ := n_)); go_upto_region 12 with (first | (go_at_call 15; (with_reducible refine (parallaxref08_Heights.calls k2 _ _ t556 x7_2 t564 t565 _ ?side1 ?side2 A19.out).mono ?_); (case side1 => repeat (first | exact (Kd.N_reads' HO_5.out).2.2 | (with_reducible refine Kd.C_alloc ?_ _) | (with_reducible refine Kd.C_drewN ?_ _) | (with_reducible refine Kd.C_drew ?_))); (case side2 => exact (Kd.N_reads' HO_5.out).2.1); rintro e w22 ⟨v566, rfl, ho0, hb⟩; have n_ := an3 (Kd.N_elder' (bN HO_5.out) (Kd.R_base ho0) hb) (Kd.R_lower ho0 (below_size bl)) (below_step bl hb); clear HO_5 HB; obtain ⟨HO_5, HO567, HB⟩ := n_)))
         (try simp only [Act.put, List.setIfInBounds_toArray, List.set_cons_zero, List.set_cons_succ])
         go_cut [108] (fun v108 wc => ∃ (kq : Nat) (x108_19 : Bool), v108 = .bool x108_19 ∧ Aside0 (parallaxlaw10_PeepSound.j2 kq l0 t556 x7_2 t564 x108_19 = some r) ∧ Aside0 (kq ≤ k2) ∧ Aside0 (Kd.N k35 35 wc w.heap.size (fun k_ => some k_ ≠ (v566 : Value).ownBlock) (.slice Ao21 t556.length co21) t556) ∧ Aside0 (Kd.R (Kd.int .i64) 3 wc w.heap.size (fun _ => True) v566 t564) ∧ Aside0 (Below w.heap.size w wc))
         case first =>
          have H := HC20.out; clear HC20
          replace H := it (c := 0 ≤ x7_2) H; obtain ⟨c23, H⟩ := H; have c23b0 := decide_eq_true c23; clear c23; (first | rw [c23b0] | (simp only [i64_w, i32_w]; rw [c23b0]) | skip)
          replace H := it (c := x7_2 < (t556.length : Int)) H; obtain ⟨c24, H⟩ := H; have c24b0 := decide_eq_true c24; clear c24; have HH_ := Aside0.mk H; clear H
          have p568 : 0 ≤ (x7_2 : Int) := of_decide_eq_true pa
          have q568 : x7_2 < (t556.length : Int) := of_decide_eq_true pa
          obtain ⟨ad568, A568_0, c568_0, e568, hx568_0, hx568_1, hx568_2, hx568_3, hl568_0, hi568_0⟩ := at_T35 (Kd.N_reads' HO_5.out).2.2 x7_2 p568 q568
          cases e568
          obtain ⟨ce568, hce568, hMe568, hcc568⟩ := Kd.N_get HO_5.out z35 x7_2 p568 (by first | exact q568 | exact of_decide_eq_true pa | (have e_ := (Kd.N_reads' HO_5.out).1; omega))
          obtain ⟨ua568_0, uc568_0, rfl, ul568_0, ge568_0⟩ := k35_openF hMe568; have hv568_0 := hcc568 0 _ rfl; rw [Nat.add_zero] at hv568_0; replace hv568_0 := Option.some.inj (hv568_0.symm.trans hx568_0)
          injection hv568_0 with hva_ hvn_ hvc_
          rw [hva_] at ge568_0; rw [hvc_] at ul568_0; have HL568_0 := Aside0.mk (show Kd.V k40 40 _ w.heap.size _ _ ((rd_T35 t556 x7_2).f0) from Kd.V_mk ul568_0 ge568_0); clear hva_ hvn_ hvc_ ge568_0 ul568_0; clear hcc568 hce568; have HR568_0 := Aside0.mk hi568_0; have HC568_0 := Aside0.mk hl568_0; clear hi568_0 hl568_0; replace p568 := eq_true p568; replace q568 := eq_true q568
          have p569 : 0 ≤ (x7_2 : Int) := of_decide_eq_true pa
          have q569 : x7_2 < (l0.length : Int) := of_decide_eq_true pa
          obtain ⟨ad569, A569_0, c569_0, e569, hx569_0, hx569_1, hx569_2, hx569_3, hl569_0, hi569_0⟩ := at_T35 HR0.out x7_2 p569 q569
          cases e569
          replace hx569_0 := pc HB.out hx569_0; replace hx569_1 := pc HB.out hx569_1; replace hx569_2 := pc HB.out hx569_2; replace hx569_3 := pc HB.out hx569_3; have HR569_0 := Aside0.mk hi569_0; have HC569_0 := Aside0.mk hl569_0; clear hi569_0 hl569_0; replace p569 := eq_true p569; replace q569 := eq_true q569; have H := HH_.out; clear HH_
          by_cases c25 : (((rd_T35 t556 x7_2).f0).length : Int) > (((rd_T35 l0 x7_2).f0).length : Int)
          ·rw [if_pos c25] at H; have c25b0 : decide ((((rd_T35 l0 x7_2).f0).length : Int) < (((rd_T35 t556 x7_2).f0).length : Int)) = true := decide_eq_true c25; have c25b1 : decide (((rd_T35 l0 x7_2).f0).length < ((rd_T35 t556 x7_2).f0).length) = true := decide_eq_true (Int.ofNat_lt.mp c25); clear c25; have H' := Aside0.mk H; clear H; go_wp2
           repeat (go_quiet (fail); try go_wp2)
           go_meet
           case rel => exact ⟨_, (true), pr, H', ⟨by have := HJ8.out; have := HK2.out; first | omega | exact Nat.le_refl _⟩, ⟨by (with_reducible repeat (first | apply Kd.N_alloc | apply Kd.N_drewN | apply Kd.N_drew)); exact Kd.N_mono HO_5.out (fun _ hk => hk.2)⟩, ⟨bR HO567.out⟩, ⟨bl⟩⟩
          ·rw [if_neg c25] at H; have c25b0 : decide ((((rd_T35 l0 x7_2).f0).length : Int) < (((rd_T35 t556 x7_2).f0).length : Int)) = false := decide_eq_false c25; have c25b1 : decide (((rd_T35 l0 x7_2).f0).length < ((rd_T35 t556 x7_2).f0).length) = false := decide_eq_false (fun h => c25 (Int.ofNat_lt.mpr h)); clear c25; have HH_ := Aside0.mk H; clear H
           have p570 : 0 ≤ (x7_2 : Int) := of_decide_eq_true pa
           have q570 : x7_2 < (t556.length : Int) := of_decide_eq_true pa
           obtain ⟨ad570, A570_0, c570_0, e570, hx570_0, hx570_1, hx570_2, hx570_3, hl570_0, hi570_0⟩ := at_T35 (Kd.N_reads' HO_5.out).2.2 x7_2 p570 q570; obtain rfl : ad568 = ad570 := (by injection e570)
           obtain ⟨ce570, hce570, hMe570, hcc570⟩ := Kd.N_get HO_5.out z35 x7_2 p570 (by first | exact q570 | exact of_decide_eq_true pa | (have e_ := (Kd.N_reads' HO_5.out).1; omega))
           obtain ⟨ua570_0, uc570_0, rfl, ul570_0, ge570_0⟩ := k35_openF hMe570; have hv570_0 := hcc570 0 _ rfl; rw [Nat.add_zero] at hv570_0; replace hv570_0 := Option.some.inj (hv570_0.symm.trans hx570_0)
           injection hv570_0 with hva_ hvn_ hvc_
           rw [hva_] at ge570_0; rw [hvc_] at ul570_0; have HL570_0 := Aside0.mk (show Kd.V k40 40 _ w.heap.size _ _ ((rd_T35 t556 x7_2).f0) from Kd.V_mk ul570_0 ge570_0); clear hva_ hvn_ hvc_ ge570_0 ul570_0; clear hcc570 hce570; have HR570_0 := Aside0.mk hi570_0; have HC570_0 := Aside0.mk hl570_0; clear hi570_0 hl570_0; replace p570 := eq_true p570; replace q570 := eq_true q570; have ea_ := Option.some.inj (hx568_0.symm.trans hx570_0)
           injection ea_ with ea_ en_ ec_
           subst ea_; subst ec_; clear en_
           have p571 : 0 ≤ (x7_2 : Int) := of_decide_eq_true pa
           have q571 : x7_2 < (l0.length : Int) := of_decide_eq_true pa
           obtain ⟨ad571, A571_0, c571_0, e571, hx571_0, hx571_1, hx571_2, hx571_3, hl571_0, hi571_0⟩ := at_T35 HR0.out x7_2 p571 q571; obtain rfl : ad569 = ad571 := (by injection e571); replace hx571_0 := pc HB.out hx571_0; replace hx571_1 := pc HB.out hx571_1; replace hx571_2 := pc HB.out hx571_2; replace hx571_3 := pc HB.out hx571_3; have HR571_0 := Aside0.mk hi571_0; have HC571_0 := Aside0.mk hl571_0; clear hi571_0 hl571_0; replace p571 := eq_true p571; replace q571 := eq_true q571; have ea_ := Option.some.inj (hx569_0.symm.trans hx571_0)
           injection ea_ with ea_ en_ ec_
           subst ea_; subst ec_; clear en_; have H := HH_.out; clear HH_
           by_cases c26 : ((rd_T35 t556 x7_2).f1) = ((rd_T35 l0 x7_2).f1)
           ·rw [if_pos c26] at H; obtain ⟨c26b0, c26b1⟩ := eqs c26; clear c26; have HH_ := Aside0.mk H; clear H
            have p572 : 0 ≤ (x7_2 : Int) := of_decide_eq_true pa
            have q572 : x7_2 < (t556.length : Int) := of_decide_eq_true pa
            obtain ⟨ad572, A572_0, c572_0, e572, hx572_0, hx572_1, hx572_2, hx572_3, hl572_0, hi572_0⟩ := at_T35 (Kd.N_reads' HO_5.out).2.2 x7_2 p572 q572; obtain rfl : ad568 = ad572 := (by injection e572)
            obtain ⟨ce572, hce572, hMe572, hcc572⟩ := Kd.N_get HO_5.out z35 x7_2 p572 (by first | exact q572 | exact of_decide_eq_true pa | (have e_ := (Kd.N_reads' HO_5.out).1; omega))
            obtain ⟨ua572_0, uc572_0, rfl, ul572_0, ge572_0⟩ := k35_openF hMe572; have hv572_0 := hcc572 0 _ rfl; rw [Nat.add_zero] at hv572_0; replace hv572_0 := Option.some.inj (hv572_0.symm.trans hx572_0)
            injection hv572_0 with hva_ hvn_ hvc_
            rw [hva_] at ge572_0; rw [hvc_] at ul572_0; have HL572_0 := Aside0.mk (show Kd.V k40 40 _ w.heap.size _ _ ((rd_T35 t556 x7_2).f0) from Kd.V_mk ul572_0 ge572_0); clear hva_ hvn_ hvc_ ge572_0 ul572_0; clear hcc572 hce572; have HR572_0 := Aside0.mk hi572_0; have HC572_0 := Aside0.mk hl572_0; clear hi572_0 hl572_0; replace p572 := eq_true p572; replace q572 := eq_true q572; have ea_ := Option.some.inj (hx568_0.symm.trans hx572_0)
            injection ea_ with ea_ en_ ec_
            subst ea_; subst ec_; clear en_
            have p573 : 0 ≤ (x7_2 : Int) := of_decide_eq_true pa
            have q573 : x7_2 < (l0.length : Int) := of_decide_eq_true pa
            obtain ⟨ad573, A573_0, c573_0, e573, hx573_0, hx573_1, hx573_2, hx573_3, hl573_0, hi573_0⟩ := at_T35 HR0.out x7_2 p573 q573; obtain rfl : ad569 = ad573 := (by injection e573); replace hx573_0 := pc HB.out hx573_0; replace hx573_1 := pc HB.out hx573_1; replace hx573_2 := pc HB.out hx573_2; replace hx573_3 := pc HB.out hx573_3; have HR573_0 := Aside0.mk hi573_0; have HC573_0 := Aside0.mk hl573_0; clear hi573_0 hl573_0; replace p573 := eq_true p573; replace q573 := eq_true q573; have ea_ := Option.some.inj (hx569_0.symm.trans hx573_0)
            injection ea_ with ea_ en_ ec_
            subst ea_; subst ec_; clear en_; have H := HH_.out; clear HH_
            by_cases c27 : ((rd_T35 t556 x7_2).f2) = ((rd_T35 l0 x7_2).f2)
            ·rw [if_pos c27] at H; obtain ⟨c27b0, c27b1⟩ := eqs c27; clear c27; have H' := Aside0.mk H; clear H
             have p574 : 0 ≤ (x7_2 : Int) := of_decide_eq_true pa
             have q574 : x7_2 < (t556.length : Int) := of_decide_eq_true pa
             obtain ⟨ad574, A574_0, c574_0, e574, hx574_0, hx574_1, hx574_2, hx574_3, hl574_0, hi574_0⟩ := at_T35 (Kd.N_reads' HO_5.out).2.2 x7_2 p574 q574; obtain rfl : ad568 = ad574 := (by injection e574)
             obtain ⟨ce574, hce574, hMe574, hcc574⟩ := Kd.N_get HO_5.out z35 x7_2 p574 (by first | exact q574 | exact of_decide_eq_true pa | (have e_ := (Kd.N_reads' HO_5.out).1; omega))
             obtain ⟨ua574_0, uc574_0, rfl, ul574_0, ge574_0⟩ := k35_openF hMe574; have hv574_0 := hcc574 0 _ rfl; rw [Nat.add_zero] at hv574_0; replace hv574_0 := Option.some.inj (hv574_0.symm.trans hx574_0)
             injection hv574_0 with hva_ hvn_ hvc_
             rw [hva_] at ge574_0; rw [hvc_] at ul574_0; have HL574_0 := Aside0.mk (show Kd.V k40 40 _ w.heap.size _ _ ((rd_T35 t556 x7_2).f0) from Kd.V_mk ul574_0 ge574_0); clear hva_ hvn_ hvc_ ge574_0 ul574_0; clear hcc574 hce574; have HR574_0 := Aside0.mk hi574_0; have HC574_0 := Aside0.mk hl574_0; clear hi574_0 hl574_0; replace p574 := eq_true p574; replace q574 := eq_true q574; have ea_ := Option.some.inj (hx568_0.symm.trans hx574_0)
             injection ea_ with ea_ en_ ec_
             subst ea_; subst ec_; clear en_
             have p575 : 0 ≤ (x7_2 : Int) := of_decide_eq_true pa
             have q575 : x7_2 < (l0.length : Int) := of_decide_eq_true pa
             obtain ⟨ad575, A575_0, c575_0, e575, hx575_0, hx575_1, hx575_2, hx575_3, hl575_0, hi575_0⟩ := at_T35 HR0.out x7_2 p575 q575; obtain rfl : ad569 = ad575 := (by injection e575); replace hx575_0 := pc HB.out hx575_0; replace hx575_1 := pc HB.out hx575_1; replace hx575_2 := pc HB.out hx575_2; replace hx575_3 := pc HB.out hx575_3; have HR575_0 := Aside0.mk hi575_0; have HC575_0 := Aside0.mk hl575_0; clear hi575_0 hl575_0; replace p575 := eq_true p575; replace q575 := eq_true q575; have ea_ := Option.some.inj (hx569_0.symm.trans hx575_0)
             injection ea_ with ea_ en_ ec_
             subst ea_; subst ec_; clear en_; go_wp2
             repeat (go_quiet (fail); try go_wp2)
             go_meet
             case rel => exact ⟨_, ((((rd_T35 t556 x7_2).f3) != ((rd_T35 l0 x7_2).f3))), pr, H', ⟨by have := HJ8.out; have := HK2.out; first | omega | exact Nat.le_refl _⟩, ⟨by (with_reducible repeat (first | apply Kd.N_alloc | apply Kd.N_drewN | apply Kd.N_drew)); exact Kd.N_mono HO_5.out (fun _ hk => hk.2)⟩, ⟨bR HO567.out⟩, ⟨bl⟩⟩
            ·rw [if_neg c27] at H; obtain ⟨c27b0, c27b1⟩ := eqf c27; have H' := Aside0.mk H; clear H; go_wp2
             repeat (go_quiet (fail); try go_wp2)
             go_meet
             case rel => exact ⟨_, (true), pr, H', ⟨by have := HJ8.out; have := HK2.out; first | omega | exact Nat.le_refl _⟩, ⟨by (with_reducible repeat (first | apply Kd.N_alloc | apply Kd.N_drewN | apply Kd.N_drew)); exact Kd.N_mono HO_5.out (fun _ hk => hk.2)⟩, ⟨bR HO567.out⟩, ⟨bl⟩⟩
           ·rw [if_neg c26] at H; obtain ⟨c26b0, c26b1⟩ := eqf c26; have H' := Aside0.mk H; clear H; go_wp2
            repeat (go_quiet (fail); try go_wp2)
            go_meet
            case rel => exact ⟨_, (true), pr, H', ⟨by have := HJ8.out; have := HK2.out; first | omega | exact Nat.le_refl _⟩, ⟨by (with_reducible repeat (first | apply Kd.N_alloc | apply Kd.N_drewN | apply Kd.N_drew)); exact Kd.N_mono HO_5.out (fun _ hk => hk.2)⟩, ⟨bR HO567.out⟩, ⟨bl⟩⟩
         case rest =>
          clear HC20; (try clear c18b0); obtain ⟨kq, x108_19, rfl, HA, HJ19, HO_5, HO_8, HB⟩ := hcut
          cases kq with
          | zero => exact absurd HA.out (by simp [parallaxlaw10_PeepSound.j2])
          | succ kj19 =>
           have H := HA.out; clear HA; simp only [parallaxlaw10_PeepSound.j2] at H
           by_cases c28 : x108_19 = true
           ·subst c28; rw [if_pos rfl] at H; rw [hr_] at H; exact absurd H (by simp)
           ·replace c28 := Bool.eq_false_iff.mpr c28; subst c28; rw [if_neg (show ¬ (false = true) by decide)] at H; have H' := Aside0.mk H; clear H; go_wp2
            repeat (go_quiet (fail); try go_wp2)
            go_loopg [10] kj19 (fun kq v10 w' => ∃ (x10_4 : Int), v10 = .int .i64 x10_4 ∧ Aside0 (parallaxlaw10_PeepSound.l1 kq l0 t556 x7_2 t564 x10_4 = some r) ∧ Aside0 (kq ≤ kj19) ∧ Aside0 (Kd.N k35 35 w' w.heap.size (fun k_ => some k_ ≠ (v566 : Value).ownBlock) (.slice Ao21 t556.length co21) t556) ∧ Aside0 (Kd.R (Kd.int .i64) 3 w' w.heap.size (fun _ => True) v566 t564) ∧ Aside0 (Below w.heap.size w w'))
            case atStart => exact ⟨(0), pr, H', ⟨Nat.le_refl _⟩, ⟨bN HO_5.out⟩, ⟨bR HO_8.out⟩, ⟨bl⟩⟩
            case round =>
             clear H'; obtain ⟨x10_4, rfl, HA, HK4, HO_5, HO_8, HB⟩ := hrel
             cases gk with
             | zero => exact absurd HA.out (by simp [parallaxlaw10_PeepSound.l1])
             | succ k4 =>
              have H := HA.out; clear HA; simp only [parallaxlaw10_PeepSound.l1] at H
              by_cases c29 : x10_4 < (t564.length : Int)
              ·rw [if_pos c29] at H; have c29b0 := decide_eq_true c29; clear c29
               replace H := it (c := 0 ≤ x10_4) H; obtain ⟨c30, H⟩ := H; have c30b0 := decide_eq_true c30; clear c30; have HH_ := Aside0.mk H; clear H; obtain ⟨Ao32, co32, eo32⟩ := Kd.R_slice HO_8.out; subst eo32
               have p576 : 0 ≤ (x10_4 : Int) := of_decide_eq_true pa
               have q576 : x10_4 < (t564.length : Int) := of_decide_eq_true pa
               obtain ⟨ad576, e576, hx576_0⟩ := Kd.at_int (Kd.R_reads' HO_8.out).2.2 x10_4 p576 q576
               cases e576
               replace p576 := eq_true p576; replace q576 := eq_true q576; have H := HH_.out; clear HH_
               by_cases c31 : (rd t564 x10_4) < 0
               ·rw [if_pos c31] at H; have c31b0 := decide_eq_true c31; clear c31; rw [hr_] at H; exact absurd H (by simp)
               ·rw [if_neg c31] at H; have c31b0 := decide_eq_false c31; clear c31; have H' := Aside0.mk H; clear H; go_wp2
                repeat (go_quiet (fail); try go_wp2)
                go_roundg k4
                case measure => have := HJ8.out; have := HK2.out; have := HJ19.out; have := HK4.out; omega
                case rel => exact ⟨(wrap64 (x10_4 + 1)), pr, H', ⟨by have := HJ8.out; have := HK2.out; have := HJ19.out; have := HK4.out; omega⟩, ⟨bN HO_5.out⟩, ⟨bR HO_8.out⟩, ⟨bl⟩⟩
              ·rw [if_neg c29] at H; have c29b0 := decide_eq_false c29; clear c29; have H' := Aside0.mk H; clear H; obtain ⟨Ao34, co34, eo34⟩ := Kd.R_slice HO_8.out; subst eo34; go_wp2
               repeat (go_quiet (fail); try go_wp2)
               go_roundg k4
               case measure => have := HJ8.out; have := HK2.out; have := HJ19.out; have := HK4.out; omega
               case rel => exact ⟨(wrap64 (x7_2 + 1)), pr, H', ⟨by have := HJ8.out; have := HK2.out; have := HJ19.out; have := HK4.out; omega⟩, ⟨by (with_reducible repeat (first | apply Kd.N_alloc | apply Kd.N_drewN | apply Kd.N_drew)); exact Kd.N_mono HO_5.out (fun _ hk => trivial)⟩, ⟨bl⟩⟩
        ·rw [if_neg c18] at H; have c18b0 := decide_eq_false c18; clear c18; replace H := ob H; obtain ⟨t563, A35, H⟩ := H; obtain rfl := Option.some.inj H
         go_wp2_with (first | (go_at_call 9; (with_reducible refine (parallaxlaw10_known.calls k2  t563 _ ?side1 A35.out).mono ?_); (case side1 => exact Laid.below HLd.out bl); rintro e w36 ⟨rfl, hb⟩; have n_ := an2 (Kd.N_below (bN HO_5.out) hb) (below_step bl hb); clear HO_5 HB; obtain ⟨HO_5, HB⟩ := n_; (try clear hb)))
         repeat (go_quiet (fail); try go_wp2_with (first | (go_at_call 9; (with_reducible refine (parallaxlaw10_known.calls k2  t563 _ ?side1 A35.out).mono ?_); (case side1 => exact Laid.below HLd.out bl); rintro e w36 ⟨rfl, hb⟩; have n_ := an2 (Kd.N_below (bN HO_5.out) hb) (below_step bl hb); clear HO_5 HB; obtain ⟨HO_5, HB⟩ := n_)))
         go_ret; exact ⟨pe, bl⟩
  ·rw [if_neg c8] at H; obtain ⟨c8b0, c8b1⟩ := eqf c8; replace H := ob H; obtain ⟨t560, A37, H⟩ := H; have HH_ := Aside0.mk H; clear H; go_enter Tryd.func4, Tryd.ntmps4
   go_wp2_with (first | (go_at_call 8; (with_reducible refine (parallaxlaw10_great.calls k _ _ l0 false _ ?side1 ?side2 A3.out).mono ?_); (case side1 => repeat (first | exact HR0.out | (with_reducible refine Kd.C_alloc ?_ _) | (with_reducible refine Kd.C_drewN ?_ _) | (with_reducible refine Kd.C_drew ?_))); (case side2 => exact HC0.out); rintro e w' ⟨rfl, ⟨nd, rfl⟩⟩; (try first | exact ⟨rfl, _, World.drewN_drewN _ _ _⟩ | exact ⟨rfl, _, Eq.trans (World.drewN_drewN _ _ _) (congrArg (World.drewN _) (Nat.add_assoc _ _ _))⟩)) | (go_at_call 10; (with_reducible refine (peep_Make.calls k _ _ l0 a1 t556 t559 _ ?side1 ?side2 ?side3 A7.out).mono ?_); (case side1 => repeat (first | exact HR0.out | (with_reducible refine Kd.C_alloc ?_ _) | (with_reducible refine Kd.C_drewN ?_ _) | (with_reducible refine Kd.C_drew ?_))); (case side2 => exact HC0.out); (case side3 => exact Laid.below HLd.out bl); rintro e w39 ⟨v557, rfl, ho0, hb⟩; have n_ := an2 (Kd.N_lower (Kd.N_mono (ok' := fun k_ => True) ho0 (fun k_ hk_ => trivial)) (below_size bl)) (below_step bl hb); clear HB; obtain ⟨HO558, HB⟩ := n_; (try clear hb); (try clear ho0); refine ?roundEnd))
   case roundEnd =>
    have H := HH_.out; clear HH_
    by_cases c38 : t560 = true
    ·subst c38; rw [if_pos rfl] at H; rw [hr_] at H; exact absurd H (by simp)
    ·replace c38 := Bool.eq_false_iff.mpr c38; subst c38; rw [if_neg (show ¬ (false = true) by decide)] at H; have HH_ := Aside0.mk H; clear H
     go_wp2_with (first | (go_at_call 13; (with_reducible refine (parallaxref08_Sound.calls k _ _ l0 a1 false _ ?side1 ?side2 A37.out).mono ?_); (case side1 => exact cb HR0.out); (case side2 => exact HC0.out); rintro e w44 ⟨rfl, hb⟩; have n_ := an2 (Kd.N_below (bN HO558.out) hb) (below_step bl hb); clear HO558 HB; obtain ⟨HO558, HB⟩ := n_; (try clear hb); obtain ⟨Ao45, co45, eo45⟩ := Kd.N_slice HO558.out; subst eo45; refine ?roundEnd))
     case roundEnd =>
      have H := HH_.out; clear HH_
      by_cases c41 : (t556.length : Int) = 0
      ·rw [if_pos c41] at H; obtain ⟨c41b0, c41b1⟩ := eqs c41; clear c41; replace H := ob H; obtain ⟨t561, A42, H⟩ := H; obtain rfl := Option.some.inj H
       go_wp2_with (first | (go_at_call 9; (with_reducible refine (parallaxlaw10_known.calls k  t561 _ ?side1 A42.out).mono ?_); (case side1 => exact Laid.below HLd.out bl); rintro e w46 ⟨rfl, hb⟩; have n_ := an2 (Kd.N_below (bN HO558.out) hb) (below_step bl hb); clear HO558 HB; obtain ⟨HO558, HB⟩ := n_; (try clear hb)))
       repeat (go_quiet (fail); try go_wp2_with (first | (go_at_call 8; (with_reducible refine (parallaxlaw10_great.calls k _ _ l0 false _ ?side1 ?side2 A3.out).mono ?_); (case side1 => repeat (first | exact HR0.out | (with_reducible refine Kd.C_alloc ?_ _) | (with_reducible refine Kd.C_drewN ?_ _) | (with_reducible refine Kd.C_drew ?_))); (case side2 => exact HC0.out); rintro e w' ⟨rfl, ⟨nd, rfl⟩⟩; (try first | exact ⟨rfl, _, World.drewN_drewN _ _ _⟩ | exact ⟨rfl, _, Eq.trans (World.drewN_drewN _ _ _) (congrArg (World.drewN _) (Nat.add_assoc _ _ _))⟩)) | (go_at_call 10; (with_reducible refine (peep_Make.calls k _ _ l0 a1 t556 t559 _ ?side1 ?side2 ?side3 A7.out).mono ?_); (case side1 => repeat (first | exact HR0.out | (with_reducible refine Kd.C_alloc ?_ _) | (with_reducible refine Kd.C_drewN ?_ _) | (with_reducible refine Kd.C_drew ?_))); (case side2 => exact HC0.out); (case side3 => exact Laid.below HLd.out bl); rintro e w39 ⟨v557, rfl, ho0, hb⟩; have n_ := an2 (Kd.N_lower (Kd.N_mono (ok' := fun k_ => True) ho0 (fun k_ hk_ => trivial)) (below_size bl)) (below_step bl hb); clear HB; obtain ⟨HO558, HB⟩ := n_) | (go_at_call 13; (with_reducible refine (parallaxref08_Sound.calls k _ _ l0 a1 false _ ?side1 ?side2 A37.out).mono ?_); (case side1 => exact cb HR0.out); (case side2 => exact HC0.out); rintro e w44 ⟨rfl, hb⟩; have n_ := an2 (Kd.N_below (bN HO558.out) hb) (below_step bl hb); clear HO558 HB; obtain ⟨HO558, HB⟩ := n_; obtain ⟨Ao45, co45, eo45⟩ := Kd.N_slice HO558.out; subst eo45) | (go_at_call 9; (with_reducible refine (parallaxlaw10_known.calls k  t561 _ ?side1 A42.out).mono ?_); (case side1 => exact Laid.below HLd.out bl); rintro e w46 ⟨rfl, hb⟩; have n_ := an2 (Kd.N_below (bN HO558.out) hb) (below_step bl hb); clear HO558 HB; obtain ⟨HO558, HB⟩ := n_)))
       go_ret; exact ⟨pe, bl⟩
      ·rw [if_neg c41] at H; obtain ⟨c41b0, c41b1⟩ := eqf c41; have c41b2 : ¬ (t556 = []) := fun h_ => c41 (by rw [h_]; rfl)
       rw [hr_] at H; exact absurd H (by simp)

/-- THE ONE PURE STATEMENT of parallaxlaw10_PeepSound. -/
def parallaxlaw10_PeepSound.Pure : Prop := ∀ (l0 : List (S35)) (a1 : Int), (l0.length * 48 ≤ 140737488351232 ∧ ∀ y0 ∈ l0, ((y0.f0.length * 24 ≤ 140737488351232 ∧ ∀ y1 ∈ y0.f0, ((Lit.int .i64 y1.f0).wf = true ∧ ((Lit.int .i64 y1.f1).wf = true ∧ (Lit.int .i64 y1.f2).wf = true))) ∧ ((Lit.int .i64 y0.f1).wf = true ∧ ((Lit.int .i64 y0.f2).wf = true ∧ True)))) → (Lit.int .i64 a1).wf = true → ∃ k, parallaxlaw10_PeepSound.f k l0 a1 = some true

end Go.Proofs.YtmbjogpphegoaaaDoor.P
