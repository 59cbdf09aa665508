-- Written by a program of this session (its own turn of the print: wip/patch_print.py), not by hand. Lean checks it.
import Derived.Test.YtmbjogpphegoaaaDoorWZip3
import Derived.Test.YtmbjogpphegoaaaDoorPx0
import Derived.Test.YtmbjogpphegoaaaDoorPx2
import Derived.Test.YtmbjogpphegoaaaDoorPx3
import Derived.Test.YtmbjogpphegoaaaDoorPx16
import Derived.Test.YtmbjogpphegoaaaDoorPx17
import Derived.Test.YtmbjogpphegoaaaDoorPx24
namespace Go.Proofs.YtmbjogpphegoaaaDoor.P
open Go.RowKit Go.Proofs.YtmbjogpphegoaaaDoorW.PrintWords Go.Proofs.YtmbjogpphegoaaaDoorW.PrintLast Go.Proofs.YtmbjogpphegoaaaDoorW.PrintMore
attribute [local go_sem] max2_int min2_int max_two min_two max_three min_three max_four min_four
set_option linter.unusedVariables false
set_option linter.unusedSimpArgs false

/-! ### parallaxlaw10_PeepTwice: function 5 -/
mutual
def parallaxlaw10_PeepTwice.l0 : Nat → List (S35) → List (S35) → Int → Int → Option (Bool)
 | 0, _, _, _, _ => none
 | k + 1, x5, x7, x8, x9 => if x9 < (x5.length : Int) then (parallaxlaw10_PeepTwice.l1 k x5 x7 x8 x9 0) else (if x8 = 0 then ((parallaxref10_Same.f k x5 x7).bind fun t601 => (if t601 = true then ((parallaxlaw10_known.f k).bind fun t602 => (some t602)) else (some false))) else (some false))
def parallaxlaw10_PeepTwice.l1 : Nat → List (S35) → List (S35) → Int → Int → Int → Option (Bool)
 | 0, _, _, _, _, _ => none
 | k + 1, x5, x7, x8, x9, x10 => if 0 ≤ x9 then (if x9 < (x5.length : Int) then (if x10 < (((rd_T35 x5 x9).f0).length : Int) then ((peep_Rule.f k x5 x9 x10).bind fun t604 => (if t604 = 0 then (parallaxlaw10_PeepTwice.l1 k x5 x7 x8 x9 (wrap64 (x10 + 1))) else (some false))) else (parallaxlaw10_PeepTwice.l0 k x5 x7 x8 (wrap64 (x9 + 1)))) else (none)) else (none)
end
def parallaxlaw10_PeepTwice.f (k : Nat) (l0 : List (S35)) (a1 : Int) : Option (Bool) := (parallaxlaw10_great.f k l0).bind fun t590 => (if t590 = true then ((parallaxlaw10_known.f k).bind fun t591 => (some t591)) else ((peep_Make.f k l0 a1).bind fun bt592 => (if bt592.2 = 0 then ((peep_Make.f k bt592.1 a1).bind fun bt597 => (parallaxlaw10_PeepTwice.l0 k bt592.1 bt597.1 bt597.2 0)) else ((parallaxlaw10_known.f k).bind fun t596 => (some t596)))))
set_option maxHeartbeats 8000000 in
set_option maxRecDepth 100000 in
theorem parallaxlaw10_PeepTwice.calls (k : Nat) (A0 : Option Addr) (c0 : Nat) (l0 : List (S35)) (a1 : Int) (r : Bool) (w : World) (hr0 : Kd.C k35 w A0 l0.length l0) (hc0 : l0.length ≤ c0) (hLd : Laid w) (h : parallaxlaw10_PeepTwice.f k l0 a1 = some r) (hr_ : r = true := by rfl) :
  Calls Tryd.prog 5 #[.slice A0 l0.length c0, .int .i64 a1] w fun e w' => e = .returned (.bool r) ∧ Below w.heap.size w w' := by
 have HR0 := Aside0.mk hr0; have HC0 := Aside0.mk hc0; clear hr0 hc0; have HLd := Aside0.mk hLd; clear hLd; have HB := Aside0.mk (Below.refl w.heap.size w); have H : ((parallaxlaw10_great.f k l0).bind fun t590 => (if t590 = true then ((parallaxlaw10_known.f k).bind fun t591 => (some t591)) else ((peep_Make.f k l0 a1).bind fun bt592 => (if bt592.2 = 0 then ((peep_Make.f k bt592.1 a1).bind fun bt597 => (parallaxlaw10_PeepTwice.l0 k bt592.1 bt597.1 bt597.2 0)) else ((parallaxlaw10_known.f k).bind fun t596 => (some t596)))))) = some r := h; clear h; replace H := ob H; obtain ⟨t590, A3, H⟩ := H
 by_cases c4 : t590 = true
 ·subst c4; rw [if_pos rfl] at H; replace H := ob H; obtain ⟨t591, A5, H⟩ := H; obtain rfl := Option.some.inj H; go_enter Tryd.func5, Tryd.ntmps5
  go_wp2_with (first | ((with_reducible refine gate_callee (f := 8) rfl ?_); refine goesL_ (some 12) rfl rfl Tryd.func8 (by kernel_rfl) rfl #[.slice A0 l0.length c0] rfl (by (try simp only [List.map_toArray, List.map_cons, List.map_nil]); first | done | rfl | (simp only [List.length_drop, List.length_take]; rfl)) ?_; (with_reducible refine (parallaxlaw10_great.calls k _ _ l0 true _ ?side1 ?side2 A3.out).mono ?_); (case side1 => repeat (first | exact HR0.out | (with_reducible refine Kd.C_alloc ?_ _) | (with_reducible refine Kd.C_drewN ?_ _) | (with_reducible refine Kd.C_drew ?_))); (case side2 => exact HC0.out); rintro e w' ⟨rfl, ⟨nd, rfl⟩⟩; refine ⟨_, rfl, ?_⟩) | ((with_reducible refine gate_callee (f := 9) rfl ?_); refine goesL_ (some 13) rfl rfl Tryd.func9 (by kernel_rfl) rfl #[] rfl (by (try simp only [List.map_toArray, List.map_cons, List.map_nil]); first | done | rfl | (simp only [List.length_drop, List.length_take]; rfl)) ?_; (with_reducible refine (parallaxlaw10_known.calls k  t591 _ ?side1 A5.out).mono ?_); (case side1 => exact Laid.below HLd.out bl); rintro e w6 ⟨rfl, hb⟩; refine ⟨_, rfl, ?_⟩; have n0_ := Aside0.mk (below_step bl hb); clear HB; have HB := n0_; clear n0_; (try clear hb); (try clear hb2); (try clear hk); (try clear hi)))
  go_ret; exact ⟨pe, bl⟩
 ·replace c4 := Bool.eq_false_iff.mpr c4; subst c4; rw [if_neg (show ¬ (false = true) by decide)] at H; replace H := ob H; obtain ⟨⟨t592, t595⟩, A7, H⟩ := H; have HH_ := Aside0.mk H; clear H; go_enter Tryd.func5, Tryd.ntmps5
  go_wp2_with (first | ((with_reducible refine gate_callee (f := 8) rfl ?_); refine goesL_ (some 12) rfl rfl Tryd.func8 (by kernel_rfl) rfl #[.slice A0 l0.length c0] rfl (by (try simp only [List.map_toArray, List.map_cons, List.map_nil]); first | done | rfl | (simp only [List.length_drop, List.length_take]; rfl)) ?_; (with_reducible refine (parallaxlaw10_great.calls k _ _ l0 false _ ?side1 ?side2 A3.out).mono ?_); (case side1 => repeat (first | exact HR0.out | (with_reducible refine Kd.C_alloc ?_ _) | (with_reducible refine Kd.C_drewN ?_ _) | (with_reducible refine Kd.C_drew ?_))); (case side2 => exact HC0.out); rintro e w' ⟨rfl, ⟨nd, rfl⟩⟩; refine ⟨_, rfl, ?_⟩) | ((with_reducible refine gate_callee (f := 10) rfl ?_); refine goesL_ (some 17) rfl rfl Tryd.func10 (by kernel_rfl) rfl #[.slice A0 l0.length c0, .int .i64 a1] rfl (by (try simp only [List.map_toArray, List.map_cons, List.map_nil]); first | done | rfl | (simp only [List.length_drop, List.length_take]; rfl)) ?_; (with_reducible refine (peep_Make.calls k _ _ l0 a1 t592 t595 _ ?side1 ?side2 ?side3 A7.out).mono ?_); (case side1 => repeat (first | exact HR0.out | (with_reducible refine Kd.C_alloc ?_ _) | (with_reducible refine Kd.C_drewN ?_ _) | (with_reducible refine Kd.C_drew ?_))); (case side2 => exact HC0.out); (case side3 => exact Laid.below HLd.out bl); rintro e w10 ⟨v593, rfl, ho0, hb⟩; refine ⟨_, rfl, ?_⟩; have n_ := an2 (Kd.N_lower (Kd.N_mono (ok' := fun k_ => True) ho0 (fun k_ hk_ => trivial)) (below_size bl)) (below_step bl hb); clear HB; obtain ⟨HO594, HB⟩ := n_; (try clear hb); (try clear hb2); (try clear hk); (try clear hi); (try clear ho0); refine ?roundEnd))
  case roundEnd =>
   have H := HH_.out; clear HH_
   by_cases c8 : t595 = 0
   ·rw [if_pos c8] at H; obtain ⟨c8b0, c8b1⟩ := eqs c8; clear c8; replace H := ob H; obtain ⟨⟨t597, t600⟩, A9, H⟩ := H; have H' := Aside0.mk H; clear H; obtain ⟨Ao11, co11, eo11⟩ := Kd.N_slice HO594.out; subst eo11
    go_wp2_with (first | ((with_reducible refine gate_callee (f := 10) rfl ?_); refine goesL_ (some 26) rfl rfl Tryd.func10 (by kernel_rfl) rfl #[.slice Ao11 t592.length co11, .int .i64 a1] rfl (by (try simp only [List.map_toArray, List.map_cons, List.map_nil]); first | done | rfl | (simp only [List.length_drop, List.length_take]; rfl)) ?_; (with_reducible refine (peep_Make.calls k _ _ t592 a1 t597 t600 _ ?side1 ?side2 ?side3 A9.out).mono ?_); (case side1 => repeat (first | exact (Kd.N_reads' HO594.out).2.2 | (with_reducible refine Kd.C_alloc ?_ _) | (with_reducible refine Kd.C_drewN ?_ _) | (with_reducible refine Kd.C_drew ?_))); (case side2 => exact (Kd.N_reads' HO594.out).2.1); (case side3 => exact Laid.below HLd.out bl); rintro e w12 ⟨v598, rfl, ho0, hb⟩; refine ⟨_, rfl, ?_⟩; have n_ := an3 (Kd.N_elder' (bN HO594.out) (Kd.N_base ho0) hb) (Kd.N_lower (Kd.N_mono (ok' := fun k_ => some k_ ≠ (.slice Ao11 t592.length co11 : Value).ownBlock) ho0 (fun k_ hk_ => (Kd.fresh' (Kd.N_lt (bN HO594.out)) k_ hk_))) (below_size bl)) (below_step bl hb); clear HO594 HB; obtain ⟨HO594, HO599, HB⟩ := n_; (try clear hb); (try clear hb2); (try clear hk); (try clear hi); (try clear ho0)))
    go_loopg [9] k (fun kq v9 w' => ∃ (x9_1 : Int), v9 = .int .i64 x9_1 ∧ Aside0 (parallaxlaw10_PeepTwice.l0 kq t592 t597 t600 x9_1 = some r) ∧ Aside0 (kq ≤ k) ∧ Aside0 (Kd.N k35 35 w' w.heap.size (fun k_ => some k_ ≠ (v598 : Value).ownBlock) (.slice Ao11 t592.length co11) t592) ∧ Aside0 (Kd.N k35 35 w' w.heap.size (fun k_ => some k_ ≠ ((.slice Ao11 t592.length co11) : Value).ownBlock) v598 t597) ∧ Aside0 (Below w.heap.size w w'))
    case atStart => exact ⟨(0), pr, H', ⟨Nat.le_refl _⟩, ⟨by (with_reducible repeat (first | apply Kd.N_alloc | apply Kd.N_drewN | apply Kd.N_drew)); exact Kd.N_mono HO594.out (fun _ hk => hk.2)⟩, ⟨by (with_reducible repeat (first | apply Kd.N_alloc | apply Kd.N_drewN | apply Kd.N_drew)); exact HO599.out⟩, ⟨bl⟩⟩
    case round =>
     clear H'; (try clear c1); (try clear p2); (try clear c4); (try clear c5); (try clear c8); (try clear c8b0); (try clear c8b1); (try clear c9); (try clear c10); obtain ⟨x9_1, rfl, HA, HK1, HO_5, HO_7, HB⟩ := hrel
     cases gk with
     | zero => exact absurd HA.out (by simp [parallaxlaw10_PeepTwice.l0])
     | succ k1 =>
      have H := HA.out; clear HA; simp only [parallaxlaw10_PeepTwice.l0] at H
      by_cases c13 : x9_1 < (t592.length : Int)
      ·rw [if_pos c13] at H; have c13b0 := decide_eq_true c13; clear c13; have H' := Aside0.mk H; clear H; go_wp2
       go_loopg [10] k1 (fun kq v10 w' => ∃ (x10_2 : Int), v10 = .int .i64 x10_2 ∧ Aside0 (parallaxlaw10_PeepTwice.l1 kq t592 t597 t600 x9_1 x10_2 = some r) ∧ Aside0 (kq ≤ k1) ∧ Aside0 (Kd.N k35 35 w' w.heap.size (fun k_ => some k_ ≠ (v598 : Value).ownBlock) (.slice Ao11 t592.length co11) t592) ∧ Aside0 (Kd.N k35 35 w' w.heap.size (fun k_ => some k_ ≠ ((.slice Ao11 t592.length co11) : Value).ownBlock) v598 t597) ∧ Aside0 (Below w.heap.size w w'))
       case atStart => exact ⟨(0), pr, H', ⟨Nat.le_refl _⟩, ⟨by (with_reducible repeat (first | apply Kd.N_alloc | apply Kd.N_drewN | apply Kd.N_drew)); exact HO_5.out⟩, ⟨by (with_reducible repeat (first | apply Kd.N_alloc | apply Kd.N_drewN | apply Kd.N_drew)); exact HO_7.out⟩, ⟨bl⟩⟩
       case round =>
        clear H'; (try clear c1); (try clear p2); (try clear c4); (try clear c5); (try clear c8); (try clear c8b0); (try clear c8b1); (try clear c9); (try clear c10); (try clear c13); (try clear c13b0); (try clear p2); obtain ⟨x10_2, rfl, HA, HK2, HO_5, HO_7, HB⟩ := hrel
        cases gk with
        | zero => exact absurd HA.out (by simp [parallaxlaw10_PeepTwice.l1])
        | succ k2 =>
         have H := HA.out; clear HA; simp only [parallaxlaw10_PeepTwice.l1] at H
         replace H := it (c := 0 ≤ x9_1) H; obtain ⟨c14, H⟩ := H; have c14b0 := decide_eq_true c14; clear c14
         replace H := it (c := x9_1 < (t592.length : Int)) H; obtain ⟨c15, H⟩ := H; have c15b0 := decide_eq_true c15; clear c15; have HH_ := Aside0.mk H; clear H
         have p603 : 0 ≤ (x9_1 : Int) := of_decide_eq_true pa
         have q603 : x9_1 < (t592.length : Int) := of_decide_eq_true pa
         obtain ⟨ad603, A603_0, c603_0, e603, hx603_0, hx603_1, hx603_2, hx603_3, hl603_0, hi603_0⟩ := at_T35 (Kd.N_reads' HO_5.out).2.2 x9_1 p603 q603
         cases e603
         obtain ⟨ce603, hce603, hMe603, hcc603⟩ := Kd.N_get HO_5.out z35 x9_1 p603 (by first | exact q603 | exact of_decide_eq_true pa | (have e_ := (Kd.N_reads' HO_5.out).1; omega))
         obtain ⟨ua603_0, uc603_0, rfl, ul603_0, ge603_0⟩ := k35_openF hMe603; have hv603_0 := hcc603 0 _ rfl; rw [Nat.add_zero] at hv603_0; replace hv603_0 := Option.some.inj (hv603_0.symm.trans hx603_0)
         injection hv603_0 with hva_ hvn_ hvc_
         rw [hva_] at ge603_0; rw [hvc_] at ul603_0; have HL603_0 := Aside0.mk (show Kd.V k40 40 _ w.heap.size _ _ ((rd_T35 t592 x9_1).f0) from Kd.V_mk ul603_0 ge603_0); clear hva_ hvn_ hvc_ ge603_0 ul603_0; clear hcc603 hce603; have HR603_0 := Aside0.mk hi603_0; have HC603_0 := Aside0.mk hl603_0; clear hi603_0 hl603_0; replace p603 := eq_true p603; replace q603 := eq_true q603; have H := HH_.out; clear HH_
         by_cases c16 : x10_2 < (((rd_T35 t592 x9_1).f0).length : Int)
         ·rw [if_pos c16] at H; have c16b0 := decide_eq_true c16; clear c16; replace H := ob H; obtain ⟨t604, A17, H⟩ := H; have HH_ := Aside0.mk H; clear H
          go_wp2_with (first | ((with_reducible refine gate_callee (f := 16) rfl ?_); refine goesL_ (some 48) rfl rfl Tryd.func16 (by kernel_rfl) rfl #[.slice (some ad603) t592.length co11, .int .i64 x9_1, .int .i64 x10_2] rfl (by (try simp only [List.map_toArray, List.map_cons, List.map_nil]); first | done | rfl | (simp only [List.length_drop, List.length_take]; rfl)) ?_; (with_reducible refine (peep_Rule.calls k2 _ _ t592 x9_1 x10_2 t604 _ ?side1 ?side2 ?side3 A17.out).mono ?_); (case side1 => repeat (first | exact (Kd.N_reads' HO_5.out).2.2 | (with_reducible refine Kd.C_alloc ?_ _) | (with_reducible refine Kd.C_drewN ?_ _) | (with_reducible refine Kd.C_drew ?_))); (case side2 => exact (Kd.N_reads' HO_5.out).2.1); (case side3 => exact Laid.below HLd.out bl); rintro e w19 ⟨rfl, hb⟩; refine ⟨_, rfl, ?_⟩; have n0_ := Aside0.mk (Kd.N_below (bN HO_5.out) hb); have n1_ := Aside0.mk (Kd.N_below (bN HO_7.out) hb); have n2_ := Aside0.mk (Kd.V_below (bV HL603_0.out) hb); have n3_ := Aside0.mk (Kd.C_below (by repeat (first | (with_reducible exact HR603_0.out) | (with_reducible refine Kd.C_alloc ?_ _) | (with_reducible refine Kd.C_drewN ?_ _) | (with_reducible refine Kd.C_drew ?_) | exact HR603_0.out)) hb); have n4_ := Aside0.mk (below_step bl hb); clear HO_5 HO_7; clear HL603_0 HR603_0 HB; have HO_5 := n0_; have HO_7 := n1_; have HL603_0 := n2_; have HR603_0 := n3_; have HB := n4_; clear n0_ n1_ n2_ n3_ n4_; (try clear hb); (try clear hb2); (try clear hk); (try clear hi); refine ?roundEnd))
          case roundEnd =>
           have H := HH_.out; clear HH_
           by_cases c18 : t604 = 0
           ·rw [if_pos c18] at H; obtain ⟨c18b0, c18b1⟩ := eqs c18; clear c18; have H' := Aside0.mk H; clear H; go_wp2
            go_roundg k2
            case measure => have := HK1.out; have := HK2.out; omega
            case rel => exact ⟨(wrap64 (x10_2 + 1)), pr, H', ⟨by have := HK1.out; have := HK2.out; omega⟩, ⟨by (with_reducible repeat (first | apply Kd.N_alloc | apply Kd.N_drewN | apply Kd.N_drew)); exact HO_5.out⟩, ⟨by (with_reducible repeat (first | apply Kd.N_alloc | apply Kd.N_drewN | apply Kd.N_drew)); exact HO_7.out⟩, ⟨bl⟩⟩
           ·rw [if_neg c18] at H; obtain ⟨c18b0, c18b1⟩ := eqf c18; rw [hr_] at H; exact absurd H (by simp)
         ·rw [if_neg c16] at H; have c16b0 := decide_eq_false c16; clear c16; have H' := Aside0.mk H; clear H; go_wp2
          go_roundg k2
          case measure => have := HK1.out; have := HK2.out; omega
          case rel => exact ⟨(wrap64 (x9_1 + 1)), pr, H', ⟨by have := HK1.out; have := HK2.out; omega⟩, ⟨by (with_reducible repeat (first | apply Kd.N_alloc | apply Kd.N_drewN | apply Kd.N_drew)); exact HO_5.out⟩, ⟨by (with_reducible repeat (first | apply Kd.N_alloc | apply Kd.N_drewN | apply Kd.N_drew)); exact HO_7.out⟩, ⟨bl⟩⟩
      ·rw [if_neg c13] at H; have c13b0 := decide_eq_false c13; clear c13
       by_cases c21 : t600 = 0
       ·rw [if_pos c21] at H; obtain ⟨c21b0, c21b1⟩ := eqs c21; clear c21; replace H := ob H; obtain ⟨t601, A22, H⟩ := H
        by_cases c23 : t601 = true
        ·subst c23; rw [if_pos rfl] at H; replace H := ob H; obtain ⟨t602, A24, H⟩ := H; obtain rfl := Option.some.inj H; obtain ⟨Ao25, co25, eo25⟩ := Kd.N_slice HO_7.out; subst eo25
         go_wp2_with (first | (go_at_call 12; (with_reducible refine (parallaxref10_Same.calls k1 _ _ t592 _ _ t597 true _ ?side1 ?side2 ?side3 ?side4 A22.out).mono ?_); (case side1 => repeat (first | exact (Kd.N_reads' HO_5.out).2.2 | (with_reducible refine Kd.C_alloc ?_ _) | (with_reducible refine Kd.C_drewN ?_ _) | (with_reducible refine Kd.C_drew ?_))); (case side2 => exact (Kd.N_reads' HO_5.out).2.1); (case side3 => repeat (first | exact (Kd.N_reads' HO_7.out).2.2 | (with_reducible refine Kd.C_alloc ?_ _) | (with_reducible refine Kd.C_drewN ?_ _) | (with_reducible refine Kd.C_drew ?_))); (case side4 => exact (Kd.N_reads' HO_7.out).2.1); rintro e w' ⟨rfl, ⟨nd, rfl⟩⟩) | (go_at_call 9; (with_reducible refine (parallaxlaw10_known.calls k1  t602 _ ?side1 A24.out).mono ?_); (case side1 => exact Laid.below HLd.out bl); rintro e w26 ⟨rfl, hb⟩; have n_ := an3 (Kd.N_below (bN HO_5.out) hb) (Kd.N_below (bN HO_7.out) hb) (below_step bl hb); clear HO_5 HO_7 HB; obtain ⟨HO_5, HO_7, HB⟩ := n_; (try clear hb); (try clear hb2); (try clear hk); (try clear hi)))
         go_ret; exact ⟨pe, bl⟩
        ·replace c23 := Bool.eq_false_iff.mpr c23; subst c23; rw [if_neg (show ¬ (false = true) by decide)] at H; rw [hr_] at H; exact absurd H (by simp)
       ·rw [if_neg c21] at H; obtain ⟨c21b0, c21b1⟩ := eqf c21; rw [hr_] at H; exact absurd H (by simp)
   ·rw [if_neg c8] at H; obtain ⟨c8b0, c8b1⟩ := eqf c8; replace H := ob H; obtain ⟨t596, A28, H⟩ := H; obtain rfl := Option.some.inj H
    go_wp2_with (first | ((with_reducible refine gate_callee (f := 9) rfl ?_); refine goesL_ (some 22) rfl rfl Tryd.func9 (by kernel_rfl) rfl #[] rfl (by (try simp only [List.map_toArray, List.map_cons, List.map_nil]); first | done | rfl | (simp only [List.length_drop, List.length_take]; rfl)) ?_; (with_reducible refine (parallaxlaw10_known.calls k  t596 _ ?side1 A28.out).mono ?_); (case side1 => exact Laid.below HLd.out bl); rintro e w30 ⟨rfl, hb⟩; refine ⟨_, rfl, ?_⟩; have n_ := an2 (Kd.N_below (bN HO594.out) hb) (below_step bl hb); clear HO594 HB; obtain ⟨HO594, HB⟩ := n_; (try clear hb); (try clear hb2); (try clear hk); (try clear hi)))
    go_ret; exact ⟨pe, bl⟩

/-- THE ONE PURE STATEMENT of parallaxlaw10_PeepTwice. -/
def parallaxlaw10_PeepTwice.Pure : Prop := ∀ (l0 : List (S35)) (a1 : Int), (l0.length * 48 ≤ 140737488351232 ∧ ∀ y0 ∈ l0, ((y0.f0.length * 24 ≤ 140737488351232 ∧ ∀ y1 ∈ y0.f0, ((Lit.int .i64 y1.f0).wf = true ∧ ((Lit.int .i64 y1.f1).wf = true ∧ (Lit.int .i64 y1.f2).wf = true))) ∧ ((Lit.int .i64 y0.f1).wf = true ∧ ((Lit.int .i64 y0.f2).wf = true ∧ True)))) → (Lit.int .i64 a1).wf = true → ∃ k, parallaxlaw10_PeepTwice.f k l0 a1 = some true

end Go.Proofs.YtmbjogpphegoaaaDoor.P
