-- Written by a program of this session (its own turn of the print: wip/patch_print.py), not by hand. Lean checks it.
import Derived.Test.YtmbjogpphegoaaaDoorWZip3
import Derived.Test.YtmbjogpphegoaaaDoorPx0
import Derived.Test.YtmbjogpphegoaaaDoorPx3
import Derived.Test.YtmbjogpphegoaaaDoorPx7
namespace Go.Proofs.YtmbjogpphegoaaaDoor.P
open Go.RowKit Go.Proofs.YtmbjogpphegoaaaDoorW.PrintWords Go.Proofs.YtmbjogpphegoaaaDoorW.PrintLast Go.Proofs.YtmbjogpphegoaaaDoorW.PrintMore
attribute [local go_sem] max2_int min2_int max_two min_two max_three min_three max_four min_four
set_option linter.unusedVariables false
set_option linter.unusedSimpArgs false

/-! ### code_Sound: function 14 -/
mutual
def code_Sound.j0 : Nat → List (S35) → Bool → Option (Bool)
 | 0, _, _ => none
 | k + 1, x0, x40 => if x40 = true then (some false) else (code_Sound.l0 k x0 (x0.length : Int) 0)
def code_Sound.l0 : Nat → List (S35) → Int → Int → Option (Bool)
 | 0, _, _, _ => none
 | k + 1, x0, x42, x43 => if x43 < x42 then ((code_Heights.f k x0 x43).bind fun bt177 => (if bt177.2 = true then (code_Sound.l0 k x0 x42 (wrap64 (x43 + 1))) else (some false))) else (some true)
end
def code_Sound.f (k : Nat) (l0 : List (S35)) (a1 : Int) : Option (Bool) := if (l0.length : Int) < 1 then (code_Sound.j0 k l0 true) else (if (l0.length : Int) > 40 then (code_Sound.j0 k l0 true) else (if a1 < 0 then (code_Sound.j0 k l0 true) else (if a1 ≥ (l0.length : Int) then (code_Sound.j0 k l0 true) else (if 0 ≤ a1 then (if a1 < (l0.length : Int) then (if ((rd_T35 l0 a1).f2) = 0 then (code_Sound.j0 k l0 ((rd_T35 l0 a1).f3)) else (code_Sound.j0 k l0 true)) else (none)) else (none)))))
theorem code_Sound.mono_l : ∀ k, (∀ y0 y1, LeO (code_Sound.j0 k y0 y1) (code_Sound.j0 (k + 1) y0 y1)) ∧ (∀ y0 y1 y2, LeO (code_Sound.l0 k y0 y1 y2) (code_Sound.l0 (k + 1) y0 y1 y2))
 | 0 => ⟨fun _ _ r h => by simp [code_Sound.j0] at h, fun _ _ _ r h => by simp [code_Sound.l0] at h⟩
 | k + 1 => by
  obtain ⟨ih0, ih1⟩ := code_Sound.mono_l k
  refine ⟨?_, ?_⟩
  ·intro y0 y1
   unfold code_Sound.j0
   repeat' (with_reducible first | apply ih0 | apply ih1 | apply code_Heights.mono | exact LeO.refl _ | exact LeO.none _ | refine LeO.ite ?_ ?_ | refine LeO.bind ?_ (fun _ => ?_))
  ·intro y0 y1 y2
   unfold code_Sound.l0
   repeat' (with_reducible first | apply ih0 | apply ih1 | apply code_Heights.mono | exact LeO.refl _ | exact LeO.none _ | refine LeO.ite ?_ ?_ | refine LeO.bind ?_ (fun _ => ?_))
theorem code_Sound.mono : ∀ a0 a1 k, LeO (code_Sound.f k a0 a1) (code_Sound.f (k + 1) a0 a1) := by
 intro a0 a1 k
 obtain ⟨ih0, ih1⟩ := code_Sound.mono_l k
 unfold code_Sound.f
 repeat' (with_reducible first | apply ih0 | apply ih1 | apply code_Heights.mono | exact LeO.refl _ | exact LeO.none _ | refine LeO.ite ?_ ?_ | refine LeO.bind ?_ (fun _ => ?_))
set_option maxHeartbeats 8000000 in
set_option maxRecDepth 100000 in
theorem code_Sound.calls (k : Nat) (A0 : Option Addr) (c0 : Nat) (l0 : List (S35)) (a1 : Int) (r : Bool) (w : World) (hr0 : Kd.C k35 w A0 l0.length l0) (hc0 : l0.length ≤ c0) (hLd : Laid w) (h : code_Sound.f k l0 a1 = some r) :
  Calls Tryd.prog 14 #[.slice A0 l0.length c0, .int .i64 a1] w fun e w' => e = .returned (.bool r) ∧ Below w.heap.size w w' := by
 have HR0 := Aside0.mk hr0; have HC0 := Aside0.mk hc0; clear hr0 hc0; have HLd := Aside0.mk hLd; clear hLd; have HB := Aside0.mk (Below.refl w.heap.size w); have H : (if (l0.length : Int) < 1 then (code_Sound.j0 k l0 true) else (if (l0.length : Int) > 40 then (code_Sound.j0 k l0 true) else (if a1 < 0 then (code_Sound.j0 k l0 true) else (if a1 ≥ (l0.length : Int) then (code_Sound.j0 k l0 true) else (if 0 ≤ a1 then (if a1 < (l0.length : Int) then (if ((rd_T35 l0 a1).f2) = 0 then (code_Sound.j0 k l0 ((rd_T35 l0 a1).f3)) else (code_Sound.j0 k l0 true)) else (none)) else (none)))))) = some r := h; clear h; have HC3 := Aside0.mk H; clear H; go_enter Tryd.func14, Tryd.ntmps14
 go_upto_region 1 with (fail)
 go_cut [40] (fun v40 wc => ∃ (kq : Nat) (x40_2 : Bool), v40 = .bool x40_2 ∧ Aside0 (code_Sound.j0 kq l0 x40_2 = some r) ∧ Aside0 (kq ≤ k) ∧ Aside0 (Below w.heap.size w wc))
 case first =>
  have H := HC3.out; clear HC3
  by_cases c4 : (l0.length : Int) < 1
  ·rw [if_pos c4] at H; have c4b0 := decide_eq_true c4; have c4b1 : decide (l0.length < 1) = true := decide_eq_true (by omega); clear c4; (first | rw [c4b0] | (simp only [i64_w, i32_w]; rw [c4b0]) | skip); have H' := Aside0.mk H; clear H; go_wp2; go_meet
   case rel => exact ⟨_, (true), pr, H', ⟨by first | omega | exact Nat.le_refl _⟩, ⟨bl⟩⟩
  ·rw [if_neg c4] at H; have c4b0 := decide_eq_false c4; have c4b1 : decide (l0.length < 1) = false := decide_eq_false (by omega); clear c4; (first | rw [c4b0] | (simp only [i64_w, i32_w]; rw [c4b0]) | skip)
   by_cases c5 : (l0.length : Int) > 40
   ·rw [if_pos c5] at H; have c5b0 : decide (40 < (l0.length : Int)) = true := decide_eq_true c5; have c5b1 : decide (40 < l0.length) = true := decide_eq_true (by omega); clear c5; have H' := Aside0.mk H; clear H; go_wp2; go_meet
    case rel => exact ⟨_, (true), pr, H', ⟨by first | omega | exact Nat.le_refl _⟩, ⟨bl⟩⟩
   ·rw [if_neg c5] at H; have c5b0 : decide (40 < (l0.length : Int)) = false := decide_eq_false c5; have c5b1 : decide (40 < l0.length) = false := decide_eq_false (by omega); clear c5
    by_cases c6 : a1 < 0
    ·rw [if_pos c6] at H; have c6b0 := decide_eq_true c6; clear c6; have H' := Aside0.mk H; clear H; go_wp2; go_meet
     case rel => exact ⟨_, (true), pr, H', ⟨by first | omega | exact Nat.le_refl _⟩, ⟨bl⟩⟩
    ·rw [if_neg c6] at H; have c6b0 := decide_eq_false c6; clear c6
     by_cases c7 : a1 ≥ (l0.length : Int)
     ·rw [if_pos c7] at H; have c7b0 : decide ((l0.length : Int) ≤ a1) = true := decide_eq_true c7; clear c7; have H' := Aside0.mk H; clear H; go_wp2; go_meet
      case rel => exact ⟨_, (true), pr, H', ⟨by first | omega | exact Nat.le_refl _⟩, ⟨bl⟩⟩
     ·rw [if_neg c7] at H; have c7b0 : decide ((l0.length : Int) ≤ a1) = false := decide_eq_false c7; clear c7
      replace H := it (c := 0 ≤ a1) H; obtain ⟨c8, H⟩ := H; have c8b0 := decide_eq_true c8; clear c8
      replace H := it (c := a1 < (l0.length : Int)) H; obtain ⟨c9, H⟩ := H; have c9b0 := decide_eq_true c9; clear c9; have HH_ := Aside0.mk H; clear H
      have p175 : 0 ≤ (a1 : Int) := of_decide_eq_true pa
      have q175 : a1 < (l0.length : Int) := of_decide_eq_true pa
      obtain ⟨ad175, A175_0, c175_0, e175, hx175_0, hx175_1, hx175_2, hx175_3, hl175_0, hi175_0⟩ := at_T35 HR0.out a1 p175 q175
      cases e175
      replace hx175_0 := pc HB.out hx175_0; replace hx175_1 := pc HB.out hx175_1; replace hx175_2 := pc HB.out hx175_2; replace hx175_3 := pc HB.out hx175_3; have HR175_0 := Aside0.mk hi175_0; have HC175_0 := Aside0.mk hl175_0; clear hi175_0 hl175_0; replace p175 := eq_true p175; replace q175 := eq_true q175; have H := HH_.out; clear HH_
      by_cases c10 : ((rd_T35 l0 a1).f2) = 0
      ·rw [if_pos c10] at H; obtain ⟨c10b0, c10b1⟩ := eqs c10; clear c10; have H' := Aside0.mk H; clear H
       have p176 : 0 ≤ (a1 : Int) := of_decide_eq_true pa
       have q176 : a1 < (l0.length : Int) := of_decide_eq_true pa
       obtain ⟨ad176, A176_0, c176_0, e176, hx176_0, hx176_1, hx176_2, hx176_3, hl176_0, hi176_0⟩ := at_T35 HR0.out a1 p176 q176; obtain rfl : ad175 = ad176 := (by injection e176); replace hx176_0 := pc HB.out hx176_0; replace hx176_1 := pc HB.out hx176_1; replace hx176_2 := pc HB.out hx176_2; replace hx176_3 := pc HB.out hx176_3; have HR176_0 := Aside0.mk hi176_0; have HC176_0 := Aside0.mk hl176_0; clear hi176_0 hl176_0; replace p176 := eq_true p176; replace q176 := eq_true q176; have ea_ := Option.some.inj (hx175_0.symm.trans hx176_0)
       injection ea_ with ea_ en_ ec_
       subst ea_; subst ec_; clear en_; go_wp2; go_meet
       case rel => exact ⟨_, ((rd_T35 l0 a1).f3), pr, H', ⟨by first | omega | exact Nat.le_refl _⟩, ⟨bl⟩⟩
      ·rw [if_neg c10] at H; obtain ⟨c10b0, c10b1⟩ := eqf c10; have H' := Aside0.mk H; clear H; go_wp2; go_meet
       case rel => exact ⟨_, (true), pr, H', ⟨by first | omega | exact Nat.le_refl _⟩, ⟨bl⟩⟩
 case rest =>
  clear HC3; (try clear c1); (try clear p1); (try clear q1); (try clear hx1); (try clear p2); (try clear c4); (try clear c4b0); (try clear c4b1); (try clear c5); (try clear c5b0); (try clear c5b1); (try clear c6); (try clear c6b0); (try clear c7); (try clear c7b0); (try clear c8); (try clear c8b0); (try clear c9); (try clear c9b0); (try clear c10); (try clear c10b0); (try clear c10b1); (try clear hx175_0); (try clear hx175_1); (try clear hx175_2); (try clear hx175_3); (try clear hx176_0); (try clear hx176_1); (try clear hx176_2); (try clear hx176_3); (try clear p175); (try clear p176); (try clear q175); (try clear q176); obtain ⟨kq, x40_2, rfl, HA, HJ2, HB⟩ := hcut
  cases kq with
  | zero => exact absurd HA.out (by simp [code_Sound.j0])
  | succ kj2 =>
   have H := HA.out; clear HA; simp only [code_Sound.j0] at H
   by_cases c11 : x40_2 = true
   ·subst c11; rw [if_pos rfl] at H; obtain rfl := Option.some.inj H; go_wp2; go_ret; exact ⟨pe, bl⟩
   ·replace c11 := Bool.eq_false_iff.mpr c11; subst c11; rw [if_neg (show ¬ (false = true) by decide)] at H; have H' := Aside0.mk H; clear H; go_wp2
    go_loopg [43] kj2 (fun kq v43 w' => ∃ (x43_2 : Int), v43 = .int .i64 x43_2 ∧ Aside0 (code_Sound.l0 kq l0 (l0.length : Int) x43_2 = some r) ∧ Aside0 (kq ≤ kj2) ∧ Aside0 (Below w.heap.size w w'))
    case atStart => exact ⟨(0), pr, H', ⟨Nat.le_refl _⟩, ⟨bl⟩⟩
    case round =>
     clear H'; (try clear c1); (try clear p1); (try clear q1); (try clear hx1); (try clear p2); (try clear c4); (try clear c4b0); (try clear c4b1); (try clear c5); (try clear c5b0); (try clear c5b1); (try clear c6); (try clear c6b0); (try clear c7); (try clear c7b0); (try clear c8); (try clear c8b0); (try clear c9); (try clear c9b0); (try clear c10); (try clear c10b0); (try clear c10b1); (try clear c11); (try clear hx175_0); (try clear hx175_1); (try clear hx175_2); (try clear hx175_3); (try clear hx176_0); (try clear hx176_1); (try clear hx176_2); (try clear hx176_3); (try clear p1); (try clear p175); (try clear p176); (try clear p2); (try clear q1); (try clear q175); (try clear q176); obtain ⟨x43_2, rfl, HA, HK2, HB⟩ := hrel
     cases gk with
     | zero => exact absurd HA.out (by simp [code_Sound.l0])
     | succ k2 =>
      have H := HA.out; clear HA; simp only [code_Sound.l0] at H
      by_cases c12 : x43_2 < (l0.length : Int)
      ·rw [if_pos c12] at H; have c12b0 := decide_eq_true c12; clear c12; replace H := ob H; obtain ⟨⟨t177, t178⟩, A13, H⟩ := H
       by_cases c14 : t178 = true
       ·subst c14; rw [if_pos rfl] at H; have H' := Aside0.mk H; clear H
        go_wp2_with (first | ((with_reducible refine gate_callee (f := 31) rfl ?_); refine goesL_ (some 49) rfl rfl Tryd.func31 (by kernel_rfl) rfl #[.slice A0 l0.length c0, .int .i64 x43_2] rfl (by (try simp only [List.map_toArray, List.map_cons, List.map_nil]); first | done | rfl | (simp only [List.length_drop, List.length_take]; rfl)) ?_; (with_reducible refine (code_Heights.calls k2 _ _ l0 x43_2 t177 true _ ?side1 ?side2 ?side3 A13.out).mono ?_); (case side1 => exact cb HR0.out); (case side2 => exact HC0.out); (case side3 => exact Laid.below HLd.out bl); rintro e w15 ⟨v179, rfl, ho0, hb⟩; refine ⟨_, rfl, ?_⟩; have n_ := an2 (Kd.R_lower ho0 (below_size bl)) (below_step bl hb); clear HB; obtain ⟨HO180, HB⟩ := n_; (try clear hb); (try clear hb2); (try clear hk); (try clear hi); (try clear ho0)))
        go_roundg k2
        case measure => have := HJ2.out; have := HK2.out; omega
        case rel => exact ⟨(wrap64 (x43_2 + 1)), pr, H', ⟨by have := HJ2.out; have := HK2.out; omega⟩, ⟨bl⟩⟩
       ·replace c14 := Bool.eq_false_iff.mpr c14; subst c14; rw [if_neg (show ¬ (false = true) by decide)] at H; obtain rfl := Option.some.inj H
        go_wp2_with (first | ((with_reducible refine gate_callee (f := 31) rfl ?_); refine goesL_ (some 49) rfl rfl Tryd.func31 (by kernel_rfl) rfl #[.slice A0 l0.length c0, .int .i64 x43_2] rfl (by (try simp only [List.map_toArray, List.map_cons, List.map_nil]); first | done | rfl | (simp only [List.length_drop, List.length_take]; rfl)) ?_; (with_reducible refine (code_Heights.calls k2 _ _ l0 x43_2 t177 false _ ?side1 ?side2 ?side3 A13.out).mono ?_); (case side1 => exact cb HR0.out); (case side2 => exact HC0.out); (case side3 => exact Laid.below HLd.out bl); rintro e w16 ⟨v179, rfl, ho0, hb⟩; refine ⟨_, rfl, ?_⟩; have n_ := an2 (Kd.R_lower ho0 (below_size bl)) (below_step bl hb); clear HB; obtain ⟨HO180, HB⟩ := n_; (try clear hb); (try clear hb2); (try clear hk); (try clear hi); (try clear ho0)))
        go_ret; exact ⟨pe, bl⟩
      ·rw [if_neg c12] at H; have c12b0 := decide_eq_false c12; clear c12; obtain rfl := Option.some.inj H; go_wp2; go_ret; exact ⟨pe, bl⟩

/-! ### peep_jumps: function 58 -/
def peep_jumps.f (a0_0 : Int) (a0_1 : Int) (a0_2 : Int) : Option (Bool) := if a0_0 = 17 then (some true) else (some (a0_0 == 18))
set_option maxHeartbeats 8000000 in
set_option maxRecDepth 100000 in
theorem peep_jumps.calls (a0_0 : Int) (a0_1 : Int) (a0_2 : Int) (r : Bool) (w : World) (h : peep_jumps.f a0_0 a0_1 a0_2 = some r) :
  Calls Tryd.prog 58 #[.agg #[.int .i64 a0_0, .int .i64 a0_1, .int .i64 a0_2]] w fun e w' => e = .returned (.bool r) ∧ Below w.heap.size w w' := by
 have hu40 := Tryd.underlying40; have HB := Aside0.mk (Below.refl w.heap.size w); have H : (if a0_0 = 17 then (some true) else (some (a0_0 == 18))) = some r := h; clear h; have HH_ := Aside0.mk H; clear H; go_enter Tryd.func58, Tryd.ntmps58
 go_wp2_with (first | ((with_reducible refine gate_dst (N := 1) rfl ?_); refine bx 1 #[.int .i64 a0_0, .int .i64 a0_1, .int .i64 a0_2] 40 ?_; intro gb181 hg w3 hbox hb; have n_ := an4 (below_step bl hb) (hbox) (bg hg) (bg hg); clear HB; obtain ⟨HB, BK181, GW181, GE181⟩ := n_; clear hb hbox hg; obtain ⟨hcz4_0, hcz4_1, hcz4_2, hfz4_0, hfz4_1, hfz4_2⟩ := bc3 BK181.out; refine ?roundEnd))
 case roundEnd =>
  have H := HH_.out; clear HH_
  by_cases c2 : a0_0 = 17
  ·rw [if_pos c2] at H; obtain ⟨c2b0, c2b1⟩ := eqs c2; clear c2; obtain rfl := Option.some.inj H; go_wp2; go_ret; exact ⟨pe, bl⟩
  ·rw [if_neg c2] at H; obtain ⟨c2b0, c2b1⟩ := eqf c2; obtain rfl := Option.some.inj H; go_wp2; go_ret; exact ⟨pe, bl⟩

/-! ### peep_sight_follow: function 59 -/
def peep_sight_follow.f (l0 : List (S40)) (a1 : Int) (l2 : List Bool) (l3 : List Bool) : Option (List Int) := if 0 ≤ a1 then (if a1 < (l0.length : Int) then (if ((rd_T40 l0 a1).f0) = 20 then (some ([] : List Int)) else (if ((rd_T40 l0 a1).f0) = 17 then (some (([(rd_T40 l0 a1).f1] : List Int))) else (if ((rd_T40 l0 a1).f0) = 18 then (some (([wrap64 (a1 + 1), (rd_T40 l0 a1).f1] : List Int))) else (some (([wrap64 (a1 + 1)] : List Int)))))) else (none)) else (none)
set_option maxHeartbeats 8000000 in
set_option maxRecDepth 100000 in
theorem peep_sight_follow.calls0 (gb182 : Nat) (A0 : Option Addr) (c0 : Nat) (l0 : List (S40)) (a1 : Int) (A2 : Option Addr) (c2 : Nat) (l2 : List Bool) (A3 : Option Addr) (c3 : Nat) (l3 : List Bool) (r : List Int) (w w8 : World) (hr0 : Kd.C k40 w A0 l0.length l0) (hc0 : l0.length ≤ c0) (hr2 : Kd.C Kd.bool w A2 l2.length l2) (hc2 : l2.length ≤ c2) (hr3 : Kd.C Kd.bool w A3 l3.length l3) (hc3 : l3.length ≤ c3) (hbox : w8.heap[gb182]? = some (.cells #[.slice A0 l0.length c0, .slice A2 l2.length c2, .slice A3 l3.length c3] 111 (0, 0))) (hw3 : w8 = w) (h : peep_sight_follow.f l0 a1 l2 l3 = some r) :
  Calls Tryd.prog 59 #[.pointer (some ⟨gb182, 0, none⟩), .int .i64 a1] w8 fun e w' => ∃ v0_ : Value, e = .returned (v0_) ∧ Kd.R (Kd.int .i64) 3 w' w.heap.size (fun _ => True) v0_ r ∧ Below w.heap.size w w' := by
 have hu111 := Tryd.underlying111; have hu40 := Tryd.underlying40; have HR0 := Aside0.mk hr0; have HC0 := Aside0.mk hc0; clear hr0 hc0; have HR2 := Aside0.mk hr2; have HC2 := Aside0.mk hc2; clear hr2 hc2; have HR3 := Aside0.mk hr3; have HC3 := Aside0.mk hc3; clear hr3 hc3; have HB := Aside0.mk (Below.refl w.heap.size w); have H : (if 0 ≤ a1 then (if a1 < (l0.length : Int) then (if ((rd_T40 l0 a1).f0) = 20 then (some ([] : List Int)) else (if ((rd_T40 l0 a1).f0) = 17 then (some (([(rd_T40 l0 a1).f1] : List Int))) else (if ((rd_T40 l0 a1).f0) = 18 then (some (([wrap64 (a1 + 1), (rd_T40 l0 a1).f1] : List Int))) else (some (([wrap64 (a1 + 1)] : List Int)))))) else (none)) else (none)) = some r := h; clear h
 replace H := it (c := 0 ≤ a1) H; obtain ⟨c5, H⟩ := H; have c5b0 := decide_eq_true c5; clear c5
 replace H := it (c := a1 < (l0.length : Int)) H; obtain ⟨c6, H⟩ := H; have c6b0 := decide_eq_true c6; clear c6; have HH_ := Aside0.mk H; clear H; have BK182 := Aside0.mk hbox; have n0_ := Aside0.mk (show Below w.heap.size w w8 from by subst hw3; exact Below.refl _ _); clear hw3 HB; have HB := n0_; clear n0_ hbox; obtain ⟨hcz9_0, hcz9_1, hcz9_2, hfz9_0, hfz9_1, hfz9_2⟩ := bc3 BK182.out; have p183 : 0 ≤ (a1 : Int) := of_decide_eq_true pa; have q183 : a1 < (l0.length : Int) := of_decide_eq_true pa; obtain ⟨ad183, e183, hx183_0, hx183_1, hx183_2⟩ := at_T40 HR0.out a1 p183 q183; cases e183; replace hx183_0 := pc HB.out hx183_0; replace hx183_1 := pc HB.out hx183_1; replace hx183_2 := pc HB.out hx183_2; replace p183 := eq_true p183; replace q183 := eq_true q183; go_enter Tryd.func59, Tryd.ntmps59
 go_wp2_with (first | fail | ((with_reducible refine gate_dst (N := 5) rfl ?_); refine bx 5 #[.int .i64 0, .int .i64 0, .int .i64 0] 40 ?_; intro gb184 hg w10 hbox hb; have n_ := an7 (bu BK182.out hb) (below_step bl hb) (hbox) (bg hg) (bg hg) ((by rw [hg]; exact Nat.ne_of_lt (blk_lt (g := gb182) (o := .cells #[.slice (some ad183) l0.length c0, .slice A2 l2.length c2, .slice A3 l3.length c3] 111 (0, 0)) bk) : gb182 ≠ gb184)) ((by rw [hg]; exact Nat.ne_of_gt (blk_lt (g := gb182) (o := .cells #[.slice (some ad183) l0.length c0, .slice A2 l2.length c2, .slice A3 l3.length c3] 111 (0, 0)) bk) : gb184 ≠ gb182)); clear BK182 HB; obtain ⟨BK182, HB, BK184, GW184, GE184, NB182_184, NB184_182⟩ := n_; clear hb hbox hg; have hnb11 := NB184_182.out; have hnc11 := NB182_184.out; obtain ⟨hcz12_0, hcz12_1, hcz12_2, hfz12_0, hfz12_1, hfz12_2⟩ := bc3 BK184.out; refine ?roundEnd))
 case roundEnd =>
  have H := HH_.out; clear HH_
  by_cases c7 : ((rd_T40 l0 a1).f0) = 20
  ·rw [if_pos c7] at H; obtain ⟨c7b0, c7b1⟩ := eqs c7; clear c7; obtain rfl := Option.some.inj H; go_wp2; go_ret; exact ⟨_, pe, pn, bl⟩
  ·rw [if_neg c7] at H; obtain ⟨c7b0, c7b1⟩ := eqf c7; have HH_ := Aside0.mk H; clear H; refine ?roundEnd; go_wp2
   case roundEnd =>
    have H := HH_.out; clear HH_
    by_cases c13 : ((rd_T40 l0 a1).f0) = 17
    ·rw [if_pos c13] at H; obtain ⟨c13b0, c13b1⟩ := eqs c13; clear c13; obtain ⟨y185, hy185⟩ : ∃ y_ : List Int, y_ = (([(rd_T40 l0 a1).f1] : List Int)) := ⟨_, rfl⟩; (first | replace H := hs hy185 H | rw [← hy185] at H)
     have Ny185 := Aside0.mk hy185; clear hy185; obtain rfl := Option.some.inj H
     go_wp2_with (first | ((with_reducible refine gate_dst (N := 21) rfl ?_); refine Kd.R_lit (Kd.int .i64) _ 3 ?hg (N := 21) ?hd (xs := ([(rd_T40 l0 a1).f1] : List Int)) (inner := [.int .i64 ((rd_T40 l0 a1).f1)]) (ok := fun _ => True) (okp := fun _ => True) ?hr ?hp (fun _ hk => hk) trivial (Below.refl _ _) (Nat.le_refl _) (by simp) ?_; (case hd => rfl); (case hg => rfl); (case hr => first | (go_simp; done) | (go_simp; rfl)); (case hp => exact (Reps.one (show Kd.M (Kd.int .i64) _ _ _ ((rd_T40 l0 a1).f1) [.int .i64 ((rd_T40 l0 a1).f1)] from rfl) (Reps.none _ _))); intro v186 w19 ho20 hb hg_ hnew_; clear hg_ hnew_; (first | rw [← Ny185.out] at ho20 | (simp only [Int.reduceToNat] at ho20; rw [← Ny185.out] at ho20)); have n_ := an4 (Kd.R_lower ho20 (below_size bl)) (blk_below (g := gb182) (o := .cells #[.slice (some ad183) l0.length c0, .slice A2 l2.length c2, .slice A3 l3.length c3] 111 (0, 0)) (by (with_reducible repeat (first | refine blk_drewN ?_ _ | refine blk_drew ?_ | refine blk_alloc ?_ _)); refine blk_far ?_ NB182_184.out _; (with_reducible repeat (first | refine blk_drewN ?_ _ | refine blk_drew ?_ | refine blk_alloc ?_ _)); refine blk_far ?_ NB182_184.out _; (with_reducible repeat (first | refine blk_drewN ?_ _ | refine blk_drew ?_ | refine blk_alloc ?_ _)); refine blk_far ?_ NB182_184.out _; (with_reducible repeat (first | refine blk_drewN ?_ _ | refine blk_drew ?_ | refine blk_alloc ?_ _)); exact BK182.out) hb) (blk_below (g := gb184) (o := .cells #[.int .i64 ((rd_T40 l0 a1).f0), .int .i64 ((rd_T40 l0 a1).f1), .int .i64 ((rd_T40 l0 a1).f2)] 40 (0, 0)) (by (with_reducible repeat (first | refine blk_drewN ?_ _ | refine blk_drew ?_ | refine blk_alloc ?_ _)); refine blk_put (cs := #[.int .i64 ((rd_T40 l0 a1).f0), .int .i64 ((rd_T40 l0 a1).f1), .int .i64 0]) ?_ 2 _ rfl; (with_reducible repeat (first | refine blk_drewN ?_ _ | refine blk_drew ?_ | refine blk_alloc ?_ _)); refine blk_put (cs := #[.int .i64 ((rd_T40 l0 a1).f0), .int .i64 0, .int .i64 0]) ?_ 1 _ rfl; (with_reducible repeat (first | refine blk_drewN ?_ _ | refine blk_drew ?_ | refine blk_alloc ?_ _)); refine blk_put (cs := #[.int .i64 0, .int .i64 0, .int .i64 0]) ?_ 0 _ rfl; (with_reducible repeat (first | refine blk_drewN ?_ _ | refine blk_drew ?_ | refine blk_alloc ?_ _)); exact BK184.out) hb) (below_step bl hb); clear BK182 BK184 HB; obtain ⟨HO187, BK182, BK184, HB⟩ := n_; clear hb ho20))
     go_ret; exact ⟨_, pe, by (with_reducible repeat (first | apply Kd.R_alloc | apply Kd.R_drewN | apply Kd.R_drew)); exact HO187.out, bl⟩
    ·rw [if_neg c13] at H; obtain ⟨c13b0, c13b1⟩ := eqf c13; have HH_ := Aside0.mk H; clear H; refine ?roundEnd; go_wp2
     case roundEnd =>
      have H := HH_.out; clear HH_
      by_cases c21 : ((rd_T40 l0 a1).f0) = 18
      ·rw [if_pos c21] at H; obtain ⟨c21b0, c21b1⟩ := eqs c21; clear c21; obtain ⟨y188, hy188⟩ : ∃ y_ : List Int, y_ = (([wrap64 (a1 + 1), (rd_T40 l0 a1).f1] : List Int)) := ⟨_, rfl⟩; (first | replace H := hs hy188 H | rw [← hy188] at H)
       have Ny188 := Aside0.mk hy188; clear hy188; obtain rfl := Option.some.inj H
       go_wp2_with (first | ((with_reducible refine gate_dst (N := 28) rfl ?_); refine Kd.R_lit (Kd.int .i64) _ 3 ?hg (N := 28) ?hd (xs := ([wrap64 (a1 + 1), (rd_T40 l0 a1).f1] : List Int)) (inner := [.int .i64 (wrap64 (a1 + 1)), .int .i64 ((rd_T40 l0 a1).f1)]) (ok := fun _ => True) (okp := fun _ => True) ?hr ?hp (fun _ hk => hk) trivial (Below.refl _ _) (Nat.le_refl _) (by simp) ?_; (case hd => rfl); (case hg => rfl); (case hr => first | (go_simp; done) | (go_simp; rfl)); (case hp => exact (Reps.one (show Kd.M (Kd.int .i64) _ _ _ (wrap64 (a1 + 1)) [.int .i64 (wrap64 (a1 + 1))] from rfl) (Reps.one (show Kd.M (Kd.int .i64) _ _ _ ((rd_T40 l0 a1).f1) [.int .i64 ((rd_T40 l0 a1).f1)] from rfl) (Reps.none _ _)))); intro v189 w27 ho28 hb hg_ hnew_; clear hg_ hnew_; (first | rw [← Ny188.out] at ho28 | (simp only [Int.reduceToNat] at ho28; rw [← Ny188.out] at ho28)); have n_ := an4 (Kd.R_lower ho28 (below_size bl)) (blk_below (g := gb182) (o := .cells #[.slice (some ad183) l0.length c0, .slice A2 l2.length c2, .slice A3 l3.length c3] 111 (0, 0)) (by (with_reducible repeat (first | refine blk_drewN ?_ _ | refine blk_drew ?_ | refine blk_alloc ?_ _)); refine blk_far ?_ NB182_184.out _; (with_reducible repeat (first | refine blk_drewN ?_ _ | refine blk_drew ?_ | refine blk_alloc ?_ _)); refine blk_far ?_ NB182_184.out _; (with_reducible repeat (first | refine blk_drewN ?_ _ | refine blk_drew ?_ | refine blk_alloc ?_ _)); refine blk_far ?_ NB182_184.out _; (with_reducible repeat (first | refine blk_drewN ?_ _ | refine blk_drew ?_ | refine blk_alloc ?_ _)); exact BK182.out) hb) (blk_below (g := gb184) (o := .cells #[.int .i64 ((rd_T40 l0 a1).f0), .int .i64 ((rd_T40 l0 a1).f1), .int .i64 ((rd_T40 l0 a1).f2)] 40 (0, 0)) (by (with_reducible repeat (first | refine blk_drewN ?_ _ | refine blk_drew ?_ | refine blk_alloc ?_ _)); refine blk_put (cs := #[.int .i64 ((rd_T40 l0 a1).f0), .int .i64 ((rd_T40 l0 a1).f1), .int .i64 0]) ?_ 2 _ rfl; (with_reducible repeat (first | refine blk_drewN ?_ _ | refine blk_drew ?_ | refine blk_alloc ?_ _)); refine blk_put (cs := #[.int .i64 ((rd_T40 l0 a1).f0), .int .i64 0, .int .i64 0]) ?_ 1 _ rfl; (with_reducible repeat (first | refine blk_drewN ?_ _ | refine blk_drew ?_ | refine blk_alloc ?_ _)); refine blk_put (cs := #[.int .i64 0, .int .i64 0, .int .i64 0]) ?_ 0 _ rfl; (with_reducible repeat (first | refine blk_drewN ?_ _ | refine blk_drew ?_ | refine blk_alloc ?_ _)); exact BK184.out) hb) (below_step bl hb); clear BK182 BK184 HB; obtain ⟨HO190, BK182, BK184, HB⟩ := n_; clear hb ho28))
       go_ret; exact ⟨_, pe, by (with_reducible repeat (first | apply Kd.R_alloc | apply Kd.R_drewN | apply Kd.R_drew)); exact HO190.out, bl⟩
      ·rw [if_neg c21] at H; obtain ⟨c21b0, c21b1⟩ := eqf c21; obtain ⟨y191, hy191⟩ : ∃ y_ : List Int, y_ = (([wrap64 (a1 + 1)] : List Int)) := ⟨_, rfl⟩; (first | replace H := hs hy191 H | rw [← hy191] at H)
       have Ny191 := Aside0.mk hy191; clear hy191; obtain rfl := Option.some.inj H
       go_wp2_with (first | ((with_reducible refine gate_dst (N := 31) rfl ?_); refine Kd.R_lit (Kd.int .i64) _ 3 ?hg (N := 31) ?hd (xs := ([wrap64 (a1 + 1)] : List Int)) (inner := [.int .i64 (wrap64 (a1 + 1))]) (ok := fun _ => True) (okp := fun _ => True) ?hr ?hp (fun _ hk => hk) trivial (Below.refl _ _) (Nat.le_refl _) (by simp) ?_; (case hd => rfl); (case hg => rfl); (case hr => first | (go_simp; done) | (go_simp; rfl)); (case hp => exact (Reps.one (show Kd.M (Kd.int .i64) _ _ _ (wrap64 (a1 + 1)) [.int .i64 (wrap64 (a1 + 1))] from rfl) (Reps.none _ _))); intro v192 w34 ho35 hb hg_ hnew_; clear hg_ hnew_; (first | rw [← Ny191.out] at ho35 | (simp only [Int.reduceToNat] at ho35; rw [← Ny191.out] at ho35)); have n_ := an4 (Kd.R_lower ho35 (below_size bl)) (blk_below (g := gb182) (o := .cells #[.slice (some ad183) l0.length c0, .slice A2 l2.length c2, .slice A3 l3.length c3] 111 (0, 0)) (by (with_reducible repeat (first | refine blk_drewN ?_ _ | refine blk_drew ?_ | refine blk_alloc ?_ _)); refine blk_far ?_ NB182_184.out _; (with_reducible repeat (first | refine blk_drewN ?_ _ | refine blk_drew ?_ | refine blk_alloc ?_ _)); refine blk_far ?_ NB182_184.out _; (with_reducible repeat (first | refine blk_drewN ?_ _ | refine blk_drew ?_ | refine blk_alloc ?_ _)); refine blk_far ?_ NB182_184.out _; (with_reducible repeat (first | refine blk_drewN ?_ _ | refine blk_drew ?_ | refine blk_alloc ?_ _)); exact BK182.out) hb) (blk_below (g := gb184) (o := .cells #[.int .i64 ((rd_T40 l0 a1).f0), .int .i64 ((rd_T40 l0 a1).f1), .int .i64 ((rd_T40 l0 a1).f2)] 40 (0, 0)) (by (with_reducible repeat (first | refine blk_drewN ?_ _ | refine blk_drew ?_ | refine blk_alloc ?_ _)); refine blk_put (cs := #[.int .i64 ((rd_T40 l0 a1).f0), .int .i64 ((rd_T40 l0 a1).f1), .int .i64 0]) ?_ 2 _ rfl; (with_reducible repeat (first | refine blk_drewN ?_ _ | refine blk_drew ?_ | refine blk_alloc ?_ _)); refine blk_put (cs := #[.int .i64 ((rd_T40 l0 a1).f0), .int .i64 0, .int .i64 0]) ?_ 1 _ rfl; (with_reducible repeat (first | refine blk_drewN ?_ _ | refine blk_drew ?_ | refine blk_alloc ?_ _)); refine blk_put (cs := #[.int .i64 0, .int .i64 0, .int .i64 0]) ?_ 0 _ rfl; (with_reducible repeat (first | refine blk_drewN ?_ _ | refine blk_drew ?_ | refine blk_alloc ?_ _)); exact BK184.out) hb) (below_step bl hb); clear BK182 BK184 HB; obtain ⟨HO193, BK182, BK184, HB⟩ := n_; clear hb ho35))
       go_ret; exact ⟨_, pe, by (with_reducible repeat (first | apply Kd.R_alloc | apply Kd.R_drewN | apply Kd.R_drew)); exact HO193.out, bl⟩
theorem peep_sight_follow.calls (gb182 : Nat) (A0 : Option Addr) (c0 : Nat) (l0 : List (S40)) (a1 : Int) (A2 : Option Addr) (c2 : Nat) (l2 : List Bool) (A3 : Option Addr) (c3 : Nat) (l3 : List Bool) (r : List Int) (w : World) (hr0 : Kd.C k40 w A0 l0.length l0) (hc0 : l0.length ≤ c0) (hr2 : Kd.C Kd.bool w A2 l2.length l2) (hc2 : l2.length ≤ c2) (hr3 : Kd.C Kd.bool w A3 l3.length l3) (hc3 : l3.length ≤ c3) (hbox : w.heap[gb182]? = some (.cells #[.slice A0 l0.length c0, .slice A2 l2.length c2, .slice A3 l3.length c3] 111 (0, 0))) (h : peep_sight_follow.f l0 a1 l2 l3 = some r) :
  Calls Tryd.prog 59 #[.pointer (some ⟨gb182, 0, none⟩), .int .i64 a1] w fun e w' => ∃ v0_ : Value, e = .returned (v0_) ∧ Kd.R (Kd.int .i64) 3 w' w.heap.size (fun _ => True) v0_ r ∧ Below w.heap.size w w' := peep_sight_follow.calls0 gb182 A0 c0 l0 a1 A2 c2 l2 A3 c3 l3 r w w hr0 hc0 hr2 hc2 hr3 hc3 hbox rfl h

end Go.Proofs.YtmbjogpphegoaaaDoor.P
