-- Written by a program of this session (its own turn of the print: wip/patch_print.py), not by hand. Lean checks it.
import Derived.Test.YtmbjogpphegoaaaDoorWZip3
import Derived.Test.YtmbjogpphegoaaaDoorPx0
import Derived.Test.YtmbjogpphegoaaaDoorPx1
import Derived.Test.YtmbjogpphegoaaaDoorPx3
import Derived.Test.YtmbjogpphegoaaaDoorPx7
import Derived.Test.YtmbjogpphegoaaaDoorPx9
import Derived.Test.YtmbjogpphegoaaaDoorPx15
import Derived.Test.YtmbjogpphegoaaaDoorPx16
import Derived.KernelRfl
namespace Go.Proofs.YtmbjogpphegoaaaDoor.P
open Go.RowKit Go.Proofs.YtmbjogpphegoaaaDoorW.PrintWords Go.Proofs.YtmbjogpphegoaaaDoorW.PrintLast Go.Proofs.YtmbjogpphegoaaaDoorW.PrintMore
attribute [local go_sem] max2_int min2_int max_two min_two max_three min_three max_four min_four
set_option linter.unusedVariables false
set_option linter.unusedSimpArgs false

attribute [local go_sem high] eqA40
/-! ### peep_Rule: function 16 -/
theorem fld64 (a b : Int) (v : Value) (W : World) : (Instr.field 64 (.agg #[.int .i64 a, .int .i64 b, v]) 0).run Tryd.prog W = .ok (.int .i64 a) W := by kernel_rfl
attribute [local go_sem] fld64
def peep_Rule.j0 : Nat → List (S35) → Int → Int → Bool → Option (Int)
 | 0, _, _, _, _ => none
 | k + 1, x0, x1, x2, x30 => if x30 = true then (some 0) else (if 0 ≤ x1 then (if x1 < (x0.length : Int) then ((peep_look.f k ((rd_T35 x0 x1).f0)).bind fun bt409 => ((peep_sight_fits.f k ((rd_T35 x0 x1).f0) x2 bt409.1 bt409.2).bind fun bt416 => (some bt416.1))) else (none)) else (none))
def peep_Rule.f (k : Nat) (l0 : List (S35)) (a1 : Int) (a2 : Int) : Option (Int) := (code_Heights.f k l0 a1).bind fun bt403 => (if bt403.2 = true then (if a2 < 0 then (peep_Rule.j0 k l0 a1 a2 true) else (if 0 ≤ a1 then (if a1 < (l0.length : Int) then (peep_Rule.j0 k l0 a1 a2 (decide (a2 ≥ (((rd_T35 l0 a1).f0).length : Int)))) else (none)) else (none))) else (peep_Rule.j0 k l0 a1 a2 true))
theorem peep_Rule.mono_l : ∀ k, (∀ y0 y1 y2 y3, LeO (peep_Rule.j0 k y0 y1 y2 y3) (peep_Rule.j0 (k + 1) y0 y1 y2 y3))
 | 0 => fun _ _ _ _ r h => by simp [peep_Rule.j0] at h
 | k + 1 => by
  have ih0 := peep_Rule.mono_l k
  ·intro y0 y1 y2 y3
   unfold peep_Rule.j0
   repeat' (with_reducible first | apply ih0 | apply code_Heights.mono | apply peep_look.mono | apply peep_sight_fits.mono | exact LeO.refl _ | exact LeO.none _ | refine LeO.ite ?_ ?_ | refine LeO.bind ?_ (fun _ => ?_))
theorem peep_Rule.mono : ∀ a0 a1 a2 k, LeO (peep_Rule.f k a0 a1 a2) (peep_Rule.f (k + 1) a0 a1 a2) := by
 intro a0 a1 a2 k
 have ih0 := peep_Rule.mono_l k
 unfold peep_Rule.f
 repeat' (with_reducible first | apply ih0 | apply code_Heights.mono | apply peep_look.mono | apply peep_sight_fits.mono | exact LeO.refl _ | exact LeO.none _ | refine LeO.ite ?_ ?_ | refine LeO.bind ?_ (fun _ => ?_))
set_option maxHeartbeats 8000000 in
set_option maxRecDepth 100000 in
theorem peep_Rule.calls (k : Nat) (A0 : Option Addr) (c0 : Nat) (l0 : List (S35)) (a1 : Int) (a2 : Int) (r : Int) (w : World) (hr0 : Kd.C k35 w A0 l0.length l0) (hc0 : l0.length ≤ c0) (hLd : Laid w) (h : peep_Rule.f k l0 a1 a2 = some r) :
  Calls Tryd.prog 16 #[.slice A0 l0.length c0, .int .i64 a1, .int .i64 a2] w fun e w' => e = .returned (.int .i64 r) ∧ Below w.heap.size w w' := by
 have hu111 := Tryd.underlying111
 have hu64 := Tryd.underlying64
 have HR0 := Aside0.mk hr0
 have HC0 := Aside0.mk hc0
 clear hr0 hc0
 have HLd := Aside0.mk hLd
 clear hLd
 have HB := Aside0.mk (Below.refl w.heap.size w)
 have H : ((code_Heights.f k l0 a1).bind fun bt403 => (if bt403.2 = true then (if a2 < 0 then (peep_Rule.j0 k l0 a1 a2 true) else (if 0 ≤ a1 then (if a1 < (l0.length : Int) then (peep_Rule.j0 k l0 a1 a2 (decide (a2 ≥ (((rd_T35 l0 a1).f0).length : Int)))) else (none)) else (none))) else (peep_Rule.j0 k l0 a1 a2 true))) = some r := h
 clear h
 replace H := Option.bind_eq_some_iff.mp H
 obtain ⟨⟨t403, t404⟩, A40, H⟩ := H
 have A4 := Aside0.mk A40
 clear A40
 have HC5 := Aside0.mk H
 clear H
 go_enter Tryd.func16, Tryd.ntmps16
 go_upto_region 2 with (first | ((with_reducible refine gate_callee (f := 31) rfl ?_); refine goesL_ (some 12) rfl rfl Tryd.func31 (by kernel_rfl) rfl #[.slice A0 l0.length c0, .int .i64 a1] rfl (by (try simp only [List.map_toArray, List.map_cons, List.map_nil]); first | done | rfl | (simp only [List.length_drop, List.length_take]; rfl)) ?_; (with_reducible refine (code_Heights.calls k _ _ l0 a1 t403 t404 _ ?side1 ?side2 ?side3 A4.out).mono ?_); (case side1 => repeat (first | exact HR0.out | (with_reducible refine Kd.C_alloc ?_ _) | (with_reducible refine Kd.C_drewN ?_ _) | (with_reducible refine Kd.C_drew ?_))); (case side2 => exact HC0.out); (case side3 => exact Laid.below HLd.out bl); rintro e w6 ⟨v405, rfl, ho0, hb⟩; refine ⟨_, rfl, ?_⟩; have n_ := an2 (Kd.R_lower ho0 (below_size bl)) (below_step bl hb); clear HB; obtain ⟨HO406, HB⟩ := n_; (try clear hb); (try clear hb2); (try clear hk); (try clear hi); (try clear ho0)))
 (try simp only [Act.put, List.setIfInBounds_toArray, List.set_cons_zero, List.set_cons_succ])
 go_cut [30] (fun v30 wc => ∃ (kq : Nat) (x30_4 : Bool), v30 = .bool x30_4 ∧ Aside0 (peep_Rule.j0 kq l0 a1 a2 x30_4 = some r) ∧ Aside0 (kq ≤ k) ∧ Aside0 (Below w.heap.size w wc))
 case first =>
  have H := HC5.out
  clear HC5
  by_cases c7 : t404 = true
  ·subst c7
   have H1 : (if a2 < 0 then (peep_Rule.j0 k l0 a1 a2 true) else (if 0 ≤ a1 then (if a1 < (l0.length : Int) then (peep_Rule.j0 k l0 a1 a2 (decide (a2 ≥ (((rd_T35 l0 a1).f0).length : Int)))) else (none)) else (none))) = some r := by rw [if_pos rfl] at H; exact H
   clear H
   have H := H1
   clear H1
   by_cases c8 : a2 < 0
   ·rw [if_pos c8] at H
    have c8b0 := decide_eq_true c8
    clear c8
    (first | rw [c8b0] | (simp only [i64_w, i32_w]; rw [c8b0]) | skip)
    have H' := Aside0.mk H
    clear H
    go_wp2
    go_meet
    case rel => exact ⟨_, (true), pr, H', ⟨by first | omega | exact Nat.le_refl _⟩, ⟨bl⟩⟩
   ·rw [if_neg c8] at H
    have c8b0 := decide_eq_false c8
    clear c8
    (first | rw [c8b0] | (simp only [i64_w, i32_w]; rw [c8b0]) | skip)
    by_cases c9 : 0 ≤ a1
    ·rw [if_pos c9] at H
     have c9b0 := decide_eq_true c9
     clear c9
     by_cases c10 : a1 < (l0.length : Int)
     ·rw [if_pos c10] at H
      have c10b0 := decide_eq_true c10
      clear c10
      have H' := Aside0.mk H
      clear H
      have p407 : 0 ≤ (a1 : Int) := of_decide_eq_true pa
      have q407 : a1 < (l0.length : Int) := of_decide_eq_true pa
      obtain ⟨ad407, A407_0, c407_0, e407, hx407_0, hx407_1, hx407_2, hx407_3, hl407_0, hi407_0⟩ := at_T35 HR0.out a1 p407 q407
      cases e407
      replace hx407_0 := pc HB.out hx407_0
      replace hx407_1 := pc HB.out hx407_1
      replace hx407_2 := pc HB.out hx407_2
      replace hx407_3 := pc HB.out hx407_3
      have HR407_0 := Aside0.mk hi407_0
      have HC407_0 := Aside0.mk hl407_0
      clear hi407_0 hl407_0
      replace p407 := eq_true p407
      replace q407 := eq_true q407
      go_wp2
      go_meet
      case rel => exact ⟨_, (decide (a2 ≥ (((rd_T35 l0 a1).f0).length : Int))), pr, H', ⟨by first | omega | exact Nat.le_refl _⟩, ⟨bl⟩⟩
     ·rw [if_neg c10] at H
      exact absurd H (by simp)
    ·rw [if_neg c9] at H
     exact absurd H (by simp)
  ·replace c7 := Bool.eq_false_iff.mpr c7
   subst c7
   have H1 : (peep_Rule.j0 k l0 a1 a2 true) = some r := by rw [if_neg (show ¬ (false = true) by decide)] at H; exact H
   clear H
   have H := H1
   clear H1
   have H' := Aside0.mk H
   clear H
   go_wp2
   go_meet
   case rel => exact ⟨_, (true), pr, H', ⟨by first | omega | exact Nat.le_refl _⟩, ⟨bl⟩⟩
 case rest =>
  clear HC5
  try clear c1
  try clear p2
  try clear c3
  try clear c4
  try clear p4
  try clear q4
  try clear hx4
  try clear c7
  try clear c8
  try clear c8b0
  try clear c9
  try clear c9b0
  try clear c10
  try clear c10b0
  try clear hx407_0
  try clear hx407_1
  try clear hx407_2
  try clear hx407_3
  try clear p407
  try clear q407
  obtain ⟨kq, x30_4, rfl, HA, HJ4, HB⟩ := hcut
  cases kq with
  | zero => exact absurd HA.out (by simp [peep_Rule.j0])
  | succ kj4 =>
   have H := HA.out
   clear HA
   simp only [peep_Rule.j0] at H
   by_cases c11 : x30_4 = true
   ·subst c11
    have H1 : (some 0) = some r := by rw [if_pos rfl] at H; exact H
    clear H
    have H := H1
    clear H1
    obtain rfl := Option.some.inj H
    go_wp2
    go_ret
    exact ⟨pe, bl⟩
   ·replace c11 := Bool.eq_false_iff.mpr c11
    subst c11
    have H1 : (if 0 ≤ a1 then (if a1 < (l0.length : Int) then ((peep_look.f kj4 ((rd_T35 l0 a1).f0)).bind fun bt409 => ((peep_sight_fits.f kj4 ((rd_T35 l0 a1).f0) a2 bt409.1 bt409.2).bind fun bt416 => (some bt416.1))) else (none)) else (none)) = some r := by rw [if_neg (show ¬ (false = true) by decide)] at H; exact H
    clear H
    have H := H1
    clear H1
    by_cases c12 : 0 ≤ a1
    ·rw [if_pos c12] at H
     have c12b0 := decide_eq_true c12
     clear c12
     by_cases c13 : a1 < (l0.length : Int)
     ·rw [if_pos c13] at H
      have c13b0 := decide_eq_true c13
      clear c13
      replace H := Option.bind_eq_some_iff.mp H
      obtain ⟨⟨t409, t410⟩, A140, H⟩ := H
      have A14 := Aside0.mk A140
      clear A140
      replace H := Option.bind_eq_some_iff.mp H
      obtain ⟨⟨t416, t417, t418⟩, A150, H⟩ := H
      have A15 := Aside0.mk A150
      clear A150
      obtain rfl := Option.some.inj H
      have p408 : 0 ≤ (a1 : Int) := of_decide_eq_true pa
      have q408 : a1 < (l0.length : Int) := of_decide_eq_true pa
      obtain ⟨ad408, A408_0, c408_0, e408, hx408_0, hx408_1, hx408_2, hx408_3, hl408_0, hi408_0⟩ := at_T35 HR0.out a1 p408 q408
      cases e408
      replace hx408_0 := pc HB.out hx408_0
      replace hx408_1 := pc HB.out hx408_1
      replace hx408_2 := pc HB.out hx408_2
      replace hx408_3 := pc HB.out hx408_3
      have HR408_0 := Aside0.mk hi408_0
      have HC408_0 := Aside0.mk hl408_0
      clear hi408_0 hl408_0
      replace p408 := eq_true p408
      replace q408 := eq_true q408
      go_wp2_with (first | ((with_reducible refine gate_callee (f := 35) rfl ?_); refine goesL_ (some 36) rfl rfl Tryd.func35 (by kernel_rfl) rfl #[.slice A408_0 ((rd_T35 l0 a1).f0).length c408_0] rfl (by (try simp only [List.map_toArray, List.map_cons, List.map_nil]); first | done | rfl | (simp only [List.length_drop, List.length_take]; rfl)) ?_; (with_reducible refine (peep_look.calls kj4 _ _ ((rd_T35 l0 a1).f0) t409 t410 _ ?side1 ?side2 A14.out).mono ?_); (case side1 => exact cb HR408_0.out); (case side2 => exact HC408_0.out); rintro e w19 ⟨gb415, v411, v413, rfl, hgb, hbox, ho0, ho1, hb⟩; refine ⟨_, rfl, ?_⟩; have BKx_ := Aside0.mk hbox; have GWx_ : Aside0 (w.heap.size ≤ gb415) := Aside0.mk (Nat.le_trans (below_size bl) hgb); have n_ := an3 (Kd.R_lower ho0 (below_size bl)) (Kd.R_lower ho1 (below_size bl)) (below_step bl hb); clear HB; obtain ⟨HO412, HO414, HB⟩ := n_; have BK415 := BKx_; have GW415 := GWx_; have GE415 := GWx_; clear BKx_ GWx_; (try clear hbox); (try clear hgb); (try clear hb); (try clear hb2); (try clear hk); (try clear hi); (try clear ho0); (try clear ho1); obtain ⟨Ao17, co17, eo17⟩ := Kd.R_slice HO414.out; subst eo17; obtain ⟨Ao18, co18, eo18⟩ := Kd.R_slice HO412.out; subst eo18; obtain ⟨hcz20_0, hcz20_1, hcz20_2⟩ := bd3 BK415.out; have hfz20_0 := blk_frozen BK415.out 0; have hfz20_1 := blk_frozen BK415.out 1; have hfz20_2 := blk_frozen BK415.out 2) | ((with_reducible refine gate_callee (f := 36) rfl ?_); refine goesL_ (some 38) rfl rfl Tryd.func36 (by kernel_rfl) rfl #[.pointer (some ⟨gb415, 0, none⟩), .int .i64 a2] rfl (by (try simp only [List.map_toArray, List.map_cons, List.map_nil]); first | done | rfl | (simp only [List.length_drop, List.length_take]; rfl)) ?_; (with_reducible refine (peep_sight_fits.calls gb415 kj4 A408_0 c408_0 ((rd_T35 l0 a1).f0) a2 Ao18 co18 t409 Ao17 co17 t410 t416 t417 t418 _ ?side1 ?side2 ?side3 ?side4 ?side5 ?side6 ?sideF ?sideB A15.out).mono ?_); (case side1 => exact cb HR408_0.out); (case side2 => exact HC408_0.out); (case side3 => repeat (first | exact (Kd.R_reads' HO412.out).2.2 | (with_reducible refine Kd.C_alloc ?_ _) | (with_reducible refine Kd.C_drewN ?_ _) | (with_reducible refine Kd.C_drew ?_))); (case side4 => exact (Kd.R_reads' HO412.out).2.1); (case side5 => repeat (first | exact (Kd.R_reads' HO414.out).2.2 | (with_reducible refine Kd.C_alloc ?_ _) | (with_reducible refine Kd.C_drewN ?_ _) | (with_reducible refine Kd.C_drew ?_))); (case side6 => exact (Kd.R_reads' HO414.out).2.1); (case sideF => exact Kd.F_mono (Kd.F_bound (Kd.F_below (Kd.C_F k40_heap HR408_0.out) bl)) (fun k_ h_ => ⟨h_.2, fun e_ => absurd (Nat.lt_of_lt_of_le h_.1 GE415.out) (by rw [e_]; exact Nat.lt_irrefl _)⟩)); (case sideB => exact bk); rintro e w21 ⟨v419, rfl, ho0, hb⟩; refine ⟨_, rfl, ?_⟩; have n0_ := Aside0.mk (Kd.R_below (bR HO412.out) hb); have n1_ := Aside0.mk (Kd.R_below (bR HO414.out) hb); have n2_ := Aside0.mk (Kd.R_lower ho0 (below_size bl)); have n3_ := Aside0.mk (bu BK415.out hb); have n4_ := Aside0.mk (below_step bl hb); clear HO412 HO414; clear BK415 HB; have HO412 := n0_; have HO414 := n1_; have HO420 := n2_; have BK415 := n3_; have HB := n4_; clear n0_ n1_ n2_ n3_ n4_; (try clear hb); (try clear hb2); (try clear hk); (try clear hi); (try clear ho0)))
      go_ret
      exact ⟨pe, bl⟩
     ·rw [if_neg c13] at H
      exact absurd H (by simp)
    ·rw [if_neg c12] at H
     exact absurd H (by simp)

/-! ### parallaxlaw10_known: function 9 -/
def parallaxlaw10_known.f (k : Nat)  : Option (Bool) := (some (([(⟨(([(⟨1, 2, 0⟩ : S40), (⟨1, 3, 0⟩ : S40), (⟨9, 0, 0⟩ : S40), (⟨21, 0, 0⟩ : S40), (⟨17, 5, 0⟩ : S40), (⟨20, 0, 0⟩ : S40)] : List (S40))), 0, 0, false⟩ : S35)] : List (S35)) : List (S35))).bind fun y424 => ((peep_Make.f k y424 0).bind fun bt427 => ((peep_Rule.f k y424 0 0).bind fun t431 => (if t431 = 6 then ((peep_Rule.f k y424 0 4).bind fun t432 => (if t432 = 2 then (if bt427.2 = 0 then (if (bt427.1.length : Int) = 1 then (if 0 < (bt427.1.length : Int) then (if (((rd_T35 bt427.1 0).f0).length : Int) = 3 then (if 0 < (((rd_T35 bt427.1 0).f0).length : Int) then (if (((rd_T40 ((rd_T35 bt427.1 0).f0) 0).f0) == 1 && (((rd_T40 ((rd_T35 bt427.1 0).f0) 0).f1) == 6 && (((rd_T40 ((rd_T35 bt427.1 0).f0) 0).f2) == 0))) = true then (if 2 < (((rd_T35 bt427.1 0).f0).length : Int) then (some (((rd_T40 ((rd_T35 bt427.1 0).f0) 2).f0) == 20)) else (none)) else (some false)) else (none)) else (some false)) else (none)) else (some false)) else (some false)) else (some false))) else (some false))))
theorem parallaxlaw10_known.mono : ∀ k, LeO (parallaxlaw10_known.f k ) (parallaxlaw10_known.f (k + 1) ) := by
 intro  k
 unfold parallaxlaw10_known.f
 repeat' (with_reducible first | apply peep_Make.mono | apply peep_Rule.mono | exact LeO.refl _ | exact LeO.none _ | refine LeO.ite ?_ ?_ | refine LeO.bind ?_ (fun _ => ?_))
theorem parallaxlaw10_known.at_ : parallaxlaw10_known.f 60 = some true := by kernel_rfl
set_option maxHeartbeats 8000000 in
set_option maxRecDepth 100000 in
theorem parallaxlaw10_known.calls (k : Nat)  (r : Bool) (w : World) (hLd : Laid w) (h : parallaxlaw10_known.f k  = some r) :
  Calls Tryd.prog 9 #[] w fun e w' => e = .returned (.bool r) ∧ Below w.heap.size w w' := by
 have hr_ : r = true := by
  obtain ⟨m1_, h1_⟩ := Ev.of parallaxlaw10_known.mono h
  obtain ⟨m2_, h2_⟩ := Ev.of parallaxlaw10_known.mono parallaxlaw10_known.at_
  exact Option.some.inj ((h1_ (m1_ + m2_) (Nat.le_add_right _ _)).symm.trans (h2_ (m1_ + m2_) (Nat.le_add_left _ _)))
 have hu40 := Tryd.underlying40
 have hu35 := Tryd.underlying35
 have HLd := Aside0.mk hLd
 clear hLd
 have HB := Aside0.mk (Below.refl w.heap.size w)
 have H : ((some (([(⟨(([(⟨1, 2, 0⟩ : S40), (⟨1, 3, 0⟩ : S40), (⟨9, 0, 0⟩ : S40), (⟨21, 0, 0⟩ : S40), (⟨17, 5, 0⟩ : S40), (⟨20, 0, 0⟩ : S40)] : List (S40))), 0, 0, false⟩ : S35)] : List (S35)) : List (S35))).bind fun y424 => ((peep_Make.f k y424 0).bind fun bt427 => ((peep_Rule.f k y424 0 0).bind fun t431 => (if t431 = 6 then ((peep_Rule.f k y424 0 4).bind fun t432 => (if t432 = 2 then (if bt427.2 = 0 then (if (bt427.1.length : Int) = 1 then (if 0 < (bt427.1.length : Int) then (if (((rd_T35 bt427.1 0).f0).length : Int) = 3 then (if 0 < (((rd_T35 bt427.1 0).f0).length : Int) then (if (((rd_T40 ((rd_T35 bt427.1 0).f0) 0).f0) == 1 && (((rd_T40 ((rd_T35 bt427.1 0).f0) 0).f1) == 6 && (((rd_T40 ((rd_T35 bt427.1 0).f0) 0).f2) == 0))) = true then (if 2 < (((rd_T35 bt427.1 0).f0).length : Int) then (some (((rd_T40 ((rd_T35 bt427.1 0).f0) 2).f0) == 20)) else (none)) else (some false)) else (none)) else (some false)) else (none)) else (some false)) else (some false)) else (some false))) else (some false))))) = some r := h
 clear h
 obtain ⟨y421, hy421⟩ : ∃ y_ : List (S40), y_ = (([(⟨1, 2, 0⟩ : S40), (⟨1, 3, 0⟩ : S40), (⟨9, 0, 0⟩ : S40), (⟨21, 0, 0⟩ : S40), (⟨17, 5, 0⟩ : S40), (⟨20, 0, 0⟩ : S40)] : List (S40))) := ⟨_, rfl⟩
 (first | replace H := hs hy421 H | rw [← hy421] at H)
 have Ny421 := Aside0.mk hy421
 clear hy421
 obtain ⟨y424, hy424⟩ : ∃ y_ : List (S35), y_ = (([(⟨y421, 0, 0, false⟩ : S35)] : List (S35))) := ⟨_, rfl⟩
 (first | replace H := hs hy424 H | rw [← hy424] at H)
 have Ny424 := Aside0.mk hy424
 clear hy424
 replace H := Option.bind_eq_some_iff.mp H
 obtain ⟨⟨t427, t430⟩, A10, H⟩ := H
 have A1 := Aside0.mk A10
 clear A10
 replace H := Option.bind_eq_some_iff.mp H
 obtain ⟨t431, A20, H⟩ := H
 have A2 := Aside0.mk A20
 clear A20
 by_cases c3 : t431 = 6
 ·rw [if_pos c3] at H
  have c3b0 : (t431 == 6) = true := beq_iff_eq.mpr c3
  have c3b1 : (t431 != 6) = false := bne_eq_false_iff_eq.mpr c3
  clear c3
  replace H := Option.bind_eq_some_iff.mp H
  obtain ⟨t432, A40, H⟩ := H
  have A4 := Aside0.mk A40
  clear A40
  by_cases c5 : t432 = 2
  ·rw [if_pos c5] at H
   have c5b0 : (t432 == 2) = true := beq_iff_eq.mpr c5
   have c5b1 : (t432 != 2) = false := bne_eq_false_iff_eq.mpr c5
   clear c5
   by_cases c6 : t430 = 0
   ·rw [if_pos c6] at H
    have c6b0 : (t430 == 0) = true := beq_iff_eq.mpr c6
    have c6b1 : (t430 != 0) = false := bne_eq_false_iff_eq.mpr c6
    clear c6
    by_cases c7 : (t427.length : Int) = 1
    ·rw [if_pos c7] at H
     have c7b0 : ((t427.length : Int) == 1) = true := beq_iff_eq.mpr c7
     have c7b1 : ((t427.length : Int) != 1) = false := bne_eq_false_iff_eq.mpr c7
     clear c7
     by_cases c8 : 0 < (t427.length : Int)
     ·rw [if_pos c8] at H
      have c8b0 := decide_eq_true c8
      have c8b1 : decide (0 < t427.length) = true := decide_eq_true (by omega)
      clear c8
      by_cases c9 : (((rd_T35 t427 0).f0).length : Int) = 3
      ·rw [if_pos c9] at H
       have c9b0 : ((((rd_T35 t427 0).f0).length : Int) == 3) = true := beq_iff_eq.mpr c9
       have c9b1 : ((((rd_T35 t427 0).f0).length : Int) != 3) = false := bne_eq_false_iff_eq.mpr c9
       clear c9
       by_cases c10 : 0 < (((rd_T35 t427 0).f0).length : Int)
       ·rw [if_pos c10] at H
        have c10b0 := decide_eq_true c10
        have c10b1 : decide (0 < ((rd_T35 t427 0).f0).length) = true := decide_eq_true (by omega)
        clear c10
        by_cases c11 : (((rd_T40 ((rd_T35 t427 0).f0) 0).f0) == 1 && (((rd_T40 ((rd_T35 t427 0).f0) 0).f1) == 6 && (((rd_T40 ((rd_T35 t427 0).f0) 0).f2) == 0))) = true
        ·rw [if_pos c11] at H
         have c11b0 : (((rd_T40 ((rd_T35 t427 0).f0) 0).f0) == 1 && (((rd_T40 ((rd_T35 t427 0).f0) 0).f1) == 6 && (((rd_T40 ((rd_T35 t427 0).f0) 0).f2) == 0))) = true := c11
         (try (have c11b1 : decide (((rd_T40 ((rd_T35 t427 0).f0) 0).f0) = 1 && (((rd_T40 ((rd_T35 t427 0).f0) 0).f1) == 6 && (((rd_T40 ((rd_T35 t427 0).f0) 0).f2) == 0))) = true := by simpa using c11))
         (try (have c11b2 : (((rd_T40 ((rd_T35 t427 0).f0) 0).f0) == 1 && (((rd_T40 ((rd_T35 t427 0).f0) 0).f1) == 6 && (((rd_T40 ((rd_T35 t427 0).f0) 0).f2) == 0))) = true := by simpa using c11))
         clear c11
         by_cases c12 : 2 < (((rd_T35 t427 0).f0).length : Int)
         ·rw [if_pos c12] at H
          have c12b0 := decide_eq_true c12
          have c12b1 : decide (2 < ((rd_T35 t427 0).f0).length) = true := decide_eq_true (by omega)
          clear c12
          obtain rfl := Option.some.inj H
          go_enter Tryd.func9, Tryd.ntmps9
          go_wp2_with (first | ((with_reducible refine gate_dst (N := 10) rfl ?_); (try (refine gate_guard (by rfl) ?_; dsimp only)); refine Kd.R_lit k40 _ 40 ?hg (N := 10) ?hd (xs := ([(⟨1, 2, 0⟩ : S40), (⟨1, 3, 0⟩ : S40), (⟨9, 0, 0⟩ : S40), (⟨21, 0, 0⟩ : S40), (⟨17, 5, 0⟩ : S40), (⟨20, 0, 0⟩ : S40)] : List (S40))) (inner := [.int .i64 1, .int .i64 2, .int .i64 0, .int .i64 1, .int .i64 3, .int .i64 0, .int .i64 9, .int .i64 0, .int .i64 0, .int .i64 21, .int .i64 0, .int .i64 0, .int .i64 17, .int .i64 5, .int .i64 0, .int .i64 20, .int .i64 0, .int .i64 0]) (ok := fun _ => True) (okp := fun _ => True) ?hr ?hp (fun _ hk => hk) trivial (Below.refl _ _) (Nat.le_refl _) (by simp) ?_; (case hd => rfl); (case hg => rfl); (case hr => first | (go_simp; done) | (go_simp; rfl)); (case hp => exact (Reps.c3 (show Kd.M k40 _ _ _ (⟨1, 2, 0⟩ : S40) [.int .i64 1, .int .i64 2, .int .i64 0] from (k40_mkM _ _ _ (⟨1, 2, 0⟩ : S40) )) (Reps.c3 (show Kd.M k40 _ _ _ (⟨1, 3, 0⟩ : S40) [.int .i64 1, .int .i64 3, .int .i64 0] from (k40_mkM _ _ _ (⟨1, 3, 0⟩ : S40) )) (Reps.c3 (show Kd.M k40 _ _ _ (⟨9, 0, 0⟩ : S40) [.int .i64 9, .int .i64 0, .int .i64 0] from (k40_mkM _ _ _ (⟨9, 0, 0⟩ : S40) )) (Reps.c3 (show Kd.M k40 _ _ _ (⟨21, 0, 0⟩ : S40) [.int .i64 21, .int .i64 0, .int .i64 0] from (k40_mkM _ _ _ (⟨21, 0, 0⟩ : S40) )) (Reps.c3 (show Kd.M k40 _ _ _ (⟨17, 5, 0⟩ : S40) [.int .i64 17, .int .i64 5, .int .i64 0] from (k40_mkM _ _ _ (⟨17, 5, 0⟩ : S40) )) (Reps.c3 (show Kd.M k40 _ _ _ (⟨20, 0, 0⟩ : S40) [.int .i64 20, .int .i64 0, .int .i64 0] from (k40_mkM _ _ _ (⟨20, 0, 0⟩ : S40) )) (Reps.none _ _)))))))); intro v422 w13 ho14 hb hg_ hnew_; clear hg_ hnew_; (first | rw [← Ny421.out] at ho14 | (simp only [Int.reduceToNat] at ho14; rw [← Ny421.out] at ho14)); have n_ := an2 (Kd.R_lower ho14 (below_size bl)) (below_step bl hb); clear HB; obtain ⟨HO423, HB⟩ := n_; clear hb ho14; obtain ⟨Ao15, co15, eo15⟩ := Kd.R_slice HO423.out; subst eo15) | ((with_reducible refine gate_dst (N := 12) rfl ?_); (try (refine gate_guard (by rfl) ?_; dsimp only)); refine Kd.N_lit k35 _ 35 ?hg (N' := 12) ?hd (xs := ([(⟨y421, 0, 0, false⟩ : S35)] : List (S35))) (inner := [.slice Ao15 y421.length co15, .int .i64 0, .int .i64 0, .bool false]) (ok := (fun _ => True)) (okp := (fun _ => True)) ?hr ?hp (fun _ hk => hk) ((show ∀ k_, w13.heap.size ≤ k_ → (fun _ => True) k_ from fun k_ hk => trivial) _ (Nat.le_refl _)) (Below.refl _ _) (Nat.le_refl _) (by simp) ?_; (case hd => rfl); (case hg => rfl); (case hr => first | (go_simp; done) | (go_simp; rfl)); (case hp => exact (Reps.c4 (show Kd.FK k35 _ _ (⟨y421, 0, 0, false⟩ : S35) [.slice Ao15 y421.length co15, .int .i64 0, .int .i64 0, .bool false] from (k35_mkF _ _ (⟨y421, 0, 0, false⟩ : S35) (Kd.R_reads' (Kd.R_mono (ok' := (fun _ => True)) (HO423.out) (fun k_ hk => trivial))).2.1 (Kd.R_F (Kd.R_mono (ok' := (fun _ => True)) (HO423.out) (fun k_ hk => trivial))))) (Reps.none _ _))); intro v425 w16 ho17 hb hg_ hnew_; clear hg_ hnew_; (first | rw [← Ny424.out] at ho17 | (simp only [Int.reduceToNat] at ho17; rw [← Ny424.out] at ho17)); have n_ := an2 (Kd.N_lower ho17 (below_size bl)) (below_step bl hb); clear HB HO423; obtain ⟨HO426, HB⟩ := n_; clear hb ho17; obtain ⟨Ao18, co18, eo18⟩ := Kd.N_slice HO426.out; subst eo18) | ((with_reducible refine gate_callee (f := 10) rfl ?_); refine goesL_ (some 15) rfl rfl Tryd.func10 (by kernel_rfl) rfl #[.slice Ao18 y424.length co18, .int .i64 0] rfl (by (try simp only [List.map_toArray, List.map_cons, List.map_nil]); first | done | rfl | (simp only [List.length_drop, List.length_take]; rfl)) ?_; (with_reducible refine (peep_Make.calls k _ _ y424 0 t427 t430 _ ?side1 ?side2 ?side3 A1.out).mono ?_); (case side1 => repeat (first | exact (Kd.N_reads' HO426.out).2.2 | (with_reducible refine Kd.C_alloc ?_ _) | (with_reducible refine Kd.C_drewN ?_ _) | (with_reducible refine Kd.C_drew ?_))); (case side2 => exact (Kd.N_reads' HO426.out).2.1); (case side3 => exact Laid.below HLd.out bl); rintro e w19 ⟨v428, rfl, ho0, hb⟩; refine ⟨_, rfl, ?_⟩; have n_ := an3 (Kd.N_elder' (bN HO426.out) (Kd.N_base ho0) hb) (Kd.N_lower (Kd.N_mono (ok' := fun k_ => some k_ ≠ (.slice Ao18 y424.length co18 : Value).ownBlock) ho0 (fun k_ hk_ => (Kd.fresh' (Kd.N_lt (bN HO426.out)) k_ hk_))) (below_size bl)) (below_step bl hb); clear HO426 HB; obtain ⟨HO426, HO429, HB⟩ := n_; (try clear hb); (try clear hb2); (try clear hk); (try clear hi); (try clear ho0)) | ((with_reducible refine gate_callee (f := 16) rfl ?_); refine goesL_ (some 19) rfl rfl Tryd.func16 (by kernel_rfl) rfl #[.slice Ao18 y424.length co18, .int .i64 0, .int .i64 0] rfl (by (try simp only [List.map_toArray, List.map_cons, List.map_nil]); first | done | rfl | (simp only [List.length_drop, List.length_take]; rfl)) ?_; (with_reducible refine (peep_Rule.calls k _ _ y424 0 0 t431 _ ?side1 ?side2 ?side3 A2.out).mono ?_); (case side1 => repeat (first | exact (Kd.N_reads' HO426.out).2.2 | (with_reducible refine Kd.C_alloc ?_ _) | (with_reducible refine Kd.C_drewN ?_ _) | (with_reducible refine Kd.C_drew ?_))); (case side2 => exact (Kd.N_reads' HO426.out).2.1); (case side3 => exact Laid.below HLd.out bl); rintro e w20 ⟨rfl, hb⟩; refine ⟨_, rfl, ?_⟩; have n_ := an3 (Kd.N_below (bN HO426.out) hb) (Kd.N_below (bN HO429.out) hb) (below_step bl hb); clear HO426 HO429 HB; obtain ⟨HO426, HO429, HB⟩ := n_; (try clear hb); (try clear hb2); (try clear hk); (try clear hi)) | (go_at_call 16; (with_reducible refine (peep_Rule.calls k _ _ y424 0 4 t432 _ ?side1 ?side2 ?side3 A4.out).mono ?_); (case side1 => repeat (first | exact (Kd.N_reads' HO426.out).2.2 | (with_reducible refine Kd.C_alloc ?_ _) | (with_reducible refine Kd.C_drewN ?_ _) | (with_reducible refine Kd.C_drew ?_))); (case side2 => exact (Kd.N_reads' HO426.out).2.1); (case side3 => exact Laid.below HLd.out bl); rintro e w21 ⟨rfl, hb⟩; have n_ := an3 (Kd.N_below (bN HO426.out) hb) (Kd.N_below (bN HO429.out) hb) (below_step bl hb); clear HO426 HO429 HB; obtain ⟨HO426, HO429, HB⟩ := n_; (try clear hb); (try clear hb2); (try clear hk); (try clear hi); obtain ⟨Ao22, co22, eo22⟩ := Kd.N_slice HO429.out; subst eo22; have p433 : 0 ≤ (0 : Int) := (by omega); have q433 : 0 < (t427.length : Int) := of_decide_eq_true pa; obtain ⟨ad433, A433_0, c433_0, e433, hx433_0, hx433_1, hx433_2, hx433_3, hl433_0, hi433_0⟩ := at_T35 (Kd.N_reads' HO429.out).2.2 0 p433 q433; cases e433; obtain ⟨ce433, hce433, hMe433, hcc433⟩ := Kd.N_get HO429.out z35 0 p433 (by first | exact q433 | exact of_decide_eq_true pa | (have e_ := (Kd.N_reads' HO429.out).1; omega)); obtain ⟨ua433_0, uc433_0, rfl, ul433_0, ge433_0⟩ := k35_openF hMe433; have hv433_0 := hcc433 0 _ rfl; rw [Nat.add_zero] at hv433_0; replace hv433_0 := Option.some.inj (hv433_0.symm.trans hx433_0); injection hv433_0 with hva_ hvn_ hvc_; rw [hva_] at ge433_0; rw [hvc_] at ul433_0; have HL433_0 := Aside0.mk (show Kd.V k40 40 _ w.heap.size _ _ ((rd_T35 t427 0).f0) from Kd.V_mk ul433_0 ge433_0); clear hva_ hvn_ hvc_ ge433_0 ul433_0; clear hcc433 hce433; have qi433 : (0 < t427.length) = True := eq_true (by omega); (try rw [show ((0 : Int)).toNat = 0 from rfl] at hx433_0); (try rw [show 0 * 4 = 0 from rfl] at hx433_0); (try rw [Addr.add_zero'] at hx433_0); (try rw [show ((0 : Int)).toNat = 0 from rfl] at hx433_1); (try rw [show 0 * 4 = 0 from rfl] at hx433_1); (try rw [Addr.add_zero'] at hx433_1); (try rw [show ((0 : Int)).toNat = 0 from rfl] at hx433_2); (try rw [show 0 * 4 = 0 from rfl] at hx433_2); (try rw [Addr.add_zero'] at hx433_2); (try rw [show ((0 : Int)).toNat = 0 from rfl] at hx433_3); (try rw [show 0 * 4 = 0 from rfl] at hx433_3); (try rw [Addr.add_zero'] at hx433_3); have HR433_0 := Aside0.mk hi433_0; have HC433_0 := Aside0.mk hl433_0; clear hi433_0 hl433_0; replace p433 := eq_true p433; replace q433 := eq_true q433; have p434 : 0 ≤ (0 : Int) := (by omega); have q434 : 0 < (t427.length : Int) := of_decide_eq_true pa; obtain ⟨ad434, A434_0, c434_0, e434, hx434_0, hx434_1, hx434_2, hx434_3, hl434_0, hi434_0⟩ := at_T35 (Kd.N_reads' HO429.out).2.2 0 p434 q434; obtain rfl : ad433 = ad434 := (by injection e434); obtain ⟨ce434, hce434, hMe434, hcc434⟩ := Kd.N_get HO429.out z35 0 p434 (by first | exact q434 | exact of_decide_eq_true pa | (have e_ := (Kd.N_reads' HO429.out).1; omega)); obtain ⟨ua434_0, uc434_0, rfl, ul434_0, ge434_0⟩ := k35_openF hMe434; have hv434_0 := hcc434 0 _ rfl; rw [Nat.add_zero] at hv434_0; replace hv434_0 := Option.some.inj (hv434_0.symm.trans hx434_0); injection hv434_0 with hva_ hvn_ hvc_; rw [hva_] at ge434_0; rw [hvc_] at ul434_0; have HL434_0 := Aside0.mk (show Kd.V k40 40 _ w.heap.size _ _ ((rd_T35 t427 0).f0) from Kd.V_mk ul434_0 ge434_0); clear hva_ hvn_ hvc_ ge434_0 ul434_0; clear hcc434 hce434; have qi434 : (0 < t427.length) = True := eq_true (by omega); (try rw [show ((0 : Int)).toNat = 0 from rfl] at hx434_0); (try rw [show 0 * 4 = 0 from rfl] at hx434_0); (try rw [Addr.add_zero'] at hx434_0); (try rw [show ((0 : Int)).toNat = 0 from rfl] at hx434_1); (try rw [show 0 * 4 = 0 from rfl] at hx434_1); (try rw [Addr.add_zero'] at hx434_1); (try rw [show ((0 : Int)).toNat = 0 from rfl] at hx434_2); (try rw [show 0 * 4 = 0 from rfl] at hx434_2); (try rw [Addr.add_zero'] at hx434_2); (try rw [show ((0 : Int)).toNat = 0 from rfl] at hx434_3); (try rw [show 0 * 4 = 0 from rfl] at hx434_3); (try rw [Addr.add_zero'] at hx434_3); have HR434_0 := Aside0.mk hi434_0; have HC434_0 := Aside0.mk hl434_0; clear hi434_0 hl434_0; replace p434 := eq_true p434; replace q434 := eq_true q434; have ea_ := Option.some.inj (hx433_0.symm.trans hx434_0); injection ea_ with ea_ en_ ec_; subst ea_; subst ec_; clear en_; have p435 : 0 ≤ (0 : Int) := (by omega); have q435 : 0 < (((rd_T35 t427 0).f0).length : Int) := of_decide_eq_true pa; obtain ⟨ad435, e435, hx435_0, hx435_1, hx435_2⟩ := at_T40 (by repeat (first | (with_reducible exact HR434_0.out) | (with_reducible refine Kd.C_alloc ?_ _) | (with_reducible refine Kd.C_drewN ?_ _) | (with_reducible refine Kd.C_drew ?_) | exact HR434_0.out)) 0 p435 q435; cases e435; have qi435 : (0 < ((rd_T35 t427 0).f0).length) = True := eq_true (by omega); (try rw [show ((0 : Int)).toNat = 0 from rfl] at hx435_0); (try rw [show 0 * 3 = 0 from rfl] at hx435_0); (try rw [Addr.add_zero'] at hx435_0); (try rw [show ((0 : Int)).toNat = 0 from rfl] at hx435_1); (try rw [show 0 * 3 = 0 from rfl] at hx435_1); (try rw [Addr.add_zero'] at hx435_1); (try rw [show ((0 : Int)).toNat = 0 from rfl] at hx435_2); (try rw [show 0 * 3 = 0 from rfl] at hx435_2); (try rw [Addr.add_zero'] at hx435_2); replace p435 := eq_true p435; replace q435 := eq_true q435; have p436 : 0 ≤ (0 : Int) := (by omega); have q436 : 0 < (t427.length : Int) := of_decide_eq_true pa; obtain ⟨ad436, A436_0, c436_0, e436, hx436_0, hx436_1, hx436_2, hx436_3, hl436_0, hi436_0⟩ := at_T35 (Kd.N_reads' HO429.out).2.2 0 p436 q436; obtain rfl : ad433 = ad436 := (by injection e436); obtain ⟨ce436, hce436, hMe436, hcc436⟩ := Kd.N_get HO429.out z35 0 p436 (by first | exact q436 | exact of_decide_eq_true pa | (have e_ := (Kd.N_reads' HO429.out).1; omega)); obtain ⟨ua436_0, uc436_0, rfl, ul436_0, ge436_0⟩ := k35_openF hMe436; have hv436_0 := hcc436 0 _ rfl; rw [Nat.add_zero] at hv436_0; replace hv436_0 := Option.some.inj (hv436_0.symm.trans hx436_0); injection hv436_0 with hva_ hvn_ hvc_; rw [hva_] at ge436_0; rw [hvc_] at ul436_0; have HL436_0 := Aside0.mk (show Kd.V k40 40 _ w.heap.size _ _ ((rd_T35 t427 0).f0) from Kd.V_mk ul436_0 ge436_0); clear hva_ hvn_ hvc_ ge436_0 ul436_0; clear hcc436 hce436; have qi436 : (0 < t427.length) = True := eq_true (by omega); (try rw [show ((0 : Int)).toNat = 0 from rfl] at hx436_0); (try rw [show 0 * 4 = 0 from rfl] at hx436_0); (try rw [Addr.add_zero'] at hx436_0); (try rw [show ((0 : Int)).toNat = 0 from rfl] at hx436_1); (try rw [show 0 * 4 = 0 from rfl] at hx436_1); (try rw [Addr.add_zero'] at hx436_1); (try rw [show ((0 : Int)).toNat = 0 from rfl] at hx436_2); (try rw [show 0 * 4 = 0 from rfl] at hx436_2); (try rw [Addr.add_zero'] at hx436_2); (try rw [show ((0 : Int)).toNat = 0 from rfl] at hx436_3); (try rw [show 0 * 4 = 0 from rfl] at hx436_3); (try rw [Addr.add_zero'] at hx436_3); have HR436_0 := Aside0.mk hi436_0; have HC436_0 := Aside0.mk hl436_0; clear hi436_0 hl436_0; replace p436 := eq_true p436; replace q436 := eq_true q436; have ea_ := Option.some.inj (hx433_0.symm.trans hx436_0); injection ea_ with ea_ en_ ec_; subst ea_; subst ec_; clear en_; have p437 : 0 ≤ (2 : Int) := (by omega); have q437 : 2 < (((rd_T35 t427 0).f0).length : Int) := of_decide_eq_true pa; obtain ⟨ad437, e437, hx437_0, hx437_1, hx437_2⟩ := at_T40 (by repeat (first | (with_reducible exact HR436_0.out) | (with_reducible refine Kd.C_alloc ?_ _) | (with_reducible refine Kd.C_drewN ?_ _) | (with_reducible refine Kd.C_drew ?_) | exact HR436_0.out)) 2 p437 q437; cases e437; (try simp only [show (2 : Int).toNat = 2 from rfl, Nat.reduceMul, Nat.reduceEqDiff, Go.Addr.add, ↓reduceIte] at hx437_0); (try simp only [show (2 : Int).toNat = 2 from rfl, Nat.reduceMul, Nat.reduceEqDiff, Go.Addr.add, ↓reduceIte] at hx437_1); (try simp only [show (2 : Int).toNat = 2 from rfl, Nat.reduceMul, Nat.reduceEqDiff, Go.Addr.add, ↓reduceIte] at hx437_2); have qi437 : (2 < ((rd_T35 t427 0).f0).length) = True := eq_true (by omega); (try rw [show ((2 : Int)).toNat = 2 from rfl] at hx437_0); (try rw [show 2 * 3 = 6 from rfl] at hx437_0); (try rw [show ((2 : Int)).toNat = 2 from rfl] at hx437_1); (try rw [show 2 * 3 = 6 from rfl] at hx437_1); (try rw [show ((2 : Int)).toNat = 2 from rfl] at hx437_2); (try rw [show 2 * 3 = 6 from rfl] at hx437_2); replace p437 := eq_true p437; replace q437 := eq_true q437))
          go_ret
          exact ⟨pe, bl⟩
         ·rw [if_neg c12] at H
          exact absurd H (by simp)
        ·rw [if_neg c11] at H
         have c11b0 : (((rd_T40 ((rd_T35 t427 0).f0) 0).f0) == 1 && (((rd_T40 ((rd_T35 t427 0).f0) 0).f1) == 6 && (((rd_T40 ((rd_T35 t427 0).f0) 0).f2) == 0))) = false := by simpa using c11
         (try (have c11b1 : decide (((rd_T40 ((rd_T35 t427 0).f0) 0).f0) = 1 && (((rd_T40 ((rd_T35 t427 0).f0) 0).f1) == 6 && (((rd_T40 ((rd_T35 t427 0).f0) 0).f2) == 0))) = false := by simpa using c11))
         (try (have c11b2 : (((rd_T40 ((rd_T35 t427 0).f0) 0).f0) == 1 && (((rd_T40 ((rd_T35 t427 0).f0) 0).f1) == 6 && (((rd_T40 ((rd_T35 t427 0).f0) 0).f2) == 0))) = false := by simpa using c11))
         (try (have c11b3 : ¬ (((rd_T40 ((rd_T35 t427 0).f0) 0).f0) = 1 && (((rd_T40 ((rd_T35 t427 0).f0) 0).f1) == 6 && (((rd_T40 ((rd_T35 t427 0).f0) 0).f2) == 0))) := by simpa using c11))
         clear c11
         rw [hr_] at H; exact absurd H (by simp)
       ·rw [if_neg c10] at H
        exact absurd H (by simp)
      ·rw [if_neg c9] at H
       have c9b0 : ((((rd_T35 t427 0).f0).length : Int) == 3) = false := beq_eq_false_iff_ne.mpr c9
       have c9b1 : ((((rd_T35 t427 0).f0).length : Int) != 3) = true := bne_iff_ne.mpr c9
       rw [hr_] at H; exact absurd H (by simp)
     ·rw [if_neg c8] at H
      exact absurd H (by simp)
    ·rw [if_neg c7] at H
     have c7b0 : ((t427.length : Int) == 1) = false := beq_eq_false_iff_ne.mpr c7
     have c7b1 : ((t427.length : Int) != 1) = true := bne_iff_ne.mpr c7
     rw [hr_] at H; exact absurd H (by simp)
   ·rw [if_neg c6] at H
    have c6b0 : (t430 == 0) = false := beq_eq_false_iff_ne.mpr c6
    have c6b1 : (t430 != 0) = true := bne_iff_ne.mpr c6
    rw [hr_] at H; exact absurd H (by simp)
  ·rw [if_neg c5] at H
   have c5b0 : (t432 == 2) = false := beq_eq_false_iff_ne.mpr c5
   have c5b1 : (t432 != 2) = true := bne_iff_ne.mpr c5
   rw [hr_] at H; exact absurd H (by simp)
 ·rw [if_neg c3] at H
  have c3b0 : (t431 == 6) = false := beq_eq_false_iff_ne.mpr c3
  have c3b1 : (t431 != 6) = true := bne_iff_ne.mpr c3
  rw [hr_] at H; exact absurd H (by simp)

end Go.Proofs.YtmbjogpphegoaaaDoor.P
