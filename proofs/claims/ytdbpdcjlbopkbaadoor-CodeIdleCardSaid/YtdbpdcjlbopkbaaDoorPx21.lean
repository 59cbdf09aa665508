-- Written by a program of this session (its own turn of the print: wip/patch_print.py), not by hand. Lean checks it.
import Derived.Test.YtdbpdcjlbopkbaaDoorWAll
import Derived.Test.YtdbpdcjlbopkbaaDoorPx0
import Derived.Test.YtdbpdcjlbopkbaaDoorPx20
namespace Go.Proofs.YtdbpdcjlbopkbaaDoor.P
open Go.RowKit Go.Proofs.YtdbpdcjlbopkbaaDoorW.PrintWords Go.Proofs.YtdbpdcjlbopkbaaDoorW.PrintLast Go.Proofs.YtdbpdcjlbopkbaaDoorW.PrintMore
attribute [local go_sem] max2_int min2_int max_two min_two max_three min_three max_four min_four   -- for this text's walks alone
set_option linter.unusedVariables false
set_option linter.unusedSimpArgs false

/-! ### parallaxref08_Heights: function 22 -/
mutual
def parallaxref08_Heights.j0 : Nat → List (S33) → Int → Bool → Option (List Int × Bool)
 | 0, _, _, _ => none
 | k + 1, x0, x1, x32 => if x32 = true then (some (([] : List Int), false)) else (if 0 ≤ x1 then (if x1 < (x0.length : Int) then (parallaxref08_Heights.l0 k x0 ([] : List Int) 0 ((rd_T33 x0 x1).f0) ((rd_T33 x0 x1).f1) ((rd_T33 x0 x1).f2) ((rd_T33 x0 x1).f3)) else (none)) else (none))
def parallaxref08_Heights.l0 : Nat → List (S33) → List Int → Int → List (S23) → Int → Int → Bool → Option (List Int × Bool)
 | 0, _, _, _, _, _, _, _ => none
 | k + 1, x0, x7, x8, x386000, x386001, x386002, x386003 => if x8 < (x386000.length : Int) then (if x7.length < 17592186044416 then (parallaxref08_Heights.l0 k x0 (x7 ++ [(-1)]) (wrap64 (x8 + 1)) x386000 x386001 x386002 x386003) else (none)) else (if 0 < (x7.length : Int) then (parallaxref08_Heights.l1 k x0 (x7.set (0 : Int).toNat 0) true x386000 x386001 x386002 x386003) else (none))
def parallaxref08_Heights.l1 : Nat → List (S33) → List Int → Bool → List (S23) → Int → Int → Bool → Option (List Int × Bool)
 | 0, _, _, _, _, _, _, _ => none
 | k + 1, x0, x7, x9, x386000, x386001, x386002, x386003 => if x9 = true then (parallaxref08_Heights.l2 k x0 x7 false 0 x386000 x386001 x386002 x386003) else (some (x7, true))
def parallaxref08_Heights.l2 : Nat → List (S33) → List Int → Bool → Int → List (S23) → Int → Int → Bool → Option (List Int × Bool)
 | 0, _, _, _, _, _, _, _, _ => none
 | k + 1, x0, x7, x9, x10, x386000, x386001, x386002, x386003 => if x10 < (x7.length : Int) then (if 0 ≤ x10 then (if (rd x7 x10) < 0 then (parallaxref08_Heights.l2 k x0 x7 x9 (wrap64 (x10 + 1)) x386000 x386001 x386002 x386003) else (if x10 < (x386000.length : Int) then ((parallaxref08_effect.f x0 ((rd_T23 x386000 x10).f0) ((rd_T23 x386000 x10).f1) ((rd_T23 x386000 x10).f2)).bind fun bt393 => (if (rd x7 x10) < bt393.1 then (parallaxref08_Heights.j4 k x0 x7 x9 x10 bt393.1 bt393.2 true x386000 x386001 x386002 x386003 ((rd_T23 x386000 x10).f0) ((rd_T23 x386000 x10).f1) ((rd_T23 x386000 x10).f2)) else (if (rd x7 x10) > 4096 then (parallaxref08_Heights.j4 k x0 x7 x9 x10 bt393.1 bt393.2 true x386000 x386001 x386002 x386003 ((rd_T23 x386000 x10).f0) ((rd_T23 x386000 x10).f1) ((rd_T23 x386000 x10).f2)) else (if ((rd_T23 x386000 x10).f0) = 24 then (if (rd x7 x10) = 0 then (if ((rd_T23 x386000 x10).f0) = 20 then (parallaxref08_Heights.j4 k x0 x7 x9 x10 bt393.1 bt393.2 ((rd x7 x10) != bt393.1) x386000 x386001 x386002 x386003 ((rd_T23 x386000 x10).f0) ((rd_T23 x386000 x10).f1) ((rd_T23 x386000 x10).f2)) else (parallaxref08_Heights.j4 k x0 x7 x9 x10 bt393.1 bt393.2 false x386000 x386001 x386002 x386003 ((rd_T23 x386000 x10).f0) ((rd_T23 x386000 x10).f1) ((rd_T23 x386000 x10).f2))) else (parallaxref08_Heights.j4 k x0 x7 x9 x10 bt393.1 bt393.2 true x386000 x386001 x386002 x386003 ((rd_T23 x386000 x10).f0) ((rd_T23 x386000 x10).f1) ((rd_T23 x386000 x10).f2))) else (if ((rd_T23 x386000 x10).f0) = 20 then (parallaxref08_Heights.j4 k x0 x7 x9 x10 bt393.1 bt393.2 ((rd x7 x10) != bt393.1) x386000 x386001 x386002 x386003 ((rd_T23 x386000 x10).f0) ((rd_T23 x386000 x10).f1) ((rd_T23 x386000 x10).f2)) else (parallaxref08_Heights.j4 k x0 x7 x9 x10 bt393.1 bt393.2 false x386000 x386001 x386002 x386003 ((rd_T23 x386000 x10).f0) ((rd_T23 x386000 x10).f1) ((rd_T23 x386000 x10).f2))))))) else (none))) else (none)) else (parallaxref08_Heights.l1 k x0 x7 x9 x386000 x386001 x386002 x386003)
def parallaxref08_Heights.j4 : Nat → List (S33) → List Int → Bool → Int → Int → Int → Bool → List (S23) → Int → Int → Bool → Int → Int → Int → Option (List Int × Bool)
 | 0, _, _, _, _, _, _, _, _, _, _, _, _, _, _ => none
 | k + 1, x0, x7, x9, x10, x12, x13, x109, x386000, x386001, x386002, x386003, x393000, x393001, x393002 => if x109 = true then (some (([] : List Int), false)) else ((parallaxref08_follow.f x393000 x393001 x393002 x10).bind fun t400 => (parallaxref08_Heights.l3 k x0 x7 x9 x10 x12 x13 t400 0 x386000 x386001 x386002 x386003))
def parallaxref08_Heights.l3 : Nat → List (S33) → List Int → Bool → Int → Int → Int → List Int → Int → List (S23) → Int → Int → Bool → Option (List Int × Bool)
 | 0, _, _, _, _, _, _, _, _, _, _, _, _ => none
 | k + 1, x0, x7, x9, x10, x12, x13, x14, x15, x386000, x386001, x386002, x386003 => if x15 < (x14.length : Int) then (if 0 ≤ x15 then (if (rd x14 x15) ≥ (x7.length : Int) then (some (([] : List Int), false)) else (if 0 ≤ (rd x14 x15) then (if (rd x14 x15) < (x7.length : Int) then (if (rd x7 (rd x14 x15)) < 0 then (if 0 ≤ x10 then (if x10 < (x7.length : Int) then ((some (x7.set ((rd x14 x15) : Int).toNat (wrap64 ((wrap64 ((rd x7 x10) - x12)) + x13)) : List Int)).bind fun y408 => (if (rd y408 (rd x14 x15)) = (wrap64 ((wrap64 ((rd y408 x10) - x12)) + x13)) then (parallaxref08_Heights.l3 k x0 y408 true x10 x12 x13 x14 (wrap64 (x15 + 1)) x386000 x386001 x386002 x386003) else (some (([] : List Int), false)))) else (none)) else (none)) else (if 0 ≤ x10 then (if x10 < (x7.length : Int) then (if (rd x7 (rd x14 x15)) = (wrap64 ((wrap64 ((rd x7 x10) - x12)) + x13)) then (parallaxref08_Heights.l3 k x0 x7 x9 x10 x12 x13 x14 (wrap64 (x15 + 1)) x386000 x386001 x386002 x386003) else (some (([] : List Int), false))) else (none)) else (none))) else (none)) else (none))) else (none)) else (parallaxref08_Heights.l2 k x0 x7 x9 (wrap64 (x10 + 1)) x386000 x386001 x386002 x386003)
end
def parallaxref08_Heights.f (k : Nat) (l0 : List (S33)) (a1 : Int) : Option (List Int × Bool) := if a1 < 0 then (parallaxref08_Heights.j0 k l0 a1 true) else (if a1 ≥ (l0.length : Int) then (parallaxref08_Heights.j0 k l0 a1 true) else (if 0 ≤ a1 then (if a1 < (l0.length : Int) then ((parallaxref08_shape.f k l0 ((rd_T33 l0 a1).f0) ((rd_T33 l0 a1).f1) ((rd_T33 l0 a1).f2) ((rd_T33 l0 a1).f3)).bind fun t383 => (parallaxref08_Heights.j0 k l0 a1 (!t383))) else (none)) else (none)))
theorem parallaxref08_Heights.mono_l : ∀ k, (∀ y0 y1 y2, LeO (parallaxref08_Heights.j0 k y0 y1 y2) (parallaxref08_Heights.j0 (k + 1) y0 y1 y2)) ∧ (∀ y0 y1 y2 y3 y4 y5 y6, LeO (parallaxref08_Heights.l0 k y0 y1 y2 y3 y4 y5 y6) (parallaxref08_Heights.l0 (k + 1) y0 y1 y2 y3 y4 y5 y6)) ∧ (∀ y0 y1 y2 y3 y4 y5 y6, LeO (parallaxref08_Heights.l1 k y0 y1 y2 y3 y4 y5 y6) (parallaxref08_Heights.l1 (k + 1) y0 y1 y2 y3 y4 y5 y6)) ∧ (∀ y0 y1 y2 y3 y4 y5 y6 y7, LeO (parallaxref08_Heights.l2 k y0 y1 y2 y3 y4 y5 y6 y7) (parallaxref08_Heights.l2 (k + 1) y0 y1 y2 y3 y4 y5 y6 y7)) ∧ (∀ y0 y1 y2 y3 y4 y5 y6 y7 y8 y9 y10 y11 y12 y13, LeO (parallaxref08_Heights.j4 k y0 y1 y2 y3 y4 y5 y6 y7 y8 y9 y10 y11 y12 y13) (parallaxref08_Heights.j4 (k + 1) y0 y1 y2 y3 y4 y5 y6 y7 y8 y9 y10 y11 y12 y13)) ∧ (∀ y0 y1 y2 y3 y4 y5 y6 y7 y8 y9 y10 y11, LeO (parallaxref08_Heights.l3 k y0 y1 y2 y3 y4 y5 y6 y7 y8 y9 y10 y11) (parallaxref08_Heights.l3 (k + 1) y0 y1 y2 y3 y4 y5 y6 y7 y8 y9 y10 y11))
 | 0 => ⟨fun _ _ _ r h => by simp [parallaxref08_Heights.j0] at h, fun _ _ _ _ _ _ _ r h => by simp [parallaxref08_Heights.l0] at h, fun _ _ _ _ _ _ _ r h => by simp [parallaxref08_Heights.l1] at h, fun _ _ _ _ _ _ _ _ r h => by simp [parallaxref08_Heights.l2] at h, fun _ _ _ _ _ _ _ _ _ _ _ _ _ _ r h => by simp [parallaxref08_Heights.j4] at h, fun _ _ _ _ _ _ _ _ _ _ _ _ r h => by simp [parallaxref08_Heights.l3] at h⟩
 | k + 1 => by
  obtain ⟨ih0, ih1, ih2, ih3, ih4, ih5⟩ := parallaxref08_Heights.mono_l k
  refine ⟨?_, ?_, ?_, ?_, ?_, ?_⟩
  ·intro y0 y1 y2
   unfold parallaxref08_Heights.j0
   repeat' (with_reducible first | apply ih0 | apply ih1 | apply ih2 | apply ih3 | apply ih4 | apply ih5 | apply parallaxref08_shape.mono | exact LeO.refl _ | exact LeO.none _ | refine LeO.ite ?_ ?_ | refine LeO.bind ?_ (fun _ => ?_))
  ·intro y0 y1 y2 y3 y4 y5 y6
   unfold parallaxref08_Heights.l0
   repeat' (with_reducible first | apply ih0 | apply ih1 | apply ih2 | apply ih3 | apply ih4 | apply ih5 | apply parallaxref08_shape.mono | exact LeO.refl _ | exact LeO.none _ | refine LeO.ite ?_ ?_ | refine LeO.bind ?_ (fun _ => ?_))
  ·intro y0 y1 y2 y3 y4 y5 y6
   unfold parallaxref08_Heights.l1
   repeat' (with_reducible first | apply ih0 | apply ih1 | apply ih2 | apply ih3 | apply ih4 | apply ih5 | apply parallaxref08_shape.mono | exact LeO.refl _ | exact LeO.none _ | refine LeO.ite ?_ ?_ | refine LeO.bind ?_ (fun _ => ?_))
  ·intro y0 y1 y2 y3 y4 y5 y6 y7
   unfold parallaxref08_Heights.l2
   repeat' (with_reducible first | apply ih0 | apply ih1 | apply ih2 | apply ih3 | apply ih4 | apply ih5 | apply parallaxref08_shape.mono | exact LeO.refl _ | exact LeO.none _ | refine LeO.ite ?_ ?_ | refine LeO.bind ?_ (fun _ => ?_))
  ·intro y0 y1 y2 y3 y4 y5 y6 y7 y8 y9 y10 y11 y12 y13
   unfold parallaxref08_Heights.j4
   repeat' (with_reducible first | apply ih0 | apply ih1 | apply ih2 | apply ih3 | apply ih4 | apply ih5 | apply parallaxref08_shape.mono | exact LeO.refl _ | exact LeO.none _ | refine LeO.ite ?_ ?_ | refine LeO.bind ?_ (fun _ => ?_))
  ·intro y0 y1 y2 y3 y4 y5 y6 y7 y8 y9 y10 y11
   unfold parallaxref08_Heights.l3
   repeat' (with_reducible first | apply ih0 | apply ih1 | apply ih2 | apply ih3 | apply ih4 | apply ih5 | apply parallaxref08_shape.mono | exact LeO.refl _ | exact LeO.none _ | refine LeO.ite ?_ ?_ | refine LeO.bind ?_ (fun _ => ?_))
theorem parallaxref08_Heights.mono : ∀ a0 a1 k, LeO (parallaxref08_Heights.f k a0 a1) (parallaxref08_Heights.f (k + 1) a0 a1) := by
 intro a0 a1 k
 obtain ⟨ih0, ih1, ih2, ih3, ih4, ih5⟩ := parallaxref08_Heights.mono_l k
 unfold parallaxref08_Heights.f
 repeat' (with_reducible first | apply ih0 | apply ih1 | apply ih2 | apply ih3 | apply ih4 | apply ih5 | apply parallaxref08_shape.mono | exact LeO.refl _ | exact LeO.none _ | refine LeO.ite ?_ ?_ | refine LeO.bind ?_ (fun _ => ?_))
def parallaxref08_Heights.T28 : Bool × List (List Nat × List Nat) := (true, [([], []), ([], []), ([], []), ([1, 2], [1, 2]), ([3], [3]), ([], []), ([], []), ([5, 6], [5, 6]), ([7], [7]), ([], []), ([8, 9], [8, 9]), ([], []), ([10, 11], [10, 11]), ([0, 4, 0, 1, 2, 3, 4, 5, 6, 7, 8, 9, 10, 11, 12], [0, 4]), ([13, 12, 0, 1, 2, 3, 4, 5, 6, 7, 8, 9, 10, 11, 12], [12, 13])])
def parallaxref08_Heights.B28 : List Nat := [0, 0, 0, 6, 14, 0, 0, 96, 224, 0, 992, 0, 4064, 8191, 16383]
theorem parallaxref08_Heights.tab28 : rtab .any (opsOf Tryd.f22 28) = parallaxref08_Heights.T28 := by kernel_rfl
theorem parallaxref08_Heights.bits28 : waitsOk parallaxref08_Heights.T28.2 parallaxref08_Heights.B28 = true := by kernel_rfl
def parallaxref08_Heights.T30 : Bool × List (List Nat × List Nat) := (true, [([], []), ([], []), ([], []), ([1, 2], [1, 2]), ([3], [3]), ([0, 4], [0, 4]), ([5], [5]), ([], []), ([], []), ([7, 8], [7, 8]), ([9], [9]), ([], []), ([10, 11], [10, 11]), ([], []), ([12, 13], [12, 13]), ([6, 14], [6, 14])])
def parallaxref08_Heights.B30 : List Nat := [0, 0, 0, 6, 14, 31, 63, 0, 0, 384, 896, 0, 3968, 0, 16256, 32767]
theorem parallaxref08_Heights.tab30 : rtab .any (opsOf Tryd.f22 30) = parallaxref08_Heights.T30 := by kernel_rfl
theorem parallaxref08_Heights.bits30 : waitsOk parallaxref08_Heights.T30.2 parallaxref08_Heights.B30 = true := by kernel_rfl
set_option maxHeartbeats 8000000 in
set_option maxRecDepth 100000 in
theorem parallaxref08_Heights.calls (k : Nat) (A0 : Option Addr) (c0 : Nat) (l0 : List (S33)) (a1 : Int) (r1 : List Int) (r2 : Bool) (w : World) (hr0 : Kd.C k33 w A0 l0.length l0) (hc0 : l0.length ≤ c0) (h : parallaxref08_Heights.f k l0 a1 = some (r1, r2)) :
  Calls Tryd.prog 22 #[.slice A0 l0.length c0, .int .i64 a1] w fun e w' => ∃ v0_ : Value, e = .returned (.tuple #[v0_, .bool r2]) ∧ Kd.R (Kd.int .i64) 3 w' w.heap.size (fun _ => True) v0_ r1 ∧ Below w.heap.size w w' := by
 have hu33 := Tryd.underlying33; have hu23 := Tryd.underlying23; have HR0 := Aside0.mk hr0; have HC0 := Aside0.mk hc0; clear hr0 hc0; have HB := Aside0.mk (Below.refl w.heap.size w); have H : (if a1 < 0 then (parallaxref08_Heights.j0 k l0 a1 true) else (if a1 ≥ (l0.length : Int) then (parallaxref08_Heights.j0 k l0 a1 true) else (if 0 ≤ a1 then (if a1 < (l0.length : Int) then ((parallaxref08_shape.f k l0 ((rd_T33 l0 a1).f0) ((rd_T33 l0 a1).f1) ((rd_T33 l0 a1).f2) ((rd_T33 l0 a1).f3)).bind fun t383 => (parallaxref08_Heights.j0 k l0 a1 (!t383))) else (none)) else (none)))) = some (r1, r2) := h; clear h; have HC3 := Aside0.mk H; clear H; go_enter Tryd.func22, Tryd.ntmps22
 go_upto_region 1 with (fail)
 go_cut [32] (fun v32 wc => ∃ (kq : Nat) (x32_2 : Bool), v32 = .bool x32_2 ∧ Aside0 (parallaxref08_Heights.j0 kq l0 a1 x32_2 = some (r1, r2)) ∧ Aside0 (kq ≤ k) ∧ Aside0 (Below w.heap.size w wc))
 case first =>
  have H := HC3.out; clear HC3
  by_cases c4 : a1 < 0
  ·rw [if_pos c4] at H; have c4b0 : decide (a1 < 0) = true := decide_eq_true c4; clear c4; (first | rw [c4b0] | (simp only [i64_w, i32_w]; rw [c4b0]) | skip); have H' := Aside0.mk H; clear H; go_wp2; go_meet
   case rel => exact ⟨_, (true), pr, H', ⟨by first | omega | exact Nat.le_refl _⟩, ⟨bl⟩⟩
  ·rw [if_neg c4] at H; have c4b0 : decide (a1 < 0) = false := decide_eq_false c4; clear c4; (first | rw [c4b0] | (simp only [i64_w, i32_w]; rw [c4b0]) | skip)
   by_cases c5 : a1 ≥ (l0.length : Int)
   ·rw [if_pos c5] at H; have c5b0 : decide ((l0.length : Int) ≤ a1) = true := decide_eq_true c5; clear c5; have H' := Aside0.mk H; clear H; go_wp2; go_meet
    case rel => exact ⟨_, (true), pr, H', ⟨by first | omega | exact Nat.le_refl _⟩, ⟨bl⟩⟩
   ·rw [if_neg c5] at H; have c5b0 : decide ((l0.length : Int) ≤ a1) = false := decide_eq_false c5; clear c5
    by_cases c6 : 0 ≤ a1
    ·rw [if_pos c6] at H; have c6b0 : decide (0 ≤ a1) = true := decide_eq_true c6; clear c6
     by_cases c7 : a1 < (l0.length : Int)
     ·rw [if_pos c7] at H; have c7b0 : decide (a1 < (l0.length : Int)) = true := decide_eq_true c7; clear c7; replace H := Option.bind_eq_some_iff.mp H; obtain ⟨t383, A80, H⟩ := H; have A8 := Aside0.mk A80; clear A80; have H' := Aside0.mk H; clear H
      have p382 : 0 ≤ (a1 : Int) := of_decide_eq_true pa
      have q382 : a1 < (l0.length : Int) := of_decide_eq_true pa
      obtain ⟨ad382, A382_0, c382_0, e382, hx382_0, hx382_1, hx382_2, hx382_3, hl382_0, hi382_0⟩ := at_T33 HR0.out a1 p382 q382
      cases e382
      replace hx382_0 := pc HB.out hx382_0; replace hx382_1 := pc HB.out hx382_1; replace hx382_2 := pc HB.out hx382_2; replace hx382_3 := pc HB.out hx382_3; have HR382_0 := Aside0.mk hi382_0; have HC382_0 := Aside0.mk hl382_0; clear hi382_0 hl382_0; replace p382 := eq_true p382; replace q382 := eq_true q382
      go_wp2_with (first | (go_at_call 34; (with_reducible refine (parallaxref08_shape.calls k _ _ l0 _ _ ((rd_T33 l0 a1).f0) ((rd_T33 l0 a1).f1) ((rd_T33 l0 a1).f2) ((rd_T33 l0 a1).f3) t383 _ ?side1 ?side2 ?side3 ?side4 A8.out).mono ?_); (case side1 => repeat (first | exact (Kd.C_below HR0.out HB.out) | (with_reducible refine Kd.C_alloc ?_ _) | (with_reducible refine Kd.C_drewN ?_ _) | (with_reducible refine Kd.C_drew ?_))); (case side2 => exact HC0.out); (case side3 => repeat (first | exact (Kd.C_below HR382_0.out HB.out) | (with_reducible refine Kd.C_alloc ?_ _) | (with_reducible refine Kd.C_drewN ?_ _) | (with_reducible refine Kd.C_drew ?_))); (case side4 => exact HC382_0.out); rintro e w9 ⟨rfl, hb⟩; have n0_ := Aside0.mk (below_step bl hb); clear HB; have HB := n0_; clear n0_; (try clear hb)))
      go_meet
      case rel => exact ⟨_, (!t383), pr, H', ⟨by first | omega | exact Nat.le_refl _⟩, ⟨bl⟩⟩
     ·rw [if_neg c7] at H; exact absurd H (by simp)
    ·rw [if_neg c6] at H; exact absurd H (by simp)
 case rest =>
  clear HC3; obtain ⟨kq, x32_2, rfl, HA, HJ2, HB⟩ := hcut
  cases kq with
  | zero => exact absurd HA.out (by simp [parallaxref08_Heights.j0])
  | succ kj2 =>
   have H := HA.out; clear HA; simp only [parallaxref08_Heights.j0] at H
   by_cases c10 : x32_2 = true
   ·subst c10; rw [if_pos rfl] at H; simp only [Option.some.injEq, Prod.mk.injEq] at H; obtain ⟨rfl, rfl⟩ := H; go_wp2; go_ret2; exact ⟨_, pe, pn, bl⟩
   ·replace c10 := Bool.eq_false_iff.mpr c10; subst c10; rw [if_neg (show ¬ (false = true) by decide)] at H
    by_cases c11 : 0 ≤ a1
    ·rw [if_pos c11] at H; have c11b0 : decide (0 ≤ a1) = true := decide_eq_true c11; clear c11
     by_cases c12 : a1 < (l0.length : Int)
     ·rw [if_pos c12] at H; have c12b0 : decide (a1 < (l0.length : Int)) = true := decide_eq_true c12; clear c12; have H' := Aside0.mk H; clear H
      have p384 : 0 ≤ (a1 : Int) := of_decide_eq_true pa
      have q384 : a1 < (l0.length : Int) := of_decide_eq_true pa
      obtain ⟨ad384, A384_0, c384_0, e384, hx384_0, hx384_1, hx384_2, hx384_3, hl384_0, hi384_0⟩ := at_T33 HR0.out a1 p384 q384
      cases e384
      replace hx384_0 := pc HB.out hx384_0; replace hx384_1 := pc HB.out hx384_1; replace hx384_2 := pc HB.out hx384_2; replace hx384_3 := pc HB.out hx384_3; have HR384_0 := Aside0.mk hi384_0; have HC384_0 := Aside0.mk hl384_0; clear hi384_0 hl384_0; replace p384 := eq_true p384; replace q384 := eq_true q384
      go_wp2_with (first | ((with_reducible refine gate_dst (N := 6) rfl ?_); (try (refine gate_guard (by rfl) ?_; dsimp only)); refine box_event ?hg (N := 6) ?hd (cs := #[.slice none 0 0, .int .i64 0, .int .i64 0, .bool false]) (t := 33) ?hr ?_; (case hd => rfl); (case hg => rfl); (case hr => first | (go_simp; done) | (go_simp; rfl)); intro gb385 hg w13 hbox hb; have n0_ := Aside0.mk (below_step bl hb); have n1_ := Aside0.mk (hbox); have n2_ := Aside0.mk ((by rw [hg]; exact (below_size bl) : w.heap.size ≤ gb385)); have n3_ := Aside0.mk ((by rw [hg]; exact (below_size bl) : w.heap.size ≤ gb385)); clear HB; have HB := n0_; have BK385 := n1_; have GW385 := n2_; have GE385 := n3_; clear n0_ n1_ n2_ n3_; clear hb hbox hg; obtain ⟨hcz14_0, hcz14_1, hcz14_2, hcz14_3⟩ := bd4 BK385.out; have hfz14_0 := blk_frozen BK385.out 0; have hfz14_1 := blk_frozen BK385.out 1; have hfz14_2 := blk_frozen BK385.out 2; have hfz14_3 := blk_frozen BK385.out 3))
      go_loopg [7, 8] kj2 (fun kq v7 v8 w' => ∃ (x7_2 : List Int) (x8_2 : Int), v8 = .int .i64 x8_2 ∧ Aside0 (parallaxref08_Heights.l0 kq l0 x7_2 x8_2 ((rd_T33 l0 a1).f0) ((rd_T33 l0 a1).f1) ((rd_T33 l0 a1).f2) ((rd_T33 l0 a1).f3) = some (r1, r2)) ∧ Aside0 (kq ≤ kj2) ∧ Aside0 (Kd.R (Kd.int .i64) 3 w' w.heap.size (fun _ => True) v7 x7_2) ∧ Aside0 (w'.heap[gb385]? = some (.cells #[(.slice A384_0 ((rd_T33 l0 a1).f0).length c384_0), .int .i64 ((rd_T33 l0 a1).f1), .int .i64 ((rd_T33 l0 a1).f2), .bool ((rd_T33 l0 a1).f3)] 33 (0, 0))) ∧ Aside0 (Below w.heap.size w w'))
      case atStart => exact ⟨(([] : List Int)), (0), pr, H', ⟨Nat.le_refl _⟩, ⟨pn⟩, ⟨by (with_reducible repeat (first | refine blk_drewN ?_ _ | refine blk_drew ?_ | refine blk_alloc ?_ _)); refine blk_put (cs := #[.slice A384_0 ((rd_T33 l0 a1).f0).length c384_0, .int .i64 ((rd_T33 l0 a1).f1), .int .i64 ((rd_T33 l0 a1).f2), .bool false]) ?_ 3 _ rfl; (with_reducible repeat (first | refine blk_drewN ?_ _ | refine blk_drew ?_ | refine blk_alloc ?_ _)); refine blk_put (cs := #[.slice A384_0 ((rd_T33 l0 a1).f0).length c384_0, .int .i64 ((rd_T33 l0 a1).f1), .int .i64 0, .bool false]) ?_ 2 _ rfl; (with_reducible repeat (first | refine blk_drewN ?_ _ | refine blk_drew ?_ | refine blk_alloc ?_ _)); refine blk_put (cs := #[.slice A384_0 ((rd_T33 l0 a1).f0).length c384_0, .int .i64 0, .int .i64 0, .bool false]) ?_ 1 _ rfl; (with_reducible repeat (first | refine blk_drewN ?_ _ | refine blk_drew ?_ | refine blk_alloc ?_ _)); refine blk_put (cs := #[.slice none 0 0, .int .i64 0, .int .i64 0, .bool false]) ?_ 0 _ rfl; (with_reducible repeat (first | refine blk_drewN ?_ _ | refine blk_drew ?_ | refine blk_alloc ?_ _)); exact BK385.out⟩, ⟨bl⟩⟩
      case round =>
       clear H'; (try clear c11b0); (try clear c12b0); (try clear hcz14_0); (try clear hcz14_1); (try clear hcz14_2); (try clear hcz14_3); (try clear hfz14_0); (try clear hfz14_1); (try clear hfz14_2); (try clear hfz14_3); (try clear hx384_0); (try clear hx384_1); (try clear hx384_2); (try clear hx384_3); (try clear p384); (try clear q384); obtain ⟨x7_2, x8_2, rfl, HA, HK2, HO_7, BK385, HB⟩ := hrel
       cases gk with
       | zero => exact absurd HA.out (by simp [parallaxref08_Heights.l0])
       | succ k2 =>
        have H := HA.out; clear HA; simp only [parallaxref08_Heights.l0] at H
        by_cases c15 : x8_2 < (((rd_T33 l0 a1).f0).length : Int)
        ·rw [if_pos c15] at H; have c15b0 : decide (x8_2 < (((rd_T33 l0 a1).f0).length : Int)) = true := decide_eq_true c15; clear c15
         by_cases c16 : x7_2.length < 17592186044416
         ·rw [if_pos c16] at H; have LMc16 := Aside0.mk c16; clear c16; obtain ⟨y386, hy386⟩ : ∃ y_ : List Int, y_ = (x7_2 ++ [(-1)]) := ⟨_, rfl⟩; (first | replace H := hs hy386 H | rw [← hy386] at H)
          have Ny386 := Aside0.mk hy386; clear hy386; have H' := Aside0.mk H; clear H; obtain ⟨hcz17_0, hcz17_1, hcz17_2, hcz17_3⟩ := bd4 BK385.out; have hfz17_0 := blk_frozen BK385.out 0; have hfz17_1 := blk_frozen BK385.out 1; have hfz17_2 := blk_frozen BK385.out 2; have hfz17_3 := blk_frozen BK385.out 3
          go_wp2_with (first | ((with_reducible refine gate_builtin (b := .append) (xs := #[.tmp 44, .tmp 45]) rfl ?_); (try (refine gate_guard (by rfl) ?_; dsimp only)); at_builtin; refine Kd.R_append (Kd.int .i64) (w0 := w) w.heap.size rfl (.tmp 44) (.tmp 45) 40 3 (.int .i64 0) 8 rfl Tryd.underlying40 info3 rfl (by decide) (by omega) u7 x7_2 (-1) [.int .i64 (-1)] (fun _ => True) (fun _ => False) rfl rfl ?aP (fun _ hk => hk.elim) ?aF ?aO ?aB ?aS ?aL ?_; (case aP => exact rfl); (case aB => exact bl); (case aF => exact (fun _ _ => trivial)); (case aO => exact (bR HO_7.out)); (case aS => exact (below_size bl)); (case aL => have := LMc16.out; omega); intro v387 w18 ho hb hg hat; rw [← Ny386.out] at ho; have n0_ := Aside0.mk (blk_grown (g := gb385) (o := .cells #[.slice A384_0 ((rd_T33 l0 a1).f0).length c384_0, .int .i64 ((rd_T33 l0 a1).f1), .int .i64 ((rd_T33 l0 a1).f2), .bool ((rd_T33 l0 a1).f3)] 33 (0, 0)) bk hg (Kd.R_ne HO_7.out BK385.out (by decide))); have n1_ := Aside0.mk (hb); have n2_ := Aside0.mk (ho); clear BK385 HB HO_7; have BK385 := n0_; have HB := n1_; have HO388 := n2_; clear n0_ n1_ n2_; clear ho hb hg hat))
          go_roundg k2
          case measure => have := HJ2.out; have := HK2.out; omega
          case rel => exact ⟨(y386), (wrap64 (x8_2 + 1)), pr, H', ⟨by have := HJ2.out; have := HK2.out; omega⟩, ⟨by (with_reducible repeat (first | apply Kd.R_alloc | apply Kd.R_drewN | apply Kd.R_drew)); exact HO388.out⟩, ⟨bk⟩, ⟨bl⟩⟩
         ·rw [if_neg c16] at H; exact absurd H (by simp)
        ·rw [if_neg c15] at H; have c15b0 : decide (x8_2 < (((rd_T33 l0 a1).f0).length : Int)) = false := decide_eq_false c15; clear c15
         by_cases c19 : 0 < (x7_2.length : Int)
         ·rw [if_pos c19] at H; have c19b0 : decide (0 < (x7_2.length : Int)) = true := decide_eq_true c19; have c19b1 : decide (0 < x7_2.length) = true := decide_eq_true (by omega); clear c19; obtain ⟨y389, hy389⟩ : ∃ y_ : List Int, y_ = (x7_2.set (0 : Int).toNat 0) := ⟨_, rfl⟩; (first | replace H := hs hy389 H | rw [← hy389] at H)
          have Ny389 := Aside0.mk hy389; clear hy389; have H' := Aside0.mk H; clear H; obtain ⟨hcz21_0, hcz21_1, hcz21_2, hcz21_3, hfz21_0, hfz21_1, hfz21_2, hfz21_3⟩ := bc4 BK385.out; have p20 : 0 ≤ (0 : Int) := (by omega)
          have q20 : (0 : Int) < ((x7_2.length : Int) : Int) := of_decide_eq_true pa
          have qi20 : (0 < x7_2.length) = True := eq_true (by omega); obtain ⟨go20, co20, eo20, gb20, gl20, cl20, HG20⟩ := Kd.R_form HO_7.out (by omega); (first | cases eo20 | (injection eo20 with ea_ en_ ec_; (first | subst ea_ | (injection ea_ with ea_; subst ea_)); subst ec_; clear en_)); have GB20 := Aside0.mk gb20; have GG20 := Aside0.mk HG20; clear gb20 gl20 HG20; obtain ⟨hx20_0, hf20_0⟩ := Kd.R_celln 0 HO_7.out (0 : Int) p20 q20; (try rw [show ((0 : Int)).toNat = 0 from rfl] at hx20_0); (try simp only [Nat.reduceMul, Nat.zero_mul, Nat.zero_add, Nat.reduceAdd] at hx20_0); (try rw [show ((0 : Int)).toNat = 0 from rfl] at hf20_0); (try simp only [Nat.reduceMul, Nat.zero_mul, Nat.zero_add, Nat.reduceAdd] at hf20_0); replace p20 := eq_true p20; replace q20 := eq_true q20; have HP22 := Kd.R_putg HO_7.out (0 : Int) 0
          go_wp2_with (first | ((with_reducible refine gate_store (t := 3) (p := 48) rfl ?_); refine store_event (t := 3) (p := 48) (v := ?vo_w23) (w1 := (wr.setCell ⟨go20, (0 : Int).toNat, none⟩ (.int .i64 0))) ?hg ?ho ?hn ?hr ?_; (case ho => rfl); (case hg => rfl); (case hn => rfl); (case hr => first | (go_simp; done) | (go_simp; rfl)); intro w23 hw; have hg : wr.grownBy w23 (some go20) := (by rw [hw]; exact HP22.2); have hp_ : Kd.R (Kd.int .i64) 3 w23 w.heap.size (fun _ => True) (.slice (some ⟨go20, 0, none⟩) x7_2.length co20) y389 := (by rw [hw, Ny389.out]; exact HP22.1); clear HP22; have n0_ := Aside0.mk (hp_); have n1_ := Aside0.mk (blk_grown (g := gb385) (o := .cells #[.slice A384_0 ((rd_T33 l0 a1).f0).length c384_0, .int .i64 ((rd_T33 l0 a1).f1), .int .i64 ((rd_T33 l0 a1).f2), .bool ((rd_T33 l0 a1).f3)] 33 (0, 0)) bk hg (Kd.R_ne HO_7.out BK385.out (by decide))); have n2_ := Aside0.mk ((by rw [hw]; exact below_set (HB.out) GB20.out : Below w.heap.size w w23)); clear HO_7 BK385 HB; have HO_7 := n0_; have BK385 := n1_; have HB := n2_; clear n0_ n1_ n2_; clear hg hw hp_))
          go_loopg [9] k2 (fun kq v9 w' => ∃ (x7_3 : List Int) (x9_3 : Bool), v9 = .bool x9_3 ∧ Aside0 (parallaxref08_Heights.l1 kq l0 x7_3 x9_3 ((rd_T33 l0 a1).f0) ((rd_T33 l0 a1).f1) ((rd_T33 l0 a1).f2) ((rd_T33 l0 a1).f3) = some (r1, r2)) ∧ Aside0 (kq ≤ k2) ∧ Aside0 (Kd.R (Kd.int .i64) 3 w' w.heap.size (fun _ => True) (.slice (some ⟨go20, 0, none⟩) x7_2.length co20) x7_3) ∧ Aside0 (w'.heap[gb385]? = some (.cells #[(.slice A384_0 ((rd_T33 l0 a1).f0).length c384_0), .int .i64 ((rd_T33 l0 a1).f1), .int .i64 ((rd_T33 l0 a1).f2), .bool ((rd_T33 l0 a1).f3)] 33 (0, 0))) ∧ Aside0 (Below w.heap.size w w'))
          case atStart => exact ⟨(y389), (true), pr, H', ⟨Nat.le_refl _⟩, ⟨by (with_reducible repeat (first | apply Kd.R_alloc | apply Kd.R_drewN | apply Kd.R_drew)); exact HO_7.out⟩, ⟨bk⟩, ⟨bl⟩⟩
          case round =>
           clear H'; (try clear c15b0); (try clear c19b0); (try clear c19b1); (try clear p20); (try clear q20); (try clear qi20); (try clear hcz21_0); (try clear hcz21_1); (try clear hcz21_2); (try clear hcz21_3); (try clear hfz21_0); (try clear hfz21_1); (try clear hfz21_2); (try clear hfz21_3); (try clear hx20_0); obtain ⟨x7_3, x9_3, rfl, HA, HK3, HO_7, BK385, HB⟩ := hrel; have hl7_3 := (Kd.R_reads' HO_7.out).1; rw [hl7_3] at HO_7; (try simp only [hl7_3]); (try simp only [hl7_3] at BK385)
           cases gk with
           | zero => exact absurd HA.out (by simp [parallaxref08_Heights.l1])
           | succ k3 =>
            have H := HA.out; clear HA; simp only [parallaxref08_Heights.l1] at H
            by_cases c24 : x9_3 = true
            ·subst c24; rw [if_pos rfl] at H; have H' := Aside0.mk H; clear H; go_wp2
             go_loopg [9, 10] k3 (fun kq v9 v10 w' => ∃ (x7_4 : List Int) (x9_4 : Bool) (x10_4 : Int), v9 = .bool x9_4 ∧ v10 = .int .i64 x10_4 ∧ Aside0 (parallaxref08_Heights.l2 kq l0 x7_4 x9_4 x10_4 ((rd_T33 l0 a1).f0) ((rd_T33 l0 a1).f1) ((rd_T33 l0 a1).f2) ((rd_T33 l0 a1).f3) = some (r1, r2)) ∧ Aside0 (kq ≤ k3) ∧ Aside0 (Kd.R (Kd.int .i64) 3 w' w.heap.size (fun _ => True) (.slice (some ⟨go20, 0, none⟩) x7_3.length co20) x7_4) ∧ Aside0 (w'.heap[gb385]? = some (.cells #[(.slice A384_0 ((rd_T33 l0 a1).f0).length c384_0), .int .i64 ((rd_T33 l0 a1).f1), .int .i64 ((rd_T33 l0 a1).f2), .bool ((rd_T33 l0 a1).f3)] 33 (0, 0))) ∧ Aside0 (Below w.heap.size w w'))
             case atStart => exact ⟨(x7_3), (false), (0), pr, pr, H', ⟨Nat.le_refl _⟩, ⟨by (try simp only [hl7_3]); (with_reducible repeat (first | apply Kd.R_alloc | apply Kd.R_drewN | apply Kd.R_drew)); exact HO_7.out⟩, ⟨by (try simp only [hl7_3]); (with_reducible repeat (first | refine blk_drewN ?_ _ | refine blk_drew ?_ | refine blk_alloc ?_ _)); exact BK385.out⟩, ⟨bl⟩⟩
             case round =>
              clear H'; obtain ⟨x7_4, x9_4, x10_4, rfl, rfl, HA, HK4, HO_7, BK385, HB⟩ := hrel; have hl7_4 := (Kd.R_reads' HO_7.out).1; rw [hl7_4] at HO_7; (try simp only [hl7_4]); (try simp only [hl7_4] at BK385)
              cases gk with
              | zero => exact absurd HA.out (by simp [parallaxref08_Heights.l2])
              | succ k4 =>
               have H := HA.out; clear HA; simp only [parallaxref08_Heights.l2] at H
               by_cases c25 : x10_4 < (x7_4.length : Int)
               ·rw [if_pos c25] at H; have c25b0 : decide (x10_4 < (x7_4.length : Int)) = true := decide_eq_true c25; clear c25
                by_cases c26 : 0 ≤ x10_4
                ·rw [if_pos c26] at H; have c26b0 : decide (0 ≤ x10_4) = true := decide_eq_true c26; clear c26
                 by_cases c27 : (rd x7_4 x10_4) < 0
                 ·rw [if_pos c27] at H; have c27b0 : decide ((rd x7_4 x10_4) < 0) = true := decide_eq_true c27; clear c27; have H' := Aside0.mk H; clear H
                  have p390 : 0 ≤ (x10_4 : Int) := of_decide_eq_true pa
                  have q390 : x10_4 < (x7_4.length : Int) := of_decide_eq_true pa
                  obtain ⟨ad390, e390, hx390_0⟩ := Kd.at_int (Kd.R_reads' HO_7.out).2.2 x10_4 p390 q390; obtain rfl : (⟨go20, 0, none⟩ : Addr) = ad390 := (by injection e390); (first | simp only [add_plain] at hx390_0 | simp only [add_at] at hx390_0 | simp only [Addr.add, Nat.zero_add] at hx390_0 | skip); replace p390 := eq_true p390; replace q390 := eq_true q390; go_wp2; (try simp only [← hl7_4])
                  go_roundg k4
                  case measure => have := HJ2.out; have := HK2.out; have := HK3.out; have := HK4.out; omega
                  case rel => exact ⟨(x7_4), (x9_4), (wrap64 (x10_4 + 1)), pr, pr, H', ⟨by have := HJ2.out; have := HK2.out; have := HK3.out; have := HK4.out; omega⟩, ⟨by (try simp only [hl7_3]); (try simp only [hl7_4]); (with_reducible repeat (first | apply Kd.R_alloc | apply Kd.R_drewN | apply Kd.R_drew)); exact HO_7.out⟩, ⟨by (try simp only [hl7_3]); (try simp only [hl7_4]); (with_reducible repeat (first | refine blk_drewN ?_ _ | refine blk_drew ?_ | refine blk_alloc ?_ _)); exact BK385.out⟩, ⟨bl⟩⟩
                 ·rw [if_neg c27] at H; have c27b0 : decide ((rd x7_4 x10_4) < 0) = false := decide_eq_false c27; clear c27
                  by_cases c28 : x10_4 < (((rd_T33 l0 a1).f0).length : Int)
                  ·rw [if_pos c28] at H; have c28b0 : decide (x10_4 < (((rd_T33 l0 a1).f0).length : Int)) = true := decide_eq_true c28; clear c28; replace H := Option.bind_eq_some_iff.mp H; obtain ⟨⟨t393, t394⟩, A290, H⟩ := H; have A29 := Aside0.mk A290; clear A290; have HC30 := Aside0.mk H; clear H
                   have p390 : 0 ≤ (x10_4 : Int) := of_decide_eq_true pa
                   have q390 : x10_4 < (x7_4.length : Int) := of_decide_eq_true pa
                   obtain ⟨ad390, e390, hx390_0⟩ := Kd.at_int (Kd.R_reads' HO_7.out).2.2 x10_4 p390 q390; obtain rfl : (⟨go20, 0, none⟩ : Addr) = ad390 := (by injection e390); (first | simp only [add_plain] at hx390_0 | simp only [add_at] at hx390_0 | simp only [Addr.add, Nat.zero_add] at hx390_0 | skip); replace p390 := eq_true p390; replace q390 := eq_true q390; obtain ⟨hcz31_0, hcz31_1, hcz31_2, hcz31_3⟩ := bd4 BK385.out; have hfz31_0 := blk_frozen BK385.out 0; have hfz31_1 := blk_frozen BK385.out 1; have hfz31_2 := blk_frozen BK385.out 2; have hfz31_3 := blk_frozen BK385.out 3
                   have p391 : 0 ≤ (x10_4 : Int) := of_decide_eq_true pa
                   have q391 : x10_4 < (((rd_T33 l0 a1).f0).length : Int) := of_decide_eq_true pa
                   obtain ⟨ad391, e391, hx391_0, hx391_1, hx391_2⟩ := at_T23 HR384_0.out x10_4 p391 q391
                   cases e391
                   replace hx391_0 := pc HB.out hx391_0; replace hx391_1 := pc HB.out hx391_1; replace hx391_2 := pc HB.out hx391_2; replace p391 := eq_true p391; replace q391 := eq_true q391
                   go_upto_region 19 with (first | ((with_reducible refine gate_dst (N := 11) rfl ?_); (try (refine gate_guard (by rfl) ?_; dsimp only)); refine box_event ?hg (N := 11) ?hd (cs := #[.int .i64 0, .int .i64 0, .int .i64 0]) (t := 23) ?hr ?_; (case hd => rfl); (case hg => rfl); (case hr => first | (go_simp; done) | (go_simp; rfl)); intro gb392 hg w32 hbox hb; have n0_ := Aside0.mk (Kd.R_below (bR HO_7.out) hb); have n1_ := Aside0.mk (blk_below (g := gb385) (o := .cells #[.slice (some ad391) ((rd_T33 l0 a1).f0).length c384_0, .int .i64 ((rd_T33 l0 a1).f1), .int .i64 ((rd_T33 l0 a1).f2), .bool ((rd_T33 l0 a1).f3)] 33 (0, 0)) bk hb); have n2_ := Aside0.mk (below_step bl hb); have n3_ := Aside0.mk (hbox); have n4_ := Aside0.mk ((by rw [hg]; exact (below_size bl) : w.heap.size ≤ gb392)); have n5_ := Aside0.mk ((by rw [hg]; exact (below_size bl) : w.heap.size ≤ gb392)); have n6_ := Aside0.mk ((by rw [hg]; exact Nat.ne_of_lt (blk_lt (g := gb385) (o := .cells #[.slice (some ad391) ((rd_T33 l0 a1).f0).length c384_0, .int .i64 ((rd_T33 l0 a1).f1), .int .i64 ((rd_T33 l0 a1).f2), .bool ((rd_T33 l0 a1).f3)] 33 (0, 0)) bk) : gb385 ≠ gb392)); have n7_ := Aside0.mk ((by rw [hg]; exact Nat.ne_of_gt (blk_lt (g := gb385) (o := .cells #[.slice (some ad391) ((rd_T33 l0 a1).f0).length c384_0, .int .i64 ((rd_T33 l0 a1).f1), .int .i64 ((rd_T33 l0 a1).f2), .bool ((rd_T33 l0 a1).f3)] 33 (0, 0)) bk) : gb392 ≠ gb385)); clear HO_7 BK385 HB; have HO_7 := n0_; have BK385 := n1_; have HB := n2_; have BK392 := n3_; have GW392 := n4_; have GE392 := n5_; have NB385_392 := n6_; have NB392_385 := n7_; clear n0_ n1_ n2_ n3_ n4_ n5_ n6_ n7_; clear hb hbox hg; have hnb33 := NB392_385.out; have hnc33 := NB385_392.out; obtain ⟨hcz34_0, hcz34_1, hcz34_2⟩ := bd3 BK392.out; have hfz34_0 := blk_frozen BK392.out 0; have hfz34_1 := blk_frozen BK392.out 1; have hfz34_2 := blk_frozen BK392.out 2) | ((with_reducible refine gate_callee (f := 35) rfl ?_); refine goesL_ (some 69) rfl rfl Tryd.func35 (by kernel_rfl) rfl #[.slice (some ad384) l0.length c0, .agg #[.int .i64 ((rd_T23 ((rd_T33 l0 a1).f0) x10_4).f0), .int .i64 ((rd_T23 ((rd_T33 l0 a1).f0) x10_4).f1), .int .i64 ((rd_T23 ((rd_T33 l0 a1).f0) x10_4).f2)]] rfl (by (try simp only [List.map_toArray, List.map_cons, List.map_nil]); first | done | rfl | (simp only [List.length_drop, List.length_take]; rfl)) ?_; (with_reducible refine (parallaxref08_effect.calls _ _ l0 ((rd_T23 ((rd_T33 l0 a1).f0) x10_4).f0) ((rd_T23 ((rd_T33 l0 a1).f0) x10_4).f1) ((rd_T23 ((rd_T33 l0 a1).f0) x10_4).f2) t393 t394 _ ?side1 ?side2 A29.out).mono ?_); (case side1 => exact Kd.C_below HR0.out bl); (case side2 => exact HC0.out); rintro e w35 ⟨rfl, hb⟩; refine ⟨_, rfl, ?_⟩; have n0_ := Aside0.mk (Kd.R_below (by (with_reducible repeat (first | apply Kd.R_alloc | apply Kd.R_drewN | apply Kd.R_drew)); exact (Kd.R_mono (Kd.R_far (p := ⟨gb392, 2, none⟩) (Kd.R_far (p := ⟨gb392, 1, none⟩) (Kd.R_far (p := ⟨gb392, 0, none⟩) (Kd.R_types HO_7.out BK392.out (by decide)) (fun _ hk => hk.2) (.int .i64 ((rd_T23 ((rd_T33 l0 a1).f0) x10_4).f0))) (fun _ hk => hk.2) (.int .i64 ((rd_T23 ((rd_T33 l0 a1).f0) x10_4).f1))) (fun _ hk => hk.2) (.int .i64 ((rd_T23 ((rd_T33 l0 a1).f0) x10_4).f2))) (fun _ h_ => h_.1))) hb); have n1_ := Aside0.mk (blk_below (g := gb385) (o := .cells #[.slice (some ad391) ((rd_T33 l0 a1).f0).length c384_0, .int .i64 ((rd_T33 l0 a1).f1), .int .i64 ((rd_T33 l0 a1).f2), .bool ((rd_T33 l0 a1).f3)] 33 (0, 0)) (by (with_reducible repeat (first | refine blk_drewN ?_ _ | refine blk_drew ?_ | refine blk_alloc ?_ _)); refine blk_far ?_ NB385_392.out _; (with_reducible repeat (first | refine blk_drewN ?_ _ | refine blk_drew ?_ | refine blk_alloc ?_ _)); refine blk_far ?_ NB385_392.out _; (with_reducible repeat (first | refine blk_drewN ?_ _ | refine blk_drew ?_ | refine blk_alloc ?_ _)); refine blk_far ?_ NB385_392.out _; (with_reducible repeat (first | refine blk_drewN ?_ _ | refine blk_drew ?_ | refine blk_alloc ?_ _)); exact BK385.out) hb); have n2_ := Aside0.mk (blk_below (g := gb392) (o := .cells #[.int .i64 ((rd_T23 ((rd_T33 l0 a1).f0) x10_4).f0), .int .i64 ((rd_T23 ((rd_T33 l0 a1).f0) x10_4).f1), .int .i64 ((rd_T23 ((rd_T33 l0 a1).f0) x10_4).f2)] 23 (0, 0)) (by (with_reducible repeat (first | refine blk_drewN ?_ _ | refine blk_drew ?_ | refine blk_alloc ?_ _)); refine blk_put (cs := #[.int .i64 ((rd_T23 ((rd_T33 l0 a1).f0) x10_4).f0), .int .i64 ((rd_T23 ((rd_T33 l0 a1).f0) x10_4).f1), .int .i64 0]) ?_ 2 _ rfl; (with_reducible repeat (first | refine blk_drewN ?_ _ | refine blk_drew ?_ | refine blk_alloc ?_ _)); refine blk_put (cs := #[.int .i64 ((rd_T23 ((rd_T33 l0 a1).f0) x10_4).f0), .int .i64 0, .int .i64 0]) ?_ 1 _ rfl; (with_reducible repeat (first | refine blk_drewN ?_ _ | refine blk_drew ?_ | refine blk_alloc ?_ _)); refine blk_put (cs := #[.int .i64 0, .int .i64 0, .int .i64 0]) ?_ 0 _ rfl; (with_reducible repeat (first | refine blk_drewN ?_ _ | refine blk_drew ?_ | refine blk_alloc ?_ _)); exact BK392.out) hb); have n3_ := Aside0.mk (below_step bl hb); clear HO_7 BK385; clear BK392 HB; have HO_7 := n0_; have BK385 := n1_; have BK392 := n2_; have HB := n3_; clear n0_ n1_ n2_ n3_; (try clear hb)))
                   (try simp only [Act.put, List.setIfInBounds_toArray, List.set_cons_zero, List.set_cons_succ])
                   go_cut [109] (fun v109 wc => ∃ (kq : Nat) (x109_29 : Bool), v109 = .bool x109_29 ∧ Aside0 (parallaxref08_Heights.j4 kq l0 x7_4 x9_4 x10_4 t393 t394 x109_29 ((rd_T33 l0 a1).f0) ((rd_T33 l0 a1).f1) ((rd_T33 l0 a1).f2) ((rd_T33 l0 a1).f3) ((rd_T23 ((rd_T33 l0 a1).f0) x10_4).f0) ((rd_T23 ((rd_T33 l0 a1).f0) x10_4).f1) ((rd_T23 ((rd_T33 l0 a1).f0) x10_4).f2) = some (r1, r2)) ∧ Aside0 (kq ≤ k4) ∧ Aside0 (Kd.R (Kd.int .i64) 3 wc w.heap.size (fun _ => True) (.slice (some ⟨go20, 0, none⟩) x7_4.length co20) x7_4) ∧ Aside0 (wc.heap[gb385]? = some (.cells #[(.slice (some ad391) ((rd_T33 l0 a1).f0).length c384_0), .int .i64 ((rd_T33 l0 a1).f1), .int .i64 ((rd_T33 l0 a1).f2), .bool ((rd_T33 l0 a1).f3)] 33 (0, 0))) ∧ Aside0 (wc.heap[gb392]? = some (.cells #[.int .i64 ((rd_T23 ((rd_T33 l0 a1).f0) x10_4).f0), .int .i64 ((rd_T23 ((rd_T33 l0 a1).f0) x10_4).f1), .int .i64 ((rd_T23 ((rd_T33 l0 a1).f0) x10_4).f2)] 23 (0, 0))) ∧ Aside0 (Below w.heap.size w wc))
                   case first =>
                    have H := HC30.out; clear HC30
                    by_cases c36 : (rd x7_4 x10_4) < t393
                    ·rw [if_pos c36] at H; have c36b0 : decide ((rd x7_4 x10_4) < t393) = true := decide_eq_true c36; clear c36; (first | rw [c36b0] | (simp only [i64_w, i32_w]; rw [c36b0]) | skip); have H' := Aside0.mk H; clear H
                     have p395 : 0 ≤ (x10_4 : Int) := of_decide_eq_true pa
                     have q395 : x10_4 < (x7_4.length : Int) := of_decide_eq_true pa
                     obtain ⟨ad395, e395, hx395_0⟩ := Kd.at_int (Kd.R_reads' HO_7.out).2.2 x10_4 p395 q395; obtain rfl : (⟨go20, 0, none⟩ : Addr) = ad395 := (by injection e395); (first | simp only [add_plain] at hx395_0 | simp only [add_at] at hx395_0 | simp only [Addr.add, Nat.zero_add] at hx395_0 | skip); replace p395 := eq_true p395; replace q395 := eq_true q395; go_wp2; go_meet
                     case rel => exact ⟨_, (true), pr, H', ⟨by have := HJ2.out; have := HK2.out; have := HK3.out; have := HK4.out; first | omega | exact Nat.le_refl _⟩, ⟨by (try simp only [hl7_3]); (try simp only [hl7_4]); (with_reducible repeat (first | apply Kd.R_alloc | apply Kd.R_drewN | apply Kd.R_drew)); exact HO_7.out⟩, ⟨by (try simp only [hl7_3]); (try simp only [hl7_4]); (with_reducible repeat (first | refine blk_drewN ?_ _ | refine blk_drew ?_ | refine blk_alloc ?_ _)); exact BK385.out⟩, ⟨by (try simp only [hl7_3]); (try simp only [hl7_4]); (with_reducible repeat (first | refine blk_drewN ?_ _ | refine blk_drew ?_ | refine blk_alloc ?_ _)); exact BK392.out⟩, ⟨bl⟩⟩
                    ·rw [if_neg c36] at H; have c36b0 : decide ((rd x7_4 x10_4) < t393) = false := decide_eq_false c36; clear c36; (first | rw [c36b0] | (simp only [i64_w, i32_w]; rw [c36b0]) | skip)
                     by_cases c37 : (rd x7_4 x10_4) > 4096
                     ·rw [if_pos c37] at H; have c37b0 : decide (4096 < (rd x7_4 x10_4)) = true := decide_eq_true c37; clear c37; have H' := Aside0.mk H; clear H
                      have p395 : 0 ≤ (x10_4 : Int) := of_decide_eq_true pa
                      have q395 : x10_4 < (x7_4.length : Int) := of_decide_eq_true pa
                      obtain ⟨ad395, e395, hx395_0⟩ := Kd.at_int (Kd.R_reads' HO_7.out).2.2 x10_4 p395 q395; obtain rfl : (⟨go20, 0, none⟩ : Addr) = ad395 := (by injection e395); (first | simp only [add_plain] at hx395_0 | simp only [add_at] at hx395_0 | simp only [Addr.add, Nat.zero_add] at hx395_0 | skip); replace p395 := eq_true p395; replace q395 := eq_true q395
                      have p396 : 0 ≤ (x10_4 : Int) := of_decide_eq_true pa
                      have q396 : x10_4 < (x7_4.length : Int) := of_decide_eq_true pa
                      obtain ⟨ad396, e396, hx396_0⟩ := Kd.at_int (Kd.R_reads' HO_7.out).2.2 x10_4 p396 q396; obtain rfl : (⟨go20, 0, none⟩ : Addr) = ad396 := (by injection e396); (first | simp only [add_plain] at hx396_0 | simp only [add_at] at hx396_0 | simp only [Addr.add, Nat.zero_add] at hx396_0 | skip); replace p396 := eq_true p396; replace q396 := eq_true q396; go_wp2; go_meet
                      case rel => exact ⟨_, (true), pr, H', ⟨by have := HJ2.out; have := HK2.out; have := HK3.out; have := HK4.out; first | omega | exact Nat.le_refl _⟩, ⟨by (try simp only [hl7_3]); (try simp only [hl7_4]); (with_reducible repeat (first | apply Kd.R_alloc | apply Kd.R_drewN | apply Kd.R_drew)); exact HO_7.out⟩, ⟨by (try simp only [hl7_3]); (try simp only [hl7_4]); (with_reducible repeat (first | refine blk_drewN ?_ _ | refine blk_drew ?_ | refine blk_alloc ?_ _)); exact BK385.out⟩, ⟨by (try simp only [hl7_3]); (try simp only [hl7_4]); (with_reducible repeat (first | refine blk_drewN ?_ _ | refine blk_drew ?_ | refine blk_alloc ?_ _)); exact BK392.out⟩, ⟨bl⟩⟩
                     ·rw [if_neg c37] at H; have c37b0 : decide (4096 < (rd x7_4 x10_4)) = false := decide_eq_false c37; clear c37
                      by_cases c38 : ((rd_T23 ((rd_T33 l0 a1).f0) x10_4).f0) = 24
                      ·rw [if_pos c38] at H; have c38b0 : (((rd_T23 ((rd_T33 l0 a1).f0) x10_4).f0) == 24) = true := beq_iff_eq.mpr c38; have c38b1 : (((rd_T23 ((rd_T33 l0 a1).f0) x10_4).f0) != 24) = false := bne_eq_false_iff_eq.mpr c38; clear c38
                       by_cases c39 : (rd x7_4 x10_4) = 0
                       ·rw [if_pos c39] at H; have c39b0 : ((rd x7_4 x10_4) == 0) = true := beq_iff_eq.mpr c39; have c39b1 : ((rd x7_4 x10_4) != 0) = false := bne_eq_false_iff_eq.mpr c39; clear c39
                        by_cases c40 : ((rd_T23 ((rd_T33 l0 a1).f0) x10_4).f0) = 20
                        ·rw [if_pos c40] at H; have c40b0 : (((rd_T23 ((rd_T33 l0 a1).f0) x10_4).f0) == 20) = true := beq_iff_eq.mpr c40; have c40b1 : (((rd_T23 ((rd_T33 l0 a1).f0) x10_4).f0) != 20) = false := bne_eq_false_iff_eq.mpr c40; clear c40; have H' := Aside0.mk H; clear H
                         have p395 : 0 ≤ (x10_4 : Int) := of_decide_eq_true pa
                         have q395 : x10_4 < (x7_4.length : Int) := of_decide_eq_true pa
                         obtain ⟨ad395, e395, hx395_0⟩ := Kd.at_int (Kd.R_reads' HO_7.out).2.2 x10_4 p395 q395; obtain rfl : (⟨go20, 0, none⟩ : Addr) = ad395 := (by injection e395); (first | simp only [add_plain] at hx395_0 | simp only [add_at] at hx395_0 | simp only [Addr.add, Nat.zero_add] at hx395_0 | skip); replace p395 := eq_true p395; replace q395 := eq_true q395
                         have p396 : 0 ≤ (x10_4 : Int) := of_decide_eq_true pa
                         have q396 : x10_4 < (x7_4.length : Int) := of_decide_eq_true pa
                         obtain ⟨ad396, e396, hx396_0⟩ := Kd.at_int (Kd.R_reads' HO_7.out).2.2 x10_4 p396 q396; obtain rfl : (⟨go20, 0, none⟩ : Addr) = ad396 := (by injection e396); (first | simp only [add_plain] at hx396_0 | simp only [add_at] at hx396_0 | simp only [Addr.add, Nat.zero_add] at hx396_0 | skip); replace p396 := eq_true p396; replace q396 := eq_true q396; have hnb41 := NB392_385.out; have hnc41 := NB385_392.out; obtain ⟨hcz42_0, hcz42_1, hcz42_2⟩ := bd3 BK392.out; have hfz42_0 := blk_frozen BK392.out 0; have hfz42_1 := blk_frozen BK392.out 1; have hfz42_2 := blk_frozen BK392.out 2
                         have p397 : 0 ≤ (x10_4 : Int) := of_decide_eq_true pa
                         have q397 : x10_4 < (x7_4.length : Int) := of_decide_eq_true pa
                         obtain ⟨ad397, e397, hx397_0⟩ := Kd.at_int (Kd.R_reads' HO_7.out).2.2 x10_4 p397 q397; obtain rfl : (⟨go20, 0, none⟩ : Addr) = ad397 := (by injection e397); (first | simp only [add_plain] at hx397_0 | simp only [add_at] at hx397_0 | simp only [Addr.add, Nat.zero_add] at hx397_0 | skip); replace p397 := eq_true p397; replace q397 := eq_true q397
                         have p398 : 0 ≤ (x10_4 : Int) := of_decide_eq_true pa
                         have q398 : x10_4 < (x7_4.length : Int) := of_decide_eq_true pa
                         obtain ⟨ad398, e398, hx398_0⟩ := Kd.at_int (Kd.R_reads' HO_7.out).2.2 x10_4 p398 q398; obtain rfl : (⟨go20, 0, none⟩ : Addr) = ad398 := (by injection e398); (first | simp only [add_plain] at hx398_0 | simp only [add_at] at hx398_0 | simp only [Addr.add, Nat.zero_add] at hx398_0 | skip); replace p398 := eq_true p398; replace q398 := eq_true q398; go_wp2; go_meet
                         case rel => exact ⟨_, (((rd x7_4 x10_4) != t393)), pr, H', ⟨by have := HJ2.out; have := HK2.out; have := HK3.out; have := HK4.out; first | omega | exact Nat.le_refl _⟩, ⟨by (try simp only [hl7_3]); (try simp only [hl7_4]); (with_reducible repeat (first | apply Kd.R_alloc | apply Kd.R_drewN | apply Kd.R_drew)); exact HO_7.out⟩, ⟨by (try simp only [hl7_3]); (try simp only [hl7_4]); (with_reducible repeat (first | refine blk_drewN ?_ _ | refine blk_drew ?_ | refine blk_alloc ?_ _)); exact BK385.out⟩, ⟨by (try simp only [hl7_3]); (try simp only [hl7_4]); (with_reducible repeat (first | refine blk_drewN ?_ _ | refine blk_drew ?_ | refine blk_alloc ?_ _)); exact BK392.out⟩, ⟨bl⟩⟩
                        ·rw [if_neg c40] at H; have c40b0 : (((rd_T23 ((rd_T33 l0 a1).f0) x10_4).f0) == 20) = false := beq_eq_false_iff_ne.mpr c40; have c40b1 : (((rd_T23 ((rd_T33 l0 a1).f0) x10_4).f0) != 20) = true := bne_iff_ne.mpr c40; have H' := Aside0.mk H; clear H
                         have p395 : 0 ≤ (x10_4 : Int) := of_decide_eq_true pa
                         have q395 : x10_4 < (x7_4.length : Int) := of_decide_eq_true pa
                         obtain ⟨ad395, e395, hx395_0⟩ := Kd.at_int (Kd.R_reads' HO_7.out).2.2 x10_4 p395 q395; obtain rfl : (⟨go20, 0, none⟩ : Addr) = ad395 := (by injection e395); (first | simp only [add_plain] at hx395_0 | simp only [add_at] at hx395_0 | simp only [Addr.add, Nat.zero_add] at hx395_0 | skip); replace p395 := eq_true p395; replace q395 := eq_true q395
                         have p396 : 0 ≤ (x10_4 : Int) := of_decide_eq_true pa
                         have q396 : x10_4 < (x7_4.length : Int) := of_decide_eq_true pa
                         obtain ⟨ad396, e396, hx396_0⟩ := Kd.at_int (Kd.R_reads' HO_7.out).2.2 x10_4 p396 q396; obtain rfl : (⟨go20, 0, none⟩ : Addr) = ad396 := (by injection e396); (first | simp only [add_plain] at hx396_0 | simp only [add_at] at hx396_0 | simp only [Addr.add, Nat.zero_add] at hx396_0 | skip); replace p396 := eq_true p396; replace q396 := eq_true q396; have hnb43 := NB392_385.out; have hnc43 := NB385_392.out; obtain ⟨hcz44_0, hcz44_1, hcz44_2⟩ := bd3 BK392.out; have hfz44_0 := blk_frozen BK392.out 0; have hfz44_1 := blk_frozen BK392.out 1; have hfz44_2 := blk_frozen BK392.out 2
                         have p397 : 0 ≤ (x10_4 : Int) := of_decide_eq_true pa
                         have q397 : x10_4 < (x7_4.length : Int) := of_decide_eq_true pa
                         obtain ⟨ad397, e397, hx397_0⟩ := Kd.at_int (Kd.R_reads' HO_7.out).2.2 x10_4 p397 q397; obtain rfl : (⟨go20, 0, none⟩ : Addr) = ad397 := (by injection e397); (first | simp only [add_plain] at hx397_0 | simp only [add_at] at hx397_0 | simp only [Addr.add, Nat.zero_add] at hx397_0 | skip); replace p397 := eq_true p397; replace q397 := eq_true q397; go_wp2; go_meet
                         case rel => exact ⟨_, (false), pr, H', ⟨by have := HJ2.out; have := HK2.out; have := HK3.out; have := HK4.out; first | omega | exact Nat.le_refl _⟩, ⟨by (try simp only [hl7_3]); (try simp only [hl7_4]); (with_reducible repeat (first | apply Kd.R_alloc | apply Kd.R_drewN | apply Kd.R_drew)); exact HO_7.out⟩, ⟨by (try simp only [hl7_3]); (try simp only [hl7_4]); (with_reducible repeat (first | refine blk_drewN ?_ _ | refine blk_drew ?_ | refine blk_alloc ?_ _)); exact BK385.out⟩, ⟨by (try simp only [hl7_3]); (try simp only [hl7_4]); (with_reducible repeat (first | refine blk_drewN ?_ _ | refine blk_drew ?_ | refine blk_alloc ?_ _)); exact BK392.out⟩, ⟨bl⟩⟩
                       ·rw [if_neg c39] at H; have c39b0 : ((rd x7_4 x10_4) == 0) = false := beq_eq_false_iff_ne.mpr c39; have c39b1 : ((rd x7_4 x10_4) != 0) = true := bne_iff_ne.mpr c39; have H' := Aside0.mk H; clear H
                        have p395 : 0 ≤ (x10_4 : Int) := of_decide_eq_true pa
                        have q395 : x10_4 < (x7_4.length : Int) := of_decide_eq_true pa
                        obtain ⟨ad395, e395, hx395_0⟩ := Kd.at_int (Kd.R_reads' HO_7.out).2.2 x10_4 p395 q395; obtain rfl : (⟨go20, 0, none⟩ : Addr) = ad395 := (by injection e395); (first | simp only [add_plain] at hx395_0 | simp only [add_at] at hx395_0 | simp only [Addr.add, Nat.zero_add] at hx395_0 | skip); replace p395 := eq_true p395; replace q395 := eq_true q395
                        have p396 : 0 ≤ (x10_4 : Int) := of_decide_eq_true pa
                        have q396 : x10_4 < (x7_4.length : Int) := of_decide_eq_true pa
                        obtain ⟨ad396, e396, hx396_0⟩ := Kd.at_int (Kd.R_reads' HO_7.out).2.2 x10_4 p396 q396; obtain rfl : (⟨go20, 0, none⟩ : Addr) = ad396 := (by injection e396); (first | simp only [add_plain] at hx396_0 | simp only [add_at] at hx396_0 | simp only [Addr.add, Nat.zero_add] at hx396_0 | skip); replace p396 := eq_true p396; replace q396 := eq_true q396; have hnb45 := NB392_385.out; have hnc45 := NB385_392.out; obtain ⟨hcz46_0, hcz46_1, hcz46_2⟩ := bd3 BK392.out; have hfz46_0 := blk_frozen BK392.out 0; have hfz46_1 := blk_frozen BK392.out 1; have hfz46_2 := blk_frozen BK392.out 2
                        have p397 : 0 ≤ (x10_4 : Int) := of_decide_eq_true pa
                        have q397 : x10_4 < (x7_4.length : Int) := of_decide_eq_true pa
                        obtain ⟨ad397, e397, hx397_0⟩ := Kd.at_int (Kd.R_reads' HO_7.out).2.2 x10_4 p397 q397; obtain rfl : (⟨go20, 0, none⟩ : Addr) = ad397 := (by injection e397); (first | simp only [add_plain] at hx397_0 | simp only [add_at] at hx397_0 | simp only [Addr.add, Nat.zero_add] at hx397_0 | skip); replace p397 := eq_true p397; replace q397 := eq_true q397; go_wp2; go_meet
                        case rel => exact ⟨_, (true), pr, H', ⟨by have := HJ2.out; have := HK2.out; have := HK3.out; have := HK4.out; first | omega | exact Nat.le_refl _⟩, ⟨by (try simp only [hl7_3]); (try simp only [hl7_4]); (with_reducible repeat (first | apply Kd.R_alloc | apply Kd.R_drewN | apply Kd.R_drew)); exact HO_7.out⟩, ⟨by (try simp only [hl7_3]); (try simp only [hl7_4]); (with_reducible repeat (first | refine blk_drewN ?_ _ | refine blk_drew ?_ | refine blk_alloc ?_ _)); exact BK385.out⟩, ⟨by (try simp only [hl7_3]); (try simp only [hl7_4]); (with_reducible repeat (first | refine blk_drewN ?_ _ | refine blk_drew ?_ | refine blk_alloc ?_ _)); exact BK392.out⟩, ⟨bl⟩⟩
                      ·rw [if_neg c38] at H; have c38b0 : (((rd_T23 ((rd_T33 l0 a1).f0) x10_4).f0) == 24) = false := beq_eq_false_iff_ne.mpr c38; have c38b1 : (((rd_T23 ((rd_T33 l0 a1).f0) x10_4).f0) != 24) = true := bne_iff_ne.mpr c38
                       by_cases c47 : ((rd_T23 ((rd_T33 l0 a1).f0) x10_4).f0) = 20
                       ·rw [if_pos c47] at H; have c47b0 : (((rd_T23 ((rd_T33 l0 a1).f0) x10_4).f0) == 20) = true := beq_iff_eq.mpr c47; have c47b1 : (((rd_T23 ((rd_T33 l0 a1).f0) x10_4).f0) != 20) = false := bne_eq_false_iff_eq.mpr c47; clear c47; have H' := Aside0.mk H; clear H
                        have p395 : 0 ≤ (x10_4 : Int) := of_decide_eq_true pa
                        have q395 : x10_4 < (x7_4.length : Int) := of_decide_eq_true pa
                        obtain ⟨ad395, e395, hx395_0⟩ := Kd.at_int (Kd.R_reads' HO_7.out).2.2 x10_4 p395 q395; obtain rfl : (⟨go20, 0, none⟩ : Addr) = ad395 := (by injection e395); (first | simp only [add_plain] at hx395_0 | simp only [add_at] at hx395_0 | simp only [Addr.add, Nat.zero_add] at hx395_0 | skip); replace p395 := eq_true p395; replace q395 := eq_true q395
                        have p396 : 0 ≤ (x10_4 : Int) := of_decide_eq_true pa
                        have q396 : x10_4 < (x7_4.length : Int) := of_decide_eq_true pa
                        obtain ⟨ad396, e396, hx396_0⟩ := Kd.at_int (Kd.R_reads' HO_7.out).2.2 x10_4 p396 q396; obtain rfl : (⟨go20, 0, none⟩ : Addr) = ad396 := (by injection e396); (first | simp only [add_plain] at hx396_0 | simp only [add_at] at hx396_0 | simp only [Addr.add, Nat.zero_add] at hx396_0 | skip); replace p396 := eq_true p396; replace q396 := eq_true q396; have hnb48 := NB392_385.out; have hnc48 := NB385_392.out; obtain ⟨hcz49_0, hcz49_1, hcz49_2⟩ := bd3 BK392.out; have hfz49_0 := blk_frozen BK392.out 0; have hfz49_1 := blk_frozen BK392.out 1; have hfz49_2 := blk_frozen BK392.out 2
                        have p399 : 0 ≤ (x10_4 : Int) := of_decide_eq_true pa
                        have q399 : x10_4 < (x7_4.length : Int) := of_decide_eq_true pa
                        obtain ⟨ad399, e399, hx399_0⟩ := Kd.at_int (Kd.R_reads' HO_7.out).2.2 x10_4 p399 q399; obtain rfl : (⟨go20, 0, none⟩ : Addr) = ad399 := (by injection e399); (first | simp only [add_plain] at hx399_0 | simp only [add_at] at hx399_0 | simp only [Addr.add, Nat.zero_add] at hx399_0 | skip); replace p399 := eq_true p399; replace q399 := eq_true q399; go_wp2; go_meet
                        case rel => exact ⟨_, (((rd x7_4 x10_4) != t393)), pr, H', ⟨by have := HJ2.out; have := HK2.out; have := HK3.out; have := HK4.out; first | omega | exact Nat.le_refl _⟩, ⟨by (try simp only [hl7_3]); (try simp only [hl7_4]); (with_reducible repeat (first | apply Kd.R_alloc | apply Kd.R_drewN | apply Kd.R_drew)); exact HO_7.out⟩, ⟨by (try simp only [hl7_3]); (try simp only [hl7_4]); (with_reducible repeat (first | refine blk_drewN ?_ _ | refine blk_drew ?_ | refine blk_alloc ?_ _)); exact BK385.out⟩, ⟨by (try simp only [hl7_3]); (try simp only [hl7_4]); (with_reducible repeat (first | refine blk_drewN ?_ _ | refine blk_drew ?_ | refine blk_alloc ?_ _)); exact BK392.out⟩, ⟨bl⟩⟩
                       ·rw [if_neg c47] at H; have c47b0 : (((rd_T23 ((rd_T33 l0 a1).f0) x10_4).f0) == 20) = false := beq_eq_false_iff_ne.mpr c47; have c47b1 : (((rd_T23 ((rd_T33 l0 a1).f0) x10_4).f0) != 20) = true := bne_iff_ne.mpr c47; have H' := Aside0.mk H; clear H
                        have p395 : 0 ≤ (x10_4 : Int) := of_decide_eq_true pa
                        have q395 : x10_4 < (x7_4.length : Int) := of_decide_eq_true pa
                        obtain ⟨ad395, e395, hx395_0⟩ := Kd.at_int (Kd.R_reads' HO_7.out).2.2 x10_4 p395 q395; obtain rfl : (⟨go20, 0, none⟩ : Addr) = ad395 := (by injection e395); (first | simp only [add_plain] at hx395_0 | simp only [add_at] at hx395_0 | simp only [Addr.add, Nat.zero_add] at hx395_0 | skip); replace p395 := eq_true p395; replace q395 := eq_true q395
                        have p396 : 0 ≤ (x10_4 : Int) := of_decide_eq_true pa
                        have q396 : x10_4 < (x7_4.length : Int) := of_decide_eq_true pa
                        obtain ⟨ad396, e396, hx396_0⟩ := Kd.at_int (Kd.R_reads' HO_7.out).2.2 x10_4 p396 q396; obtain rfl : (⟨go20, 0, none⟩ : Addr) = ad396 := (by injection e396); (first | simp only [add_plain] at hx396_0 | simp only [add_at] at hx396_0 | simp only [Addr.add, Nat.zero_add] at hx396_0 | skip); replace p396 := eq_true p396; replace q396 := eq_true q396; have hnb50 := NB392_385.out; have hnc50 := NB385_392.out; obtain ⟨hcz51_0, hcz51_1, hcz51_2, hfz51_0, hfz51_1, hfz51_2⟩ := bc3 BK392.out; go_wp2; go_meet
                        case rel => exact ⟨_, (false), pr, H', ⟨by have := HJ2.out; have := HK2.out; have := HK3.out; have := HK4.out; first | omega | exact Nat.le_refl _⟩, ⟨by (try simp only [hl7_3]); (try simp only [hl7_4]); (with_reducible repeat (first | apply Kd.R_alloc | apply Kd.R_drewN | apply Kd.R_drew)); exact HO_7.out⟩, ⟨by (try simp only [hl7_3]); (try simp only [hl7_4]); (with_reducible repeat (first | refine blk_drewN ?_ _ | refine blk_drew ?_ | refine blk_alloc ?_ _)); exact BK385.out⟩, ⟨by (try simp only [hl7_3]); (try simp only [hl7_4]); (with_reducible repeat (first | refine blk_drewN ?_ _ | refine blk_drew ?_ | refine blk_alloc ?_ _)); exact BK392.out⟩, ⟨bl⟩⟩
                   case rest =>
                    clear HC30; (try clear c25b0); (try clear c26b0); (try clear c27b0); (try clear c28b0); (try clear hcz31_0); (try clear hcz31_1); (try clear hcz31_2); (try clear hcz31_3); (try clear hcz34_0); (try clear hcz34_1); (try clear hcz34_2); (try clear hfz31_0); (try clear hfz31_1); (try clear hfz31_2); (try clear hfz31_3); (try clear hfz34_0); (try clear hfz34_1); (try clear hfz34_2); (try clear hx390_0); (try clear hx391_0); (try clear hx391_1); (try clear hx391_2); (try clear p390); (try clear p391); (try clear q390); (try clear q391); obtain ⟨kq, x109_29, rfl, HA, HJ29, HO_7, BK385, BK392, HB⟩ := hcut
                    cases kq with
                    | zero => exact absurd HA.out (by simp [parallaxref08_Heights.j4])
                    | succ kj29 =>
                     have H := HA.out; clear HA; simp only [parallaxref08_Heights.j4] at H
                     by_cases c52 : x109_29 = true
                     ·subst c52; rw [if_pos rfl] at H; simp only [Option.some.injEq, Prod.mk.injEq] at H; obtain ⟨rfl, rfl⟩ := H; go_wp2; go_ret2; exact ⟨_, pe, pn, bl⟩
                     ·replace c52 := Bool.eq_false_iff.mpr c52; subst c52; rw [if_neg (show ¬ (false = true) by decide)] at H; replace H := Option.bind_eq_some_iff.mp H; obtain ⟨t400, A530, H⟩ := H; have A53 := Aside0.mk A530; clear A530; have H' := Aside0.mk H; clear H; have hnb54 := NB392_385.out; have hnc54 := NB385_392.out; obtain ⟨hcz55_0, hcz55_1, hcz55_2⟩ := bd3 BK392.out; have hfz55_0 := blk_frozen BK392.out 0; have hfz55_1 := blk_frozen BK392.out 1; have hfz55_2 := blk_frozen BK392.out 2
                      go_wp2_with (first | ((with_reducible refine gate_callee (f := 36) rfl ?_); refine goesL_ (some 112) rfl rfl Tryd.func36 (by kernel_rfl) rfl #[.agg #[.int .i64 ((rd_T23 ((rd_T33 l0 a1).f0) x10_4).f0), .int .i64 ((rd_T23 ((rd_T33 l0 a1).f0) x10_4).f1), .int .i64 ((rd_T23 ((rd_T33 l0 a1).f0) x10_4).f2)], .int .i64 x10_4] rfl (by (try simp only [List.map_toArray, List.map_cons, List.map_nil]); first | done | rfl | (simp only [List.length_drop, List.length_take]; rfl)) ?_; (with_reducible refine (parallaxref08_follow.calls ((rd_T23 ((rd_T33 l0 a1).f0) x10_4).f0) ((rd_T23 ((rd_T33 l0 a1).f0) x10_4).f1) ((rd_T23 ((rd_T33 l0 a1).f0) x10_4).f2) x10_4 t400 _ A53.out).mono ?_); rintro e w56 ⟨v401, rfl, ho0, hb⟩; refine ⟨_, rfl, ?_⟩; have n0_ := Aside0.mk (Kd.R_elder' (bR HO_7.out) (Kd.R_base ho0) hb); have n1_ := Aside0.mk (Kd.R_lower (Kd.R_new' ho0 (Kd.R_lt (bR HO_7.out))) (below_size bl)); have n2_ := Aside0.mk (blk_below (g := gb385) (o := .cells #[.slice (some ad391) ((rd_T33 l0 a1).f0).length c384_0, .int .i64 ((rd_T33 l0 a1).f1), .int .i64 ((rd_T33 l0 a1).f2), .bool ((rd_T33 l0 a1).f3)] 33 (0, 0)) bk hb); have n3_ := Aside0.mk (blk_below (g := gb392) (o := .cells #[.int .i64 ((rd_T23 ((rd_T33 l0 a1).f0) x10_4).f0), .int .i64 ((rd_T23 ((rd_T33 l0 a1).f0) x10_4).f1), .int .i64 ((rd_T23 ((rd_T33 l0 a1).f0) x10_4).f2)] 23 (0, 0)) bk hb); have n4_ := Aside0.mk (below_step bl hb); clear HO_7 BK385; clear BK392 HB; have HO_7 := n0_; have HO402 := n1_; have BK385 := n2_; have BK392 := n3_; have HB := n4_; clear n0_ n1_ n2_ n3_ n4_; (try clear hb); (try clear ho0)))
                      go_loopg [9, 15] kj29 (fun kq v9 v15 w' => ∃ (x7_6 : List Int) (x9_6 : Bool) (x15_6 : Int), v9 = .bool x9_6 ∧ v15 = .int .i64 x15_6 ∧ Aside0 (parallaxref08_Heights.l3 kq l0 x7_6 x9_6 x10_4 t393 t394 t400 x15_6 ((rd_T33 l0 a1).f0) ((rd_T33 l0 a1).f1) ((rd_T33 l0 a1).f2) ((rd_T33 l0 a1).f3) = some (r1, r2)) ∧ Aside0 (kq ≤ kj29) ∧ Aside0 (Kd.R (Kd.int .i64) 3 w' w.heap.size (fun k_ => some k_ ≠ (v401 : Value).ownBlock) (.slice (some ⟨go20, 0, none⟩) x7_4.length co20) x7_6) ∧ Aside0 (Kd.R (Kd.int .i64) 3 w' w.heap.size (fun k_ => some k_ ≠ ((.slice (some ⟨go20, 0, none⟩) x7_4.length co20) : Value).ownBlock) v401 t400) ∧ Aside0 (w'.heap[gb385]? = some (.cells #[(.slice (some ad391) ((rd_T33 l0 a1).f0).length c384_0), .int .i64 ((rd_T33 l0 a1).f1), .int .i64 ((rd_T33 l0 a1).f2), .bool ((rd_T33 l0 a1).f3)] 33 (0, 0))) ∧ Aside0 (w'.heap[gb392]? = some (.cells #[.int .i64 ((rd_T23 ((rd_T33 l0 a1).f0) x10_4).f0), .int .i64 ((rd_T23 ((rd_T33 l0 a1).f0) x10_4).f1), .int .i64 ((rd_T23 ((rd_T33 l0 a1).f0) x10_4).f2)] 23 (0, 0))) ∧ Aside0 (Below w.heap.size w w'))
                      case atStart => exact ⟨(x7_4), (x9_4), (0), pr, pr, H', ⟨Nat.le_refl _⟩, ⟨by (try simp only [hl7_3]); (try simp only [hl7_4]); (with_reducible repeat (first | apply Kd.R_alloc | apply Kd.R_drewN | apply Kd.R_drew)); exact Kd.R_mono HO_7.out (fun _ hk => hk.2)⟩, ⟨by (try simp only [hl7_3]); (try simp only [hl7_4]); (with_reducible repeat (first | apply Kd.R_alloc | apply Kd.R_drewN | apply Kd.R_drew)); exact Kd.R_mono HO402.out (fun _ hk => hk.2)⟩, ⟨by (try simp only [hl7_3]); (try simp only [hl7_4]); (with_reducible repeat (first | refine blk_drewN ?_ _ | refine blk_drew ?_ | refine blk_alloc ?_ _)); exact BK385.out⟩, ⟨by (try simp only [hl7_3]); (try simp only [hl7_4]); (with_reducible repeat (first | refine blk_drewN ?_ _ | refine blk_drew ?_ | refine blk_alloc ?_ _)); exact BK392.out⟩, ⟨bl⟩⟩
                      case round =>
                       clear H'; (try clear hcz55_0); (try clear hcz55_1); (try clear hcz55_2); (try clear hfz55_0); (try clear hfz55_1); (try clear hfz55_2); obtain ⟨x7_6, x9_6, x15_6, rfl, rfl, HA, HK6, HO_7, HO_14, BK385, BK392, HB⟩ := hrel; have hl7_6 := (Kd.R_reads' HO_7.out).1; rw [hl7_6] at HO_7; (try simp only [hl7_6])
                       (try simp only [hl7_6] at BK385); (try simp only [hl7_6] at BK392); (try simp only [hl7_6] at HO_14)
                       cases gk with
                       | zero => exact absurd HA.out (by simp [parallaxref08_Heights.l3])
                       | succ k6 =>
                        have H := HA.out; clear HA; simp only [parallaxref08_Heights.l3] at H
                        by_cases c57 : x15_6 < (t400.length : Int)
                        ·rw [if_pos c57] at H; have c57b0 : decide (x15_6 < (t400.length : Int)) = true := decide_eq_true c57; clear c57
                         by_cases c58 : 0 ≤ x15_6
                         ·rw [if_pos c58] at H; have c58b0 : decide (0 ≤ x15_6) = true := decide_eq_true c58; clear c58
                          by_cases c59 : (rd t400 x15_6) ≥ (x7_6.length : Int)
                          ·rw [if_pos c59] at H; have c59b0 : decide ((x7_6.length : Int) ≤ (rd t400 x15_6)) = true := decide_eq_true c59; clear c59; simp only [Option.some.injEq, Prod.mk.injEq] at H; obtain ⟨rfl, rfl⟩ := H; obtain ⟨Ao60, co60, eo60⟩ := Kd.R_slice HO_14.out; subst eo60
                           have p403 : 0 ≤ (x15_6 : Int) := of_decide_eq_true pa
                           have q403 : x15_6 < (t400.length : Int) := of_decide_eq_true pa
                           obtain ⟨ad403, e403, hx403_0⟩ := Kd.at_int (Kd.R_reads' HO_14.out).2.2 x15_6 p403 q403
                           cases e403
                           replace p403 := eq_true p403; replace q403 := eq_true q403; go_wp2; go_ret2; exact ⟨_, pe, pn, bl⟩
                          ·rw [if_neg c59] at H; have c59b0 : decide ((x7_6.length : Int) ≤ (rd t400 x15_6)) = false := decide_eq_false c59; clear c59
                           by_cases c61 : 0 ≤ (rd t400 x15_6)
                           ·rw [if_pos c61] at H; have c61b0 : decide (0 ≤ (rd t400 x15_6)) = true := decide_eq_true c61; clear c61
                            by_cases c62 : (rd t400 x15_6) < (x7_6.length : Int)
                            ·rw [if_pos c62] at H; have c62b0 : decide ((rd t400 x15_6) < (x7_6.length : Int)) = true := decide_eq_true c62; clear c62
                             by_cases c63 : (rd x7_6 (rd t400 x15_6)) < 0
                             ·rw [if_pos c63] at H; have c63b0 : decide ((rd x7_6 (rd t400 x15_6)) < 0) = true := decide_eq_true c63; clear c63
                              by_cases c64 : 0 ≤ x10_4
                              ·rw [if_pos c64] at H; have c64b0 : decide (0 ≤ x10_4) = true := decide_eq_true c64; clear c64
                               by_cases c65 : x10_4 < (x7_6.length : Int)
                               ·rw [if_pos c65] at H; have c65b0 : decide (x10_4 < (x7_6.length : Int)) = true := decide_eq_true c65; clear c65; obtain ⟨y408, hy408⟩ : ∃ y_ : List Int, y_ = (x7_6.set ((rd t400 x15_6) : Int).toNat (wrap64 ((wrap64 ((rd x7_6 x10_4) - t393)) + t394))) := ⟨_, rfl⟩; (first | replace H := hs hy408 H | rw [← hy408] at H)
                                have Ny408 := Aside0.mk hy408; clear hy408
                                by_cases c67 : (rd y408 (rd t400 x15_6)) = (wrap64 ((wrap64 ((rd y408 x10_4) - t393)) + t394))
                                ·rw [if_pos c67] at H; have c67b0 : ((rd y408 (rd t400 x15_6)) == (wrap64 ((wrap64 ((rd y408 x10_4) - t393)) + t394))) = true := beq_iff_eq.mpr c67; have c67b1 : ((rd y408 (rd t400 x15_6)) != (wrap64 ((wrap64 ((rd y408 x10_4) - t393)) + t394))) = false := bne_eq_false_iff_eq.mpr c67; clear c67; have H' := Aside0.mk H; clear H; obtain ⟨Ao68, co68, eo68⟩ := Kd.R_slice HO_14.out; subst eo68
                                 have p403 : 0 ≤ (x15_6 : Int) := of_decide_eq_true pa
                                 have q403 : x15_6 < (t400.length : Int) := of_decide_eq_true pa
                                 obtain ⟨ad403, e403, hx403_0⟩ := Kd.at_int (Kd.R_reads' HO_14.out).2.2 x15_6 p403 q403
                                 cases e403
                                 replace p403 := eq_true p403; replace q403 := eq_true q403
                                 have p404 : 0 ≤ (x15_6 : Int) := of_decide_eq_true pa
                                 have q404 : x15_6 < (t400.length : Int) := of_decide_eq_true pa
                                 obtain ⟨ad404, e404, hx404_0⟩ := Kd.at_int (Kd.R_reads' HO_14.out).2.2 x15_6 p404 q404; obtain rfl : ad403 = ad404 := (by injection e404); replace p404 := eq_true p404; replace q404 := eq_true q404
                                 have p405 : 0 ≤ ((rd t400 x15_6) : Int) := of_decide_eq_true pa
                                 have q405 : (rd t400 x15_6) < (x7_6.length : Int) := of_decide_eq_true pa
                                 obtain ⟨ad405, e405, hx405_0⟩ := Kd.at_int (Kd.R_reads' HO_7.out).2.2 (rd t400 x15_6) p405 q405; obtain rfl : (⟨go20, 0, none⟩ : Addr) = ad405 := (by injection e405); (first | simp only [add_plain] at hx405_0 | simp only [add_at] at hx405_0 | simp only [Addr.add, Nat.zero_add] at hx405_0 | skip); replace p405 := eq_true p405; replace q405 := eq_true q405; (try go_wp2); have n0_ := Aside0.mk (Kd.R_drew HO_7.out); have n1_ := Aside0.mk (Kd.R_drew HO_14.out); have n2_ := Aside0.mk (blk_drew BK385.out); have n3_ := Aside0.mk (blk_drew BK392.out); have n4_ := Aside0.mk (below_drew1 HB.out); clear HO_7 HO_14; clear BK385 BK392 HB; have HO_7 := n0_; have HO_14 := n1_; have BK385 := n2_; have BK392 := n3_; have HB := n4_; clear n0_ n1_ n2_ n3_ n4_
                                 have p406 : 0 ≤ (x15_6 : Int) := of_decide_eq_true pa
                                 have q406 : x15_6 < (t400.length : Int) := of_decide_eq_true pa
                                 obtain ⟨ad406, e406, hx406_0⟩ := Kd.at_int (Kd.R_reads' HO_14.out).2.2 x15_6 p406 q406; obtain rfl : ad403 = ad406 := (by injection e406); replace p406 := eq_true p406; replace q406 := eq_true q406
                                 have p407 : 0 ≤ (x10_4 : Int) := of_decide_eq_true pa
                                 have q407 : x10_4 < (x7_6.length : Int) := of_decide_eq_true pa
                                 obtain ⟨ad407, e407, hx407_0⟩ := Kd.at_int (Kd.R_reads' HO_7.out).2.2 x10_4 p407 q407; obtain rfl : (⟨go20, 0, none⟩ : Addr) = ad407 := (by injection e407); (first | simp only [add_plain] at hx407_0 | simp only [add_at] at hx407_0 | simp only [Addr.add, Nat.zero_add] at hx407_0 | skip); replace p407 := eq_true p407; replace q407 := eq_true q407
                                 have p66 : 0 ≤ ((rd t400 x15_6) : Int) := of_decide_eq_true pa
                                 have q66 : ((rd t400 x15_6) : Int) < ((x7_6.length : Int) : Int) := of_decide_eq_true pa
                                 obtain ⟨hx66_0, hf66_0⟩ := Kd.R_celln 0 HO_7.out ((rd t400 x15_6) : Int) p66 q66; replace p66 := eq_true p66; replace q66 := eq_true q66; have HP70 := Kd.R_putn HO_7.out ((rd t400 x15_6) : Int) (wrap64 ((wrap64 ((rd x7_6 x10_4) - t393)) + t394)); rw [← Ny408.out] at HP70; have HQ70 := Aside0.mk HP70; clear HP70; refine start_ (n := 15) (S := fun w' => w'.cell? (ad403.add (x15_6).toNat) = some (.int .i64 (rd t400 x15_6)) ∧ w'.cell? ⟨go20, (x10_4).toNat, none⟩ = some (.int .i64 (rd x7_6 x10_4))) (ds := [14]) #[false, false, false, false, false, false, false, false, false, false, false, false, false, false, false] (by kernel_rfl) rfl rfl ⟨hx406_0, hx407_0⟩ (fun hHeld => ?_); refine with_tabW parallaxref08_Heights.tab28 parallaxref08_Heights.bits28 (fun HT_ HW_ => ?_); generalize wr.drew = w69 at HO_7 HO_14 BK385 BK392 HB HQ70 hf66_0 hx406_0 hx407_0 hx66_0 hHeld ⊢; refine pure_ (i := 0) (N := some 134) (v := ?_) (a' := ?_) #[true, false, false, false, false, false, false, false, false, false, false, false, false, false, false] rfl rfl (any_of HT_.out (by kernel_rfl)) (fun _ _ _ h => h) (Or.inl ⟨by rfl, ?_⟩) ?_ ?_; rotate_left
                                 ·intro w'; go_simp; first | with_reducible rfl | rfl
                                 rotate_left
                                 ·exact pt
                                 refine pure_ (i := 1) (N := some 135) (v := ?_) (a' := ?_) #[true, true, false, false, false, false, false, false, false, false, false, false, false, false, false] rfl rfl (any_of HT_.out (by kernel_rfl)) (fun _ _ _ h => h) (Or.inl ⟨by rfl, ?_⟩) ?_ ?_; rotate_left
                                 ·intro w'; go_simp; first | with_reducible rfl | rfl
                                 rotate_left
                                 ·exact pt
                                 refine pure_ (i := 2) (N := some 136) (v := ?_) (a' := ?_) #[true, true, true, false, false, false, false, false, false, false, false, false, false, false, false] rfl rfl (any_of HT_.out (by kernel_rfl)) (fun _ _ _ h => h) (Or.inl ⟨by rfl, ?_⟩) ?_ ?_; rotate_left
                                 ·intro w'; go_simp; first | with_reducible rfl | rfl
                                 rotate_left
                                 ·exact pt
                                 refine pure_ (i := 3) (N := some 137) (v := ?_) (a' := ?_) #[true, true, true, true, false, false, false, false, false, false, false, false, false, false, false] rfl rfl (any_of HT_.out (by kernel_rfl)) (fun _ _ _ h => h) (Or.inl ⟨by rfl, ?_⟩) ?_ ?_; rotate_left
                                 ·intro w'; go_simp; first | with_reducible rfl | rfl
                                 rotate_left
                                 ·exact pt
                                 refine pure_ (i := 5) (N := some 139) (v := ?_) (a' := ?_) #[true, true, true, true, false, true, false, false, false, false, false, false, false, false, false] rfl rfl (any_of HT_.out (by kernel_rfl)) (fun _ _ _ h => h) (Or.inl ⟨by rfl, ?_⟩) ?_ ?_; rotate_left
                                 ·intro w'; go_simp; first | with_reducible rfl | rfl
                                 rotate_left
                                 ·exact pt
                                 refine pure_ (i := 6) (N := some 140) (v := ?_) (a' := ?_) #[true, true, true, true, false, true, true, false, false, false, false, false, false, false, false] rfl rfl (any_of HT_.out (by kernel_rfl)) (fun _ _ _ h => h) (Or.inl ⟨by rfl, ?_⟩) ?_ ?_; rotate_left
                                 ·intro w'; go_simp; first | with_reducible rfl | rfl
                                 rotate_left
                                 ·exact pt
                                 refine pure_ (i := 7) (N := some 141) (v := ?_) (a' := ?_) #[true, true, true, true, false, true, true, true, false, false, false, false, false, false, false] rfl rfl (any_of HT_.out (by kernel_rfl)) (fun _ _ _ h => h) (Or.inl ⟨by rfl, ?_⟩) ?_ ?_; rotate_left
                                 ·intro w'; go_simp; first | with_reducible rfl | rfl
                                 rotate_left
                                 ·exact pt
                                 refine pure_ (i := 9) (N := some 143) (v := ?_) (a' := ?_) #[true, true, true, true, false, true, true, true, false, true, false, false, false, false, false] rfl rfl (any_of HT_.out (by kernel_rfl)) (fun _ _ _ h => h) (Or.inl ⟨by rfl, ?_⟩) ?_ ?_; rotate_left
                                 ·intro w'; go_simp; first | with_reducible rfl | rfl
                                 rotate_left
                                 ·exact pt
                                 refine pure_ (i := 11) (N := some 145) (v := ?_) (a' := ?_) #[true, true, true, true, false, true, true, true, false, true, false, true, false, false, false] rfl rfl (any_of HT_.out (by kernel_rfl)) (fun _ _ _ h => h) (Or.inl ⟨by rfl, ?_⟩) ?_ ?_; rotate_left
                                 ·intro w'; go_simp; first | with_reducible rfl | rfl
                                 rotate_left
                                 ·exact pt
                                 refine take_ (i := 4) (N := some 138) (v := ?_) (a' := ?_) #[true, true, true, true, true, true, true, true, false, true, false, true, false, false, false] rfl rfl (take_ofW HT_.out HW_.out (by kernel_rfl)) (fun _ _ _ h => h) (Or.inl ⟨by rfl, ?_⟩) hHeld ?_ ?_; rotate_left
                                 ·rintro w' ⟨s0, s1⟩; go_simp; first | with_reducible rfl | rfl
                                 rotate_left
                                 ·exact pt
                                 refine take_ (i := 8) (N := some 142) (v := ?_) (a' := ?_) #[true, true, true, true, true, true, true, true, true, true, false, true, false, false, false] rfl rfl (take_ofW HT_.out HW_.out (by kernel_rfl)) (fun _ _ _ h => h) (Or.inl ⟨by rfl, ?_⟩) hHeld ?_ ?_; rotate_left
                                 ·rintro w' ⟨s0, s1⟩; go_simp; first | with_reducible rfl | rfl
                                 rotate_left
                                 ·exact pt
                                 refine pure_ (i := 10) (N := some 144) (v := ?_) (a' := ?_) #[true, true, true, true, true, true, true, true, true, true, true, true, false, false, false] rfl rfl (any_of HT_.out (by kernel_rfl)) (fun _ _ _ h => h) (Or.inl ⟨by rfl, ?_⟩) ?_ ?_; rotate_left
                                 ·intro w'; go_simp; first | with_reducible rfl | rfl
                                 rotate_left
                                 ·exact pt
                                 refine pure_ (i := 12) (N := some 146) (v := ?_) (a' := ?_) #[true, true, true, true, true, true, true, true, true, true, true, true, true, false, false] rfl rfl (any_of HT_.out (by kernel_rfl)) (fun _ _ _ h => h) (Or.inl ⟨by rfl, ?_⟩) ?_ ?_; rotate_left
                                 ·intro w'; go_simp; first | with_reducible rfl | rfl
                                 rotate_left
                                 ·exact pt
                                 refine pure_ (i := 13) (N := some 147) (v := ?_) (a' := ?_) #[true, true, true, true, true, true, true, true, true, true, true, true, true, true, false] rfl rfl (any_of HT_.out (by kernel_rfl)) (fun _ _ _ h => h) (Or.inl ⟨by rfl, ?_⟩) ?_ ?_; rotate_left
                                 ·intro w'; go_simp; first | with_reducible rfl | rfl
                                 rotate_left
                                 ·exact pt
                                 refine last_ (i := 14) (N := none) #[true, true, true, true, true, true, true, true, true, true, true, true, true, true, true] rfl rfl (one_of HT_.out (by kernel_rfl)) (by decide) (fun K hK => ?_); refine skip_ (w1 := ?_) (by rfl) rfl ?_ ?_; rotate_left
                                 ·go_simp; rfl
                                 refine hK.out _ _ ?_; clear hK K; refine done_ (done_of HT_.out (by kernel_rfl)) ?_; (try go_wp2)
                                 have n0_ : Aside0 (Kd.R (Kd.int .i64) 3 (w69.setCell ⟨go20, ((rd t400 x15_6) : Int).toNat, none⟩ (.int .i64 (wrap64 ((wrap64 ((rd x7_6 x10_4) - t393)) + t394)))) w.heap.size (fun k_ => some k_ ≠ (.slice (some ad403) t400.length co68 : Value).ownBlock) (.slice (some ⟨go20, 0, none⟩) x7_6.length co20) y408) := ⟨by (with_reducible repeat (first | apply Kd.R_alloc | apply Kd.R_drewN | apply Kd.R_drew)); exact HQ70.out⟩
                                 have n1_ : Aside0 (Kd.R (Kd.int .i64) 3 (w69.setCell ⟨go20, ((rd t400 x15_6) : Int).toNat, none⟩ (.int .i64 (wrap64 ((wrap64 ((rd x7_6 x10_4) - t393)) + t394)))) w.heap.size (fun k_ => some k_ ≠ (.slice (some ⟨go20, 0, none⟩) x7_6.length co20 : Value).ownBlock) (.slice (some ad403) t400.length co68) t400) := ⟨by (with_reducible repeat (first | apply Kd.R_alloc | apply Kd.R_drewN | apply Kd.R_drew)); exact Kd.R_mono (Kd.R_far (p := ⟨go20, ((rd t400 x15_6) : Int).toNat, none⟩) (Kd.R_mono HO_14.out (fun k_ hk => (⟨hk, fun e_ => hk (by rw [e_]; rfl)⟩ : _ ∧ k_ ≠ go20))) (fun _ hk => hk.2) (.int .i64 (wrap64 ((wrap64 ((rd x7_6 x10_4) - t393)) + t394)))) (fun _ hk => hk.1)⟩
                                 have n2_ : Aside0 ((w69.setCell ⟨go20, ((rd t400 x15_6) : Int).toNat, none⟩ (.int .i64 (wrap64 ((wrap64 ((rd x7_6 x10_4) - t393)) + t394)))).heap[gb385]? = some (.cells #[.slice (some ad391) ((rd_T33 l0 a1).f0).length c384_0, .int .i64 ((rd_T33 l0 a1).f1), .int .i64 ((rd_T33 l0 a1).f2), .bool ((rd_T33 l0 a1).f3)] 33 (0, 0))) := ⟨by (with_reducible repeat (first | refine blk_drewN ?_ _ | refine blk_drew ?_ | refine blk_alloc ?_ _)); refine blk_far ?_ (by have h_ := Kd.R_ne HO_7.out BK385.out (by decide); intro e_; exact h_ (by rw [e_]; rfl)) _; (with_reducible repeat (first | refine blk_drewN ?_ _ | refine blk_drew ?_ | refine blk_alloc ?_ _)); exact BK385.out⟩
                                 have n3_ : Aside0 ((w69.setCell ⟨go20, ((rd t400 x15_6) : Int).toNat, none⟩ (.int .i64 (wrap64 ((wrap64 ((rd x7_6 x10_4) - t393)) + t394)))).heap[gb392]? = some (.cells #[.int .i64 ((rd_T23 ((rd_T33 l0 a1).f0) x10_4).f0), .int .i64 ((rd_T23 ((rd_T33 l0 a1).f0) x10_4).f1), .int .i64 ((rd_T23 ((rd_T33 l0 a1).f0) x10_4).f2)] 23 (0, 0))) := ⟨by (with_reducible repeat (first | refine blk_drewN ?_ _ | refine blk_drew ?_ | refine blk_alloc ?_ _)); refine blk_far ?_ (by have h_ := Kd.R_ne HO_7.out BK392.out (by decide); intro e_; exact h_ (by rw [e_]; rfl)) _; (with_reducible repeat (first | refine blk_drewN ?_ _ | refine blk_drew ?_ | refine blk_alloc ?_ _)); exact BK392.out⟩
                                 have n4_ : Aside0 (Below w.heap.size w (w69.setCell ⟨go20, ((rd t400 x15_6) : Int).toNat, none⟩ (.int .i64 (wrap64 ((wrap64 ((rd x7_6 x10_4) - t393)) + t394))))) := ⟨bl⟩
                                 (try clear HO_7); (try clear HO_14); (try clear BK385); (try clear BK392); (try clear HB); generalize (w69.setCell ⟨go20, ((rd t400 x15_6) : Int).toNat, none⟩ (.int .i64 (wrap64 ((wrap64 ((rd x7_6 x10_4) - t393)) + t394)))) = w71 at n0_ n1_ n2_ n3_ n4_ ⊢; have HO_7 := n0_; have HO_14 := n1_; have BK385 := n2_; have BK392 := n3_; have HB := n4_; clear n0_ n1_ n2_ n3_ n4_; have n0_ := Aside0.mk (Kd.R_drew HO_7.out); have n1_ := Aside0.mk (Kd.R_drew HO_14.out); have n2_ := Aside0.mk (blk_drew BK385.out); have n3_ := Aside0.mk (blk_drew BK392.out); have n4_ := Aside0.mk (below_drew1 HB.out); clear HO_7 HO_14; clear BK385 BK392 HB; have HO_7 := n0_; have HO_14 := n1_; have BK385 := n2_; have BK392 := n3_; have HB := n4_; clear n0_ n1_ n2_ n3_ n4_
                                 have p409 : 0 ≤ (x15_6 : Int) := of_decide_eq_true pa
                                 have q409 : x15_6 < (t400.length : Int) := of_decide_eq_true pa
                                 obtain ⟨ad409, e409, hx409_0⟩ := Kd.at_int (Kd.R_reads' HO_14.out).2.2 x15_6 p409 q409; obtain rfl : ad403 = ad409 := (by injection e409); replace p409 := eq_true p409; replace q409 := eq_true q409
                                 have p410 : 0 ≤ ((rd t400 x15_6) : Int) := of_decide_eq_true pa
                                 have q410 : (rd t400 x15_6) < (y408.length : Int) := (by have h_ : ((rd t400 x15_6) : Int) < ((x7_6.length : Int) : Int) := of_decide_eq_true pa; first | (have e_ := (Kd.R_reads' HO_7.out).1; omega) | simpa only [Ny408.out, List.length_set] using h_)
                                 have ql410 : (((rd t400 x15_6) : Int) < ((x7_6.length : Int) : Int)) = True := eq_true (of_decide_eq_true pa)
                                 obtain ⟨ad410, e410, hx410_0⟩ := Kd.at_int (Kd.R_reads' HO_7.out).2.2 (rd t400 x15_6) p410 q410; obtain rfl : (⟨go20, 0, none⟩ : Addr) = ad410 := (by injection e410); (first | simp only [add_plain] at hx410_0 | simp only [add_at] at hx410_0 | simp only [Addr.add, Nat.zero_add] at hx410_0 | skip); replace p410 := eq_true p410; replace q410 := eq_true q410
                                 have p411 : 0 ≤ (x10_4 : Int) := of_decide_eq_true pa
                                 have q411 : x10_4 < (y408.length : Int) := (by have h_ : (x10_4 : Int) < ((x7_6.length : Int) : Int) := of_decide_eq_true pa; first | (have e_ := (Kd.R_reads' HO_7.out).1; omega) | simpa only [Ny408.out, List.length_set] using h_)
                                 have ql411 : ((x10_4 : Int) < ((x7_6.length : Int) : Int)) = True := eq_true (of_decide_eq_true pa)
                                 obtain ⟨ad411, e411, hx411_0⟩ := Kd.at_int (Kd.R_reads' HO_7.out).2.2 x10_4 p411 q411; obtain rfl : (⟨go20, 0, none⟩ : Addr) = ad411 := (by injection e411); (first | simp only [add_plain] at hx411_0 | simp only [add_at] at hx411_0 | simp only [Addr.add, Nat.zero_add] at hx411_0 | skip); replace p411 := eq_true p411; replace q411 := eq_true q411; refine start_ (n := 16) (S := fun w' => w'.cell? (ad403.add (x15_6).toNat) = some (.int .i64 (rd t400 x15_6)) ∧ w'.cell? ⟨go20, ((rd t400 x15_6)).toNat, none⟩ = some (.int .i64 (rd y408 (rd t400 x15_6))) ∧ w'.cell? ⟨go20, (x10_4).toNat, none⟩ = some (.int .i64 (rd y408 x10_4))) (ds := []) #[false, false, false, false, false, false, false, false, false, false, false, false, false, false, false, false] (by kernel_rfl) rfl rfl ⟨hx409_0, hx410_0, hx411_0⟩ (fun hHeld => ?_); refine with_tabW parallaxref08_Heights.tab30 parallaxref08_Heights.bits30 (fun HT_ HW_ => ?_); generalize w71.drew = w72 at HO_7 HO_14 BK385 BK392 HB HQ70 hx409_0 hx410_0 hx411_0 hHeld ⊢; refine pure_ (i := 0) (N := some 148) (v := ?_) (a' := ?_) #[true, false, false, false, false, false, false, false, false, false, false, false, false, false, false, false] rfl rfl (any_of HT_.out (by kernel_rfl)) (fun _ _ _ h => h) (Or.inl ⟨by rfl, ?_⟩) ?_ ?_; rotate_left
                                 ·intro w'; go_simp; first | with_reducible rfl | rfl
                                 rotate_left
                                 ·exact pt
                                 refine pure_ (i := 1) (N := some 149) (v := ?_) (a' := ?_) #[true, true, false, false, false, false, false, false, false, false, false, false, false, false, false, false] rfl rfl (any_of HT_.out (by kernel_rfl)) (fun _ _ _ h => h) (Or.inl ⟨by rfl, ?_⟩) ?_ ?_; rotate_left
                                 ·intro w'; go_simp; first | with_reducible rfl | rfl
                                 rotate_left
                                 ·exact pt
                                 refine pure_ (i := 2) (N := some 150) (v := ?_) (a' := ?_) #[true, true, true, false, false, false, false, false, false, false, false, false, false, false, false, false] rfl rfl (any_of HT_.out (by kernel_rfl)) (fun _ _ _ h => h) (Or.inl ⟨by rfl, ?_⟩) ?_ ?_; rotate_left
                                 ·intro w'; go_simp; first | with_reducible rfl | rfl
                                 rotate_left
                                 ·exact pt
                                 refine pure_ (i := 3) (N := some 151) (v := ?_) (a' := ?_) #[true, true, true, true, false, false, false, false, false, false, false, false, false, false, false, false] rfl rfl (any_of HT_.out (by kernel_rfl)) (fun _ _ _ h => h) (Or.inl ⟨by rfl, ?_⟩) ?_ ?_; rotate_left
                                 ·intro w'; go_simp; first | with_reducible rfl | rfl
                                 rotate_left
                                 ·exact pt
                                 refine pure_ (i := 7) (N := some 155) (v := ?_) (a' := ?_) #[true, true, true, true, false, false, false, true, false, false, false, false, false, false, false, false] rfl rfl (any_of HT_.out (by kernel_rfl)) (fun _ _ _ h => h) (Or.inl ⟨by rfl, ?_⟩) ?_ ?_; rotate_left
                                 ·intro w'; go_simp; first | with_reducible rfl | rfl
                                 rotate_left
                                 ·exact pt
                                 refine pure_ (i := 8) (N := some 156) (v := ?_) (a' := ?_) #[true, true, true, true, false, false, false, true, true, false, false, false, false, false, false, false] rfl rfl (any_of HT_.out (by kernel_rfl)) (fun _ _ _ h => h) (Or.inl ⟨by rfl, ?_⟩) ?_ ?_; rotate_left
                                 ·intro w'; go_simp; first | with_reducible rfl | rfl
                                 rotate_left
                                 ·exact pt
                                 refine pure_ (i := 9) (N := some 157) (v := ?_) (a' := ?_) #[true, true, true, true, false, false, false, true, true, true, false, false, false, false, false, false] rfl rfl (any_of HT_.out (by kernel_rfl)) (fun _ _ _ h => h) (Or.inl ⟨by rfl, ?_⟩) ?_ ?_; rotate_left
                                 ·intro w'; go_simp; first | with_reducible rfl | rfl
                                 rotate_left
                                 ·exact pt
                                 refine pure_ (i := 11) (N := some 159) (v := ?_) (a' := ?_) #[true, true, true, true, false, false, false, true, true, true, false, true, false, false, false, false] rfl rfl (any_of HT_.out (by kernel_rfl)) (fun _ _ _ h => h) (Or.inl ⟨by rfl, ?_⟩) ?_ ?_; rotate_left
                                 ·intro w'; go_simp; first | with_reducible rfl | rfl
                                 rotate_left
                                 ·exact pt
                                 refine pure_ (i := 13) (N := some 161) (v := ?_) (a' := ?_) #[true, true, true, true, false, false, false, true, true, true, false, true, false, true, false, false] rfl rfl (any_of HT_.out (by kernel_rfl)) (fun _ _ _ h => h) (Or.inl ⟨by rfl, ?_⟩) ?_ ?_; rotate_left
                                 ·intro w'; go_simp; first | with_reducible rfl | rfl
                                 rotate_left
                                 ·exact pt
                                 refine take_ (i := 4) (N := some 152) (v := ?_) (a' := ?_) #[true, true, true, true, true, false, false, true, true, true, false, true, false, true, false, false] rfl rfl (take_ofW HT_.out HW_.out (by kernel_rfl)) (fun _ _ _ h => h) (Or.inl ⟨by rfl, ?_⟩) hHeld ?_ ?_; rotate_left
                                 ·rintro w' ⟨s0, s1, s2⟩; go_simp; first | with_reducible rfl | rfl
                                 rotate_left
                                 ·exact pt
                                 refine pure_ (i := 5) (N := some 153) (v := ?_) (a' := ?_) #[true, true, true, true, true, true, false, true, true, true, false, true, false, true, false, false] rfl rfl (any_of HT_.out (by kernel_rfl)) (fun _ _ _ h => h) (Or.inl ⟨by rfl, ?_⟩) ?_ ?_; rotate_left
                                 ·intro w'; go_simp; first | with_reducible rfl | rfl
                                 rotate_left
                                 ·exact pt
                                 refine take_ (i := 6) (N := some 154) (v := ?_) (a' := ?_) #[true, true, true, true, true, true, true, true, true, true, false, true, false, true, false, false] rfl rfl (take_ofW HT_.out HW_.out (by kernel_rfl)) (fun _ _ _ h => h) (Or.inl ⟨by rfl, ?_⟩) hHeld ?_ ?_; rotate_left
                                 ·rintro w' ⟨s0, s1, s2⟩; go_simp; first | with_reducible rfl | rfl
                                 rotate_left
                                 ·exact pt
                                 refine take_ (i := 10) (N := some 158) (v := ?_) (a' := ?_) #[true, true, true, true, true, true, true, true, true, true, true, true, false, true, false, false] rfl rfl (take_ofW HT_.out HW_.out (by kernel_rfl)) (fun _ _ _ h => h) (Or.inl ⟨by rfl, ?_⟩) hHeld ?_ ?_; rotate_left
                                 ·rintro w' ⟨s0, s1, s2⟩; go_simp; first | with_reducible rfl | rfl
                                 rotate_left
                                 ·exact pt
                                 refine pure_ (i := 12) (N := some 160) (v := ?_) (a' := ?_) #[true, true, true, true, true, true, true, true, true, true, true, true, true, true, false, false] rfl rfl (any_of HT_.out (by kernel_rfl)) (fun _ _ _ h => h) (Or.inl ⟨by rfl, ?_⟩) ?_ ?_; rotate_left
                                 ·intro w'; go_simp; first | with_reducible rfl | rfl
                                 rotate_left
                                 ·exact pt
                                 refine pure_ (i := 14) (N := some 162) (v := ?_) (a' := ?_) #[true, true, true, true, true, true, true, true, true, true, true, true, true, true, true, false] rfl rfl (any_of HT_.out (by kernel_rfl)) (fun _ _ _ h => h) (Or.inl ⟨by rfl, ?_⟩) ?_ ?_; rotate_left
                                 ·intro w'; go_simp; first | with_reducible rfl | rfl
                                 rotate_left
                                 ·exact pt
                                 refine pure_ (i := 15) (N := some 163) (v := ?_) (a' := ?_) #[true, true, true, true, true, true, true, true, true, true, true, true, true, true, true, true] rfl rfl (any_of HT_.out (by kernel_rfl)) (fun _ _ _ h => h) (Or.inl ⟨by rfl, ?_⟩) ?_ ?_; rotate_left
                                 ·intro w'; go_simp; first | with_reducible rfl | rfl
                                 rotate_left
                                 ·exact pt
                                 refine done_ (done_of HT_.out (by kernel_rfl)) ?_; (try go_wp2); (try simp only [← hl7_6])
                                 go_roundg k6
                                 case measure => have := HJ2.out; have := HK2.out; have := HK3.out; have := HK4.out; have := HJ29.out; have := HK6.out; omega
                                 case rel => exact ⟨(y408), (true), (wrap64 (x15_6 + 1)), pr, pr, H', ⟨by have := HJ2.out; have := HK2.out; have := HK3.out; have := HK4.out; have := HJ29.out; have := HK6.out; omega⟩, ⟨by (try simp only [hl7_3]); (try simp only [hl7_4]); (try simp only [hl7_6]); (with_reducible repeat (first | apply Kd.R_alloc | apply Kd.R_drewN | apply Kd.R_drew)); exact HO_7.out⟩, ⟨by (try simp only [hl7_3]); (try simp only [hl7_4]); (try simp only [hl7_6]); (with_reducible repeat (first | apply Kd.R_alloc | apply Kd.R_drewN | apply Kd.R_drew)); exact HO_14.out⟩, ⟨by (try simp only [hl7_3]); (try simp only [hl7_4]); (try simp only [hl7_6]); (with_reducible repeat (first | refine blk_drewN ?_ _ | refine blk_drew ?_ | refine blk_alloc ?_ _)); exact BK385.out⟩, ⟨by (try simp only [hl7_3]); (try simp only [hl7_4]); (try simp only [hl7_6]); (with_reducible repeat (first | refine blk_drewN ?_ _ | refine blk_drew ?_ | refine blk_alloc ?_ _)); exact BK392.out⟩, ⟨bl⟩⟩
                                ·rw [if_neg c67] at H; have c67b0 : ((rd y408 (rd t400 x15_6)) == (wrap64 ((wrap64 ((rd y408 x10_4) - t393)) + t394))) = false := beq_eq_false_iff_ne.mpr c67; have c67b1 : ((rd y408 (rd t400 x15_6)) != (wrap64 ((wrap64 ((rd y408 x10_4) - t393)) + t394))) = true := bne_iff_ne.mpr c67; simp only [Option.some.injEq, Prod.mk.injEq] at H; obtain ⟨rfl, rfl⟩ := H; obtain ⟨Ao73, co73, eo73⟩ := Kd.R_slice HO_14.out; subst eo73
                                 have p403 : 0 ≤ (x15_6 : Int) := of_decide_eq_true pa
                                 have q403 : x15_6 < (t400.length : Int) := of_decide_eq_true pa
                                 obtain ⟨ad403, e403, hx403_0⟩ := Kd.at_int (Kd.R_reads' HO_14.out).2.2 x15_6 p403 q403
                                 cases e403
                                 replace p403 := eq_true p403; replace q403 := eq_true q403
                                 have p404 : 0 ≤ (x15_6 : Int) := of_decide_eq_true pa
                                 have q404 : x15_6 < (t400.length : Int) := of_decide_eq_true pa
                                 obtain ⟨ad404, e404, hx404_0⟩ := Kd.at_int (Kd.R_reads' HO_14.out).2.2 x15_6 p404 q404; obtain rfl : ad403 = ad404 := (by injection e404); replace p404 := eq_true p404; replace q404 := eq_true q404
                                 have p405 : 0 ≤ ((rd t400 x15_6) : Int) := of_decide_eq_true pa
                                 have q405 : (rd t400 x15_6) < (x7_6.length : Int) := of_decide_eq_true pa
                                 obtain ⟨ad405, e405, hx405_0⟩ := Kd.at_int (Kd.R_reads' HO_7.out).2.2 (rd t400 x15_6) p405 q405; obtain rfl : (⟨go20, 0, none⟩ : Addr) = ad405 := (by injection e405); (first | simp only [add_plain] at hx405_0 | simp only [add_at] at hx405_0 | simp only [Addr.add, Nat.zero_add] at hx405_0 | skip); replace p405 := eq_true p405; replace q405 := eq_true q405; (try go_wp2); have n0_ := Aside0.mk (Kd.R_drew HO_7.out); have n1_ := Aside0.mk (Kd.R_drew HO_14.out); have n2_ := Aside0.mk (blk_drew BK385.out); have n3_ := Aside0.mk (blk_drew BK392.out); have n4_ := Aside0.mk (below_drew1 HB.out); clear HO_7 HO_14; clear BK385 BK392 HB; have HO_7 := n0_; have HO_14 := n1_; have BK385 := n2_; have BK392 := n3_; have HB := n4_; clear n0_ n1_ n2_ n3_ n4_
                                 have p406 : 0 ≤ (x15_6 : Int) := of_decide_eq_true pa
                                 have q406 : x15_6 < (t400.length : Int) := of_decide_eq_true pa
                                 obtain ⟨ad406, e406, hx406_0⟩ := Kd.at_int (Kd.R_reads' HO_14.out).2.2 x15_6 p406 q406; obtain rfl : ad403 = ad406 := (by injection e406); replace p406 := eq_true p406; replace q406 := eq_true q406
                                 have p407 : 0 ≤ (x10_4 : Int) := of_decide_eq_true pa
                                 have q407 : x10_4 < (x7_6.length : Int) := of_decide_eq_true pa
                                 obtain ⟨ad407, e407, hx407_0⟩ := Kd.at_int (Kd.R_reads' HO_7.out).2.2 x10_4 p407 q407; obtain rfl : (⟨go20, 0, none⟩ : Addr) = ad407 := (by injection e407); (first | simp only [add_plain] at hx407_0 | simp only [add_at] at hx407_0 | simp only [Addr.add, Nat.zero_add] at hx407_0 | skip); replace p407 := eq_true p407; replace q407 := eq_true q407
                                 have p66 : 0 ≤ ((rd t400 x15_6) : Int) := of_decide_eq_true pa
                                 have q66 : ((rd t400 x15_6) : Int) < ((x7_6.length : Int) : Int) := of_decide_eq_true pa
                                 obtain ⟨hx66_0, hf66_0⟩ := Kd.R_celln 0 HO_7.out ((rd t400 x15_6) : Int) p66 q66; replace p66 := eq_true p66; replace q66 := eq_true q66; have HP75 := Kd.R_putn HO_7.out ((rd t400 x15_6) : Int) (wrap64 ((wrap64 ((rd x7_6 x10_4) - t393)) + t394)); rw [← Ny408.out] at HP75; have HQ75 := Aside0.mk HP75; clear HP75; refine start_ (n := 15) (S := fun w' => w'.cell? (ad403.add (x15_6).toNat) = some (.int .i64 (rd t400 x15_6)) ∧ w'.cell? ⟨go20, (x10_4).toNat, none⟩ = some (.int .i64 (rd x7_6 x10_4))) (ds := [14]) #[false, false, false, false, false, false, false, false, false, false, false, false, false, false, false] (by kernel_rfl) rfl rfl ⟨hx406_0, hx407_0⟩ (fun hHeld => ?_); refine with_tabW parallaxref08_Heights.tab28 parallaxref08_Heights.bits28 (fun HT_ HW_ => ?_); generalize wr.drew = w74 at HO_7 HO_14 BK385 BK392 HB HQ75 hf66_0 hx406_0 hx407_0 hx66_0 hHeld ⊢; refine pure_ (i := 0) (N := some 134) (v := ?_) (a' := ?_) #[true, false, false, false, false, false, false, false, false, false, false, false, false, false, false] rfl rfl (any_of HT_.out (by kernel_rfl)) (fun _ _ _ h => h) (Or.inl ⟨by rfl, ?_⟩) ?_ ?_; rotate_left
                                 ·intro w'; go_simp; first | with_reducible rfl | rfl
                                 rotate_left
                                 ·exact pt
                                 refine pure_ (i := 1) (N := some 135) (v := ?_) (a' := ?_) #[true, true, false, false, false, false, false, false, false, false, false, false, false, false, false] rfl rfl (any_of HT_.out (by kernel_rfl)) (fun _ _ _ h => h) (Or.inl ⟨by rfl, ?_⟩) ?_ ?_; rotate_left
                                 ·intro w'; go_simp; first | with_reducible rfl | rfl
                                 rotate_left
                                 ·exact pt
                                 refine pure_ (i := 2) (N := some 136) (v := ?_) (a' := ?_) #[true, true, true, false, false, false, false, false, false, false, false, false, false, false, false] rfl rfl (any_of HT_.out (by kernel_rfl)) (fun _ _ _ h => h) (Or.inl ⟨by rfl, ?_⟩) ?_ ?_; rotate_left
                                 ·intro w'; go_simp; first | with_reducible rfl | rfl
                                 rotate_left
                                 ·exact pt
                                 refine pure_ (i := 3) (N := some 137) (v := ?_) (a' := ?_) #[true, true, true, true, false, false, false, false, false, false, false, false, false, false, false] rfl rfl (any_of HT_.out (by kernel_rfl)) (fun _ _ _ h => h) (Or.inl ⟨by rfl, ?_⟩) ?_ ?_; rotate_left
                                 ·intro w'; go_simp; first | with_reducible rfl | rfl
                                 rotate_left
                                 ·exact pt
                                 refine pure_ (i := 5) (N := some 139) (v := ?_) (a' := ?_) #[true, true, true, true, false, true, false, false, false, false, false, false, false, false, false] rfl rfl (any_of HT_.out (by kernel_rfl)) (fun _ _ _ h => h) (Or.inl ⟨by rfl, ?_⟩) ?_ ?_; rotate_left
                                 ·intro w'; go_simp; first | with_reducible rfl | rfl
                                 rotate_left
                                 ·exact pt
                                 refine pure_ (i := 6) (N := some 140) (v := ?_) (a' := ?_) #[true, true, true, true, false, true, true, false, false, false, false, false, false, false, false] rfl rfl (any_of HT_.out (by kernel_rfl)) (fun _ _ _ h => h) (Or.inl ⟨by rfl, ?_⟩) ?_ ?_; rotate_left
                                 ·intro w'; go_simp; first | with_reducible rfl | rfl
                                 rotate_left
                                 ·exact pt
                                 refine pure_ (i := 7) (N := some 141) (v := ?_) (a' := ?_) #[true, true, true, true, false, true, true, true, false, false, false, false, false, false, false] rfl rfl (any_of HT_.out (by kernel_rfl)) (fun _ _ _ h => h) (Or.inl ⟨by rfl, ?_⟩) ?_ ?_; rotate_left
                                 ·intro w'; go_simp; first | with_reducible rfl | rfl
                                 rotate_left
                                 ·exact pt
                                 refine pure_ (i := 9) (N := some 143) (v := ?_) (a' := ?_) #[true, true, true, true, false, true, true, true, false, true, false, false, false, false, false] rfl rfl (any_of HT_.out (by kernel_rfl)) (fun _ _ _ h => h) (Or.inl ⟨by rfl, ?_⟩) ?_ ?_; rotate_left
                                 ·intro w'; go_simp; first | with_reducible rfl | rfl
                                 rotate_left
                                 ·exact pt
                                 refine pure_ (i := 11) (N := some 145) (v := ?_) (a' := ?_) #[true, true, true, true, false, true, true, true, false, true, false, true, false, false, false] rfl rfl (any_of HT_.out (by kernel_rfl)) (fun _ _ _ h => h) (Or.inl ⟨by rfl, ?_⟩) ?_ ?_; rotate_left
                                 ·intro w'; go_simp; first | with_reducible rfl | rfl
                                 rotate_left
                                 ·exact pt
                                 refine take_ (i := 4) (N := some 138) (v := ?_) (a' := ?_) #[true, true, true, true, true, true, true, true, false, true, false, true, false, false, false] rfl rfl (take_ofW HT_.out HW_.out (by kernel_rfl)) (fun _ _ _ h => h) (Or.inl ⟨by rfl, ?_⟩) hHeld ?_ ?_; rotate_left
                                 ·rintro w' ⟨s0, s1⟩; go_simp; first | with_reducible rfl | rfl
                                 rotate_left
                                 ·exact pt
                                 refine take_ (i := 8) (N := some 142) (v := ?_) (a' := ?_) #[true, true, true, true, true, true, true, true, true, true, false, true, false, false, false] rfl rfl (take_ofW HT_.out HW_.out (by kernel_rfl)) (fun _ _ _ h => h) (Or.inl ⟨by rfl, ?_⟩) hHeld ?_ ?_; rotate_left
                                 ·rintro w' ⟨s0, s1⟩; go_simp; first | with_reducible rfl | rfl
                                 rotate_left
                                 ·exact pt
                                 refine pure_ (i := 10) (N := some 144) (v := ?_) (a' := ?_) #[true, true, true, true, true, true, true, true, true, true, true, true, false, false, false] rfl rfl (any_of HT_.out (by kernel_rfl)) (fun _ _ _ h => h) (Or.inl ⟨by rfl, ?_⟩) ?_ ?_; rotate_left
                                 ·intro w'; go_simp; first | with_reducible rfl | rfl
                                 rotate_left
                                 ·exact pt
                                 refine pure_ (i := 12) (N := some 146) (v := ?_) (a' := ?_) #[true, true, true, true, true, true, true, true, true, true, true, true, true, false, false] rfl rfl (any_of HT_.out (by kernel_rfl)) (fun _ _ _ h => h) (Or.inl ⟨by rfl, ?_⟩) ?_ ?_; rotate_left
                                 ·intro w'; go_simp; first | with_reducible rfl | rfl
                                 rotate_left
                                 ·exact pt
                                 refine pure_ (i := 13) (N := some 147) (v := ?_) (a' := ?_) #[true, true, true, true, true, true, true, true, true, true, true, true, true, true, false] rfl rfl (any_of HT_.out (by kernel_rfl)) (fun _ _ _ h => h) (Or.inl ⟨by rfl, ?_⟩) ?_ ?_; rotate_left
                                 ·intro w'; go_simp; first | with_reducible rfl | rfl
                                 rotate_left
                                 ·exact pt
                                 refine last_ (i := 14) (N := none) #[true, true, true, true, true, true, true, true, true, true, true, true, true, true, true] rfl rfl (one_of HT_.out (by kernel_rfl)) (by decide) (fun K hK => ?_); refine skip_ (w1 := ?_) (by rfl) rfl ?_ ?_; rotate_left
                                 ·go_simp; rfl
                                 refine hK.out _ _ ?_; clear hK K; refine done_ (done_of HT_.out (by kernel_rfl)) ?_; (try go_wp2)
                                 have n0_ : Aside0 (Kd.R (Kd.int .i64) 3 (w74.setCell ⟨go20, ((rd t400 x15_6) : Int).toNat, none⟩ (.int .i64 (wrap64 ((wrap64 ((rd x7_6 x10_4) - t393)) + t394)))) w.heap.size (fun k_ => some k_ ≠ (.slice (some ad403) t400.length co73 : Value).ownBlock) (.slice (some ⟨go20, 0, none⟩) x7_6.length co20) y408) := ⟨by (with_reducible repeat (first | apply Kd.R_alloc | apply Kd.R_drewN | apply Kd.R_drew)); exact HQ75.out⟩
                                 have n1_ : Aside0 (Kd.R (Kd.int .i64) 3 (w74.setCell ⟨go20, ((rd t400 x15_6) : Int).toNat, none⟩ (.int .i64 (wrap64 ((wrap64 ((rd x7_6 x10_4) - t393)) + t394)))) w.heap.size (fun k_ => some k_ ≠ (.slice (some ⟨go20, 0, none⟩) x7_6.length co20 : Value).ownBlock) (.slice (some ad403) t400.length co73) t400) := ⟨by (with_reducible repeat (first | apply Kd.R_alloc | apply Kd.R_drewN | apply Kd.R_drew)); exact Kd.R_mono (Kd.R_far (p := ⟨go20, ((rd t400 x15_6) : Int).toNat, none⟩) (Kd.R_mono HO_14.out (fun k_ hk => (⟨hk, fun e_ => hk (by rw [e_]; rfl)⟩ : _ ∧ k_ ≠ go20))) (fun _ hk => hk.2) (.int .i64 (wrap64 ((wrap64 ((rd x7_6 x10_4) - t393)) + t394)))) (fun _ hk => hk.1)⟩
                                 have n2_ : Aside0 ((w74.setCell ⟨go20, ((rd t400 x15_6) : Int).toNat, none⟩ (.int .i64 (wrap64 ((wrap64 ((rd x7_6 x10_4) - t393)) + t394)))).heap[gb385]? = some (.cells #[.slice (some ad391) ((rd_T33 l0 a1).f0).length c384_0, .int .i64 ((rd_T33 l0 a1).f1), .int .i64 ((rd_T33 l0 a1).f2), .bool ((rd_T33 l0 a1).f3)] 33 (0, 0))) := ⟨by (with_reducible repeat (first | refine blk_drewN ?_ _ | refine blk_drew ?_ | refine blk_alloc ?_ _)); refine blk_far ?_ (by have h_ := Kd.R_ne HO_7.out BK385.out (by decide); intro e_; exact h_ (by rw [e_]; rfl)) _; (with_reducible repeat (first | refine blk_drewN ?_ _ | refine blk_drew ?_ | refine blk_alloc ?_ _)); exact BK385.out⟩
                                 have n3_ : Aside0 ((w74.setCell ⟨go20, ((rd t400 x15_6) : Int).toNat, none⟩ (.int .i64 (wrap64 ((wrap64 ((rd x7_6 x10_4) - t393)) + t394)))).heap[gb392]? = some (.cells #[.int .i64 ((rd_T23 ((rd_T33 l0 a1).f0) x10_4).f0), .int .i64 ((rd_T23 ((rd_T33 l0 a1).f0) x10_4).f1), .int .i64 ((rd_T23 ((rd_T33 l0 a1).f0) x10_4).f2)] 23 (0, 0))) := ⟨by (with_reducible repeat (first | refine blk_drewN ?_ _ | refine blk_drew ?_ | refine blk_alloc ?_ _)); refine blk_far ?_ (by have h_ := Kd.R_ne HO_7.out BK392.out (by decide); intro e_; exact h_ (by rw [e_]; rfl)) _; (with_reducible repeat (first | refine blk_drewN ?_ _ | refine blk_drew ?_ | refine blk_alloc ?_ _)); exact BK392.out⟩
                                 have n4_ : Aside0 (Below w.heap.size w (w74.setCell ⟨go20, ((rd t400 x15_6) : Int).toNat, none⟩ (.int .i64 (wrap64 ((wrap64 ((rd x7_6 x10_4) - t393)) + t394))))) := ⟨bl⟩
                                 (try clear HO_7); (try clear HO_14); (try clear BK385); (try clear BK392); (try clear HB); generalize (w74.setCell ⟨go20, ((rd t400 x15_6) : Int).toNat, none⟩ (.int .i64 (wrap64 ((wrap64 ((rd x7_6 x10_4) - t393)) + t394)))) = w76 at n0_ n1_ n2_ n3_ n4_ ⊢; have HO_7 := n0_; have HO_14 := n1_; have BK385 := n2_; have BK392 := n3_; have HB := n4_; clear n0_ n1_ n2_ n3_ n4_; have n0_ := Aside0.mk (Kd.R_drew HO_7.out); have n1_ := Aside0.mk (Kd.R_drew HO_14.out); have n2_ := Aside0.mk (blk_drew BK385.out); have n3_ := Aside0.mk (blk_drew BK392.out); have n4_ := Aside0.mk (below_drew1 HB.out); clear HO_7 HO_14; clear BK385 BK392 HB; have HO_7 := n0_; have HO_14 := n1_; have BK385 := n2_; have BK392 := n3_; have HB := n4_; clear n0_ n1_ n2_ n3_ n4_
                                 have p409 : 0 ≤ (x15_6 : Int) := of_decide_eq_true pa
                                 have q409 : x15_6 < (t400.length : Int) := of_decide_eq_true pa
                                 obtain ⟨ad409, e409, hx409_0⟩ := Kd.at_int (Kd.R_reads' HO_14.out).2.2 x15_6 p409 q409; obtain rfl : ad403 = ad409 := (by injection e409); replace p409 := eq_true p409; replace q409 := eq_true q409
                                 have p410 : 0 ≤ ((rd t400 x15_6) : Int) := of_decide_eq_true pa
                                 have q410 : (rd t400 x15_6) < (y408.length : Int) := (by have h_ : ((rd t400 x15_6) : Int) < ((x7_6.length : Int) : Int) := of_decide_eq_true pa; first | (have e_ := (Kd.R_reads' HO_7.out).1; omega) | simpa only [Ny408.out, List.length_set] using h_)
                                 have ql410 : (((rd t400 x15_6) : Int) < ((x7_6.length : Int) : Int)) = True := eq_true (of_decide_eq_true pa)
                                 obtain ⟨ad410, e410, hx410_0⟩ := Kd.at_int (Kd.R_reads' HO_7.out).2.2 (rd t400 x15_6) p410 q410; obtain rfl : (⟨go20, 0, none⟩ : Addr) = ad410 := (by injection e410); (first | simp only [add_plain] at hx410_0 | simp only [add_at] at hx410_0 | simp only [Addr.add, Nat.zero_add] at hx410_0 | skip); replace p410 := eq_true p410; replace q410 := eq_true q410
                                 have p411 : 0 ≤ (x10_4 : Int) := of_decide_eq_true pa
                                 have q411 : x10_4 < (y408.length : Int) := (by have h_ : (x10_4 : Int) < ((x7_6.length : Int) : Int) := of_decide_eq_true pa; first | (have e_ := (Kd.R_reads' HO_7.out).1; omega) | simpa only [Ny408.out, List.length_set] using h_)
                                 have ql411 : ((x10_4 : Int) < ((x7_6.length : Int) : Int)) = True := eq_true (of_decide_eq_true pa)
                                 obtain ⟨ad411, e411, hx411_0⟩ := Kd.at_int (Kd.R_reads' HO_7.out).2.2 x10_4 p411 q411; obtain rfl : (⟨go20, 0, none⟩ : Addr) = ad411 := (by injection e411); (first | simp only [add_plain] at hx411_0 | simp only [add_at] at hx411_0 | simp only [Addr.add, Nat.zero_add] at hx411_0 | skip); replace p411 := eq_true p411; replace q411 := eq_true q411; refine start_ (n := 16) (S := fun w' => w'.cell? (ad403.add (x15_6).toNat) = some (.int .i64 (rd t400 x15_6)) ∧ w'.cell? ⟨go20, ((rd t400 x15_6)).toNat, none⟩ = some (.int .i64 (rd y408 (rd t400 x15_6))) ∧ w'.cell? ⟨go20, (x10_4).toNat, none⟩ = some (.int .i64 (rd y408 x10_4))) (ds := []) #[false, false, false, false, false, false, false, false, false, false, false, false, false, false, false, false] (by kernel_rfl) rfl rfl ⟨hx409_0, hx410_0, hx411_0⟩ (fun hHeld => ?_); refine with_tabW parallaxref08_Heights.tab30 parallaxref08_Heights.bits30 (fun HT_ HW_ => ?_); generalize w76.drew = w77 at HO_7 HO_14 BK385 BK392 HB HQ75 hx409_0 hx410_0 hx411_0 hHeld ⊢; refine pure_ (i := 0) (N := some 148) (v := ?_) (a' := ?_) #[true, false, false, false, false, false, false, false, false, false, false, false, false, false, false, false] rfl rfl (any_of HT_.out (by kernel_rfl)) (fun _ _ _ h => h) (Or.inl ⟨by rfl, ?_⟩) ?_ ?_; rotate_left
                                 ·intro w'; go_simp; first | with_reducible rfl | rfl
                                 rotate_left
                                 ·exact pt
                                 refine pure_ (i := 1) (N := some 149) (v := ?_) (a' := ?_) #[true, true, false, false, false, false, false, false, false, false, false, false, false, false, false, false] rfl rfl (any_of HT_.out (by kernel_rfl)) (fun _ _ _ h => h) (Or.inl ⟨by rfl, ?_⟩) ?_ ?_; rotate_left
                                 ·intro w'; go_simp; first | with_reducible rfl | rfl
                                 rotate_left
                                 ·exact pt
                                 refine pure_ (i := 2) (N := some 150) (v := ?_) (a' := ?_) #[true, true, true, false, false, false, false, false, false, false, false, false, false, false, false, false] rfl rfl (any_of HT_.out (by kernel_rfl)) (fun _ _ _ h => h) (Or.inl ⟨by rfl, ?_⟩) ?_ ?_; rotate_left
                                 ·intro w'; go_simp; first | with_reducible rfl | rfl
                                 rotate_left
                                 ·exact pt
                                 refine pure_ (i := 3) (N := some 151) (v := ?_) (a' := ?_) #[true, true, true, true, false, false, false, false, false, false, false, false, false, false, false, false] rfl rfl (any_of HT_.out (by kernel_rfl)) (fun _ _ _ h => h) (Or.inl ⟨by rfl, ?_⟩) ?_ ?_; rotate_left
                                 ·intro w'; go_simp; first | with_reducible rfl | rfl
                                 rotate_left
                                 ·exact pt
                                 refine pure_ (i := 7) (N := some 155) (v := ?_) (a' := ?_) #[true, true, true, true, false, false, false, true, false, false, false, false, false, false, false, false] rfl rfl (any_of HT_.out (by kernel_rfl)) (fun _ _ _ h => h) (Or.inl ⟨by rfl, ?_⟩) ?_ ?_; rotate_left
                                 ·intro w'; go_simp; first | with_reducible rfl | rfl
                                 rotate_left
                                 ·exact pt
                                 refine pure_ (i := 8) (N := some 156) (v := ?_) (a' := ?_) #[true, true, true, true, false, false, false, true, true, false, false, false, false, false, false, false] rfl rfl (any_of HT_.out (by kernel_rfl)) (fun _ _ _ h => h) (Or.inl ⟨by rfl, ?_⟩) ?_ ?_; rotate_left
                                 ·intro w'; go_simp; first | with_reducible rfl | rfl
                                 rotate_left
                                 ·exact pt
                                 refine pure_ (i := 9) (N := some 157) (v := ?_) (a' := ?_) #[true, true, true, true, false, false, false, true, true, true, false, false, false, false, false, false] rfl rfl (any_of HT_.out (by kernel_rfl)) (fun _ _ _ h => h) (Or.inl ⟨by rfl, ?_⟩) ?_ ?_; rotate_left
                                 ·intro w'; go_simp; first | with_reducible rfl | rfl
                                 rotate_left
                                 ·exact pt
                                 refine pure_ (i := 11) (N := some 159) (v := ?_) (a' := ?_) #[true, true, true, true, false, false, false, true, true, true, false, true, false, false, false, false] rfl rfl (any_of HT_.out (by kernel_rfl)) (fun _ _ _ h => h) (Or.inl ⟨by rfl, ?_⟩) ?_ ?_; rotate_left
                                 ·intro w'; go_simp; first | with_reducible rfl | rfl
                                 rotate_left
                                 ·exact pt
                                 refine pure_ (i := 13) (N := some 161) (v := ?_) (a' := ?_) #[true, true, true, true, false, false, false, true, true, true, false, true, false, true, false, false] rfl rfl (any_of HT_.out (by kernel_rfl)) (fun _ _ _ h => h) (Or.inl ⟨by rfl, ?_⟩) ?_ ?_; rotate_left
                                 ·intro w'; go_simp; first | with_reducible rfl | rfl
                                 rotate_left
                                 ·exact pt
                                 refine take_ (i := 4) (N := some 152) (v := ?_) (a' := ?_) #[true, true, true, true, true, false, false, true, true, true, false, true, false, true, false, false] rfl rfl (take_ofW HT_.out HW_.out (by kernel_rfl)) (fun _ _ _ h => h) (Or.inl ⟨by rfl, ?_⟩) hHeld ?_ ?_; rotate_left
                                 ·rintro w' ⟨s0, s1, s2⟩; go_simp; first | with_reducible rfl | rfl
                                 rotate_left
                                 ·exact pt
                                 refine pure_ (i := 5) (N := some 153) (v := ?_) (a' := ?_) #[true, true, true, true, true, true, false, true, true, true, false, true, false, true, false, false] rfl rfl (any_of HT_.out (by kernel_rfl)) (fun _ _ _ h => h) (Or.inl ⟨by rfl, ?_⟩) ?_ ?_; rotate_left
                                 ·intro w'; go_simp; first | with_reducible rfl | rfl
                                 rotate_left
                                 ·exact pt
                                 refine take_ (i := 6) (N := some 154) (v := ?_) (a' := ?_) #[true, true, true, true, true, true, true, true, true, true, false, true, false, true, false, false] rfl rfl (take_ofW HT_.out HW_.out (by kernel_rfl)) (fun _ _ _ h => h) (Or.inl ⟨by rfl, ?_⟩) hHeld ?_ ?_; rotate_left
                                 ·rintro w' ⟨s0, s1, s2⟩; go_simp; first | with_reducible rfl | rfl
                                 rotate_left
                                 ·exact pt
                                 refine take_ (i := 10) (N := some 158) (v := ?_) (a' := ?_) #[true, true, true, true, true, true, true, true, true, true, true, true, false, true, false, false] rfl rfl (take_ofW HT_.out HW_.out (by kernel_rfl)) (fun _ _ _ h => h) (Or.inl ⟨by rfl, ?_⟩) hHeld ?_ ?_; rotate_left
                                 ·rintro w' ⟨s0, s1, s2⟩; go_simp; first | with_reducible rfl | rfl
                                 rotate_left
                                 ·exact pt
                                 refine pure_ (i := 12) (N := some 160) (v := ?_) (a' := ?_) #[true, true, true, true, true, true, true, true, true, true, true, true, true, true, false, false] rfl rfl (any_of HT_.out (by kernel_rfl)) (fun _ _ _ h => h) (Or.inl ⟨by rfl, ?_⟩) ?_ ?_; rotate_left
                                 ·intro w'; go_simp; first | with_reducible rfl | rfl
                                 rotate_left
                                 ·exact pt
                                 refine pure_ (i := 14) (N := some 162) (v := ?_) (a' := ?_) #[true, true, true, true, true, true, true, true, true, true, true, true, true, true, true, false] rfl rfl (any_of HT_.out (by kernel_rfl)) (fun _ _ _ h => h) (Or.inl ⟨by rfl, ?_⟩) ?_ ?_; rotate_left
                                 ·intro w'; go_simp; first | with_reducible rfl | rfl
                                 rotate_left
                                 ·exact pt
                                 refine pure_ (i := 15) (N := some 163) (v := ?_) (a' := ?_) #[true, true, true, true, true, true, true, true, true, true, true, true, true, true, true, true] rfl rfl (any_of HT_.out (by kernel_rfl)) (fun _ _ _ h => h) (Or.inl ⟨by rfl, ?_⟩) ?_ ?_; rotate_left
                                 ·intro w'; go_simp; first | with_reducible rfl | rfl
                                 rotate_left
                                 ·exact pt
                                 refine done_ (done_of HT_.out (by kernel_rfl)) ?_; (try go_wp2); go_ret2; exact ⟨_, pe, pn, bl⟩
                               ·rw [if_neg c65] at H; exact absurd H (by simp)
                              ·rw [if_neg c64] at H; exact absurd H (by simp)
                             ·rw [if_neg c63] at H; have c63b0 : decide ((rd x7_6 (rd t400 x15_6)) < 0) = false := decide_eq_false c63; clear c63
                              by_cases c78 : 0 ≤ x10_4
                              ·rw [if_pos c78] at H; have c78b0 : decide (0 ≤ x10_4) = true := decide_eq_true c78; clear c78
                               by_cases c79 : x10_4 < (x7_6.length : Int)
                               ·rw [if_pos c79] at H; have c79b0 : decide (x10_4 < (x7_6.length : Int)) = true := decide_eq_true c79; clear c79
                                by_cases c80 : (rd x7_6 (rd t400 x15_6)) = (wrap64 ((wrap64 ((rd x7_6 x10_4) - t393)) + t394))
                                ·rw [if_pos c80] at H; have c80b0 : ((rd x7_6 (rd t400 x15_6)) == (wrap64 ((wrap64 ((rd x7_6 x10_4) - t393)) + t394))) = true := beq_iff_eq.mpr c80; have c80b1 : ((rd x7_6 (rd t400 x15_6)) != (wrap64 ((wrap64 ((rd x7_6 x10_4) - t393)) + t394))) = false := bne_eq_false_iff_eq.mpr c80; clear c80; have H' := Aside0.mk H; clear H; obtain ⟨Ao81, co81, eo81⟩ := Kd.R_slice HO_14.out; subst eo81
                                 have p403 : 0 ≤ (x15_6 : Int) := of_decide_eq_true pa
                                 have q403 : x15_6 < (t400.length : Int) := of_decide_eq_true pa
                                 obtain ⟨ad403, e403, hx403_0⟩ := Kd.at_int (Kd.R_reads' HO_14.out).2.2 x15_6 p403 q403
                                 cases e403
                                 replace p403 := eq_true p403; replace q403 := eq_true q403
                                 have p404 : 0 ≤ (x15_6 : Int) := of_decide_eq_true pa
                                 have q404 : x15_6 < (t400.length : Int) := of_decide_eq_true pa
                                 obtain ⟨ad404, e404, hx404_0⟩ := Kd.at_int (Kd.R_reads' HO_14.out).2.2 x15_6 p404 q404; obtain rfl : ad403 = ad404 := (by injection e404); replace p404 := eq_true p404; replace q404 := eq_true q404
                                 have p405 : 0 ≤ ((rd t400 x15_6) : Int) := of_decide_eq_true pa
                                 have q405 : (rd t400 x15_6) < (x7_6.length : Int) := of_decide_eq_true pa
                                 obtain ⟨ad405, e405, hx405_0⟩ := Kd.at_int (Kd.R_reads' HO_7.out).2.2 (rd t400 x15_6) p405 q405; obtain rfl : (⟨go20, 0, none⟩ : Addr) = ad405 := (by injection e405); (first | simp only [add_plain] at hx405_0 | simp only [add_at] at hx405_0 | simp only [Addr.add, Nat.zero_add] at hx405_0 | skip); replace p405 := eq_true p405; replace q405 := eq_true q405; (try go_wp2); have n0_ := Aside0.mk (Kd.R_drew HO_7.out); have n1_ := Aside0.mk (Kd.R_drew HO_14.out); have n2_ := Aside0.mk (blk_drew BK385.out); have n3_ := Aside0.mk (blk_drew BK392.out); have n4_ := Aside0.mk (below_drew1 HB.out); clear HO_7 HO_14; clear BK385 BK392 HB; have HO_7 := n0_; have HO_14 := n1_; have BK385 := n2_; have BK392 := n3_; have HB := n4_; clear n0_ n1_ n2_ n3_ n4_
                                 have p412 : 0 ≤ (x15_6 : Int) := of_decide_eq_true pa
                                 have q412 : x15_6 < (t400.length : Int) := of_decide_eq_true pa
                                 obtain ⟨ad412, e412, hx412_0⟩ := Kd.at_int (Kd.R_reads' HO_14.out).2.2 x15_6 p412 q412; obtain rfl : ad403 = ad412 := (by injection e412); replace p412 := eq_true p412; replace q412 := eq_true q412
                                 have p413 : 0 ≤ ((rd t400 x15_6) : Int) := of_decide_eq_true pa
                                 have q413 : (rd t400 x15_6) < (x7_6.length : Int) := of_decide_eq_true pa
                                 obtain ⟨ad413, e413, hx413_0⟩ := Kd.at_int (Kd.R_reads' HO_7.out).2.2 (rd t400 x15_6) p413 q413; obtain rfl : (⟨go20, 0, none⟩ : Addr) = ad413 := (by injection e413); (first | simp only [add_plain] at hx413_0 | simp only [add_at] at hx413_0 | simp only [Addr.add, Nat.zero_add] at hx413_0 | skip); replace p413 := eq_true p413; replace q413 := eq_true q413
                                 have p414 : 0 ≤ (x10_4 : Int) := of_decide_eq_true pa
                                 have q414 : x10_4 < (x7_6.length : Int) := of_decide_eq_true pa
                                 obtain ⟨ad414, e414, hx414_0⟩ := Kd.at_int (Kd.R_reads' HO_7.out).2.2 x10_4 p414 q414; obtain rfl : (⟨go20, 0, none⟩ : Addr) = ad414 := (by injection e414); (first | simp only [add_plain] at hx414_0 | simp only [add_at] at hx414_0 | simp only [Addr.add, Nat.zero_add] at hx414_0 | skip); replace p414 := eq_true p414; replace q414 := eq_true q414; refine start_ (n := 16) (S := fun w' => w'.cell? (ad403.add (x15_6).toNat) = some (.int .i64 (rd t400 x15_6)) ∧ w'.cell? ⟨go20, ((rd t400 x15_6)).toNat, none⟩ = some (.int .i64 (rd x7_6 (rd t400 x15_6))) ∧ w'.cell? ⟨go20, (x10_4).toNat, none⟩ = some (.int .i64 (rd x7_6 x10_4))) (ds := []) #[false, false, false, false, false, false, false, false, false, false, false, false, false, false, false, false] (by kernel_rfl) rfl rfl ⟨hx412_0, hx413_0, hx414_0⟩ (fun hHeld => ?_); refine with_tabW parallaxref08_Heights.tab30 parallaxref08_Heights.bits30 (fun HT_ HW_ => ?_); generalize wr.drew = w82 at HO_7 HO_14 BK385 BK392 HB hx412_0 hx413_0 hx414_0 hHeld ⊢; refine pure_ (i := 0) (N := some 148) (v := ?_) (a' := ?_) #[true, false, false, false, false, false, false, false, false, false, false, false, false, false, false, false] rfl rfl (any_of HT_.out (by kernel_rfl)) (fun _ _ _ h => h) (Or.inl ⟨by rfl, ?_⟩) ?_ ?_; rotate_left
                                 ·intro w'; go_simp; first | with_reducible rfl | rfl
                                 rotate_left
                                 ·exact pt
                                 refine pure_ (i := 1) (N := some 149) (v := ?_) (a' := ?_) #[true, true, false, false, false, false, false, false, false, false, false, false, false, false, false, false] rfl rfl (any_of HT_.out (by kernel_rfl)) (fun _ _ _ h => h) (Or.inl ⟨by rfl, ?_⟩) ?_ ?_; rotate_left
                                 ·intro w'; go_simp; first | with_reducible rfl | rfl
                                 rotate_left
                                 ·exact pt
                                 refine pure_ (i := 2) (N := some 150) (v := ?_) (a' := ?_) #[true, true, true, false, false, false, false, false, false, false, false, false, false, false, false, false] rfl rfl (any_of HT_.out (by kernel_rfl)) (fun _ _ _ h => h) (Or.inl ⟨by rfl, ?_⟩) ?_ ?_; rotate_left
                                 ·intro w'; go_simp; first | with_reducible rfl | rfl
                                 rotate_left
                                 ·exact pt
                                 refine pure_ (i := 3) (N := some 151) (v := ?_) (a' := ?_) #[true, true, true, true, false, false, false, false, false, false, false, false, false, false, false, false] rfl rfl (any_of HT_.out (by kernel_rfl)) (fun _ _ _ h => h) (Or.inl ⟨by rfl, ?_⟩) ?_ ?_; rotate_left
                                 ·intro w'; go_simp; first | with_reducible rfl | rfl
                                 rotate_left
                                 ·exact pt
                                 refine pure_ (i := 7) (N := some 155) (v := ?_) (a' := ?_) #[true, true, true, true, false, false, false, true, false, false, false, false, false, false, false, false] rfl rfl (any_of HT_.out (by kernel_rfl)) (fun _ _ _ h => h) (Or.inl ⟨by rfl, ?_⟩) ?_ ?_; rotate_left
                                 ·intro w'; go_simp; first | with_reducible rfl | rfl
                                 rotate_left
                                 ·exact pt
                                 refine pure_ (i := 8) (N := some 156) (v := ?_) (a' := ?_) #[true, true, true, true, false, false, false, true, true, false, false, false, false, false, false, false] rfl rfl (any_of HT_.out (by kernel_rfl)) (fun _ _ _ h => h) (Or.inl ⟨by rfl, ?_⟩) ?_ ?_; rotate_left
                                 ·intro w'; go_simp; first | with_reducible rfl | rfl
                                 rotate_left
                                 ·exact pt
                                 refine pure_ (i := 9) (N := some 157) (v := ?_) (a' := ?_) #[true, true, true, true, false, false, false, true, true, true, false, false, false, false, false, false] rfl rfl (any_of HT_.out (by kernel_rfl)) (fun _ _ _ h => h) (Or.inl ⟨by rfl, ?_⟩) ?_ ?_; rotate_left
                                 ·intro w'; go_simp; first | with_reducible rfl | rfl
                                 rotate_left
                                 ·exact pt
                                 refine pure_ (i := 11) (N := some 159) (v := ?_) (a' := ?_) #[true, true, true, true, false, false, false, true, true, true, false, true, false, false, false, false] rfl rfl (any_of HT_.out (by kernel_rfl)) (fun _ _ _ h => h) (Or.inl ⟨by rfl, ?_⟩) ?_ ?_; rotate_left
                                 ·intro w'; go_simp; first | with_reducible rfl | rfl
                                 rotate_left
                                 ·exact pt
                                 refine pure_ (i := 13) (N := some 161) (v := ?_) (a' := ?_) #[true, true, true, true, false, false, false, true, true, true, false, true, false, true, false, false] rfl rfl (any_of HT_.out (by kernel_rfl)) (fun _ _ _ h => h) (Or.inl ⟨by rfl, ?_⟩) ?_ ?_; rotate_left
                                 ·intro w'; go_simp; first | with_reducible rfl | rfl
                                 rotate_left
                                 ·exact pt
                                 refine take_ (i := 4) (N := some 152) (v := ?_) (a' := ?_) #[true, true, true, true, true, false, false, true, true, true, false, true, false, true, false, false] rfl rfl (take_ofW HT_.out HW_.out (by kernel_rfl)) (fun _ _ _ h => h) (Or.inl ⟨by rfl, ?_⟩) hHeld ?_ ?_; rotate_left
                                 ·rintro w' ⟨s0, s1, s2⟩; go_simp; first | with_reducible rfl | rfl
                                 rotate_left
                                 ·exact pt
                                 refine pure_ (i := 5) (N := some 153) (v := ?_) (a' := ?_) #[true, true, true, true, true, true, false, true, true, true, false, true, false, true, false, false] rfl rfl (any_of HT_.out (by kernel_rfl)) (fun _ _ _ h => h) (Or.inl ⟨by rfl, ?_⟩) ?_ ?_; rotate_left
                                 ·intro w'; go_simp; first | with_reducible rfl | rfl
                                 rotate_left
                                 ·exact pt
                                 refine take_ (i := 6) (N := some 154) (v := ?_) (a' := ?_) #[true, true, true, true, true, true, true, true, true, true, false, true, false, true, false, false] rfl rfl (take_ofW HT_.out HW_.out (by kernel_rfl)) (fun _ _ _ h => h) (Or.inl ⟨by rfl, ?_⟩) hHeld ?_ ?_; rotate_left
                                 ·rintro w' ⟨s0, s1, s2⟩; go_simp; first | with_reducible rfl | rfl
                                 rotate_left
                                 ·exact pt
                                 refine take_ (i := 10) (N := some 158) (v := ?_) (a' := ?_) #[true, true, true, true, true, true, true, true, true, true, true, true, false, true, false, false] rfl rfl (take_ofW HT_.out HW_.out (by kernel_rfl)) (fun _ _ _ h => h) (Or.inl ⟨by rfl, ?_⟩) hHeld ?_ ?_; rotate_left
                                 ·rintro w' ⟨s0, s1, s2⟩; go_simp; first | with_reducible rfl | rfl
                                 rotate_left
                                 ·exact pt
                                 refine pure_ (i := 12) (N := some 160) (v := ?_) (a' := ?_) #[true, true, true, true, true, true, true, true, true, true, true, true, true, true, false, false] rfl rfl (any_of HT_.out (by kernel_rfl)) (fun _ _ _ h => h) (Or.inl ⟨by rfl, ?_⟩) ?_ ?_; rotate_left
                                 ·intro w'; go_simp; first | with_reducible rfl | rfl
                                 rotate_left
                                 ·exact pt
                                 refine pure_ (i := 14) (N := some 162) (v := ?_) (a' := ?_) #[true, true, true, true, true, true, true, true, true, true, true, true, true, true, true, false] rfl rfl (any_of HT_.out (by kernel_rfl)) (fun _ _ _ h => h) (Or.inl ⟨by rfl, ?_⟩) ?_ ?_; rotate_left
                                 ·intro w'; go_simp; first | with_reducible rfl | rfl
                                 rotate_left
                                 ·exact pt
                                 refine pure_ (i := 15) (N := some 163) (v := ?_) (a' := ?_) #[true, true, true, true, true, true, true, true, true, true, true, true, true, true, true, true] rfl rfl (any_of HT_.out (by kernel_rfl)) (fun _ _ _ h => h) (Or.inl ⟨by rfl, ?_⟩) ?_ ?_; rotate_left
                                 ·intro w'; go_simp; first | with_reducible rfl | rfl
                                 rotate_left
                                 ·exact pt
                                 refine done_ (done_of HT_.out (by kernel_rfl)) ?_; (try go_wp2); (try simp only [← hl7_6])
                                 go_roundg k6
                                 case measure => have := HJ2.out; have := HK2.out; have := HK3.out; have := HK4.out; have := HJ29.out; have := HK6.out; omega
                                 case rel => exact ⟨(x7_6), (x9_6), (wrap64 (x15_6 + 1)), pr, pr, H', ⟨by have := HJ2.out; have := HK2.out; have := HK3.out; have := HK4.out; have := HJ29.out; have := HK6.out; omega⟩, ⟨by (try simp only [hl7_3]); (try simp only [hl7_4]); (try simp only [hl7_6]); (with_reducible repeat (first | apply Kd.R_alloc | apply Kd.R_drewN | apply Kd.R_drew)); exact HO_7.out⟩, ⟨by (try simp only [hl7_3]); (try simp only [hl7_4]); (try simp only [hl7_6]); (with_reducible repeat (first | apply Kd.R_alloc | apply Kd.R_drewN | apply Kd.R_drew)); exact HO_14.out⟩, ⟨by (try simp only [hl7_3]); (try simp only [hl7_4]); (try simp only [hl7_6]); (with_reducible repeat (first | refine blk_drewN ?_ _ | refine blk_drew ?_ | refine blk_alloc ?_ _)); exact BK385.out⟩, ⟨by (try simp only [hl7_3]); (try simp only [hl7_4]); (try simp only [hl7_6]); (with_reducible repeat (first | refine blk_drewN ?_ _ | refine blk_drew ?_ | refine blk_alloc ?_ _)); exact BK392.out⟩, ⟨bl⟩⟩
                                ·rw [if_neg c80] at H; have c80b0 : ((rd x7_6 (rd t400 x15_6)) == (wrap64 ((wrap64 ((rd x7_6 x10_4) - t393)) + t394))) = false := beq_eq_false_iff_ne.mpr c80; have c80b1 : ((rd x7_6 (rd t400 x15_6)) != (wrap64 ((wrap64 ((rd x7_6 x10_4) - t393)) + t394))) = true := bne_iff_ne.mpr c80; simp only [Option.some.injEq, Prod.mk.injEq] at H; obtain ⟨rfl, rfl⟩ := H; obtain ⟨Ao83, co83, eo83⟩ := Kd.R_slice HO_14.out; subst eo83
                                 have p403 : 0 ≤ (x15_6 : Int) := of_decide_eq_true pa
                                 have q403 : x15_6 < (t400.length : Int) := of_decide_eq_true pa
                                 obtain ⟨ad403, e403, hx403_0⟩ := Kd.at_int (Kd.R_reads' HO_14.out).2.2 x15_6 p403 q403
                                 cases e403
                                 replace p403 := eq_true p403; replace q403 := eq_true q403
                                 have p404 : 0 ≤ (x15_6 : Int) := of_decide_eq_true pa
                                 have q404 : x15_6 < (t400.length : Int) := of_decide_eq_true pa
                                 obtain ⟨ad404, e404, hx404_0⟩ := Kd.at_int (Kd.R_reads' HO_14.out).2.2 x15_6 p404 q404; obtain rfl : ad403 = ad404 := (by injection e404); replace p404 := eq_true p404; replace q404 := eq_true q404
                                 have p405 : 0 ≤ ((rd t400 x15_6) : Int) := of_decide_eq_true pa
                                 have q405 : (rd t400 x15_6) < (x7_6.length : Int) := of_decide_eq_true pa
                                 obtain ⟨ad405, e405, hx405_0⟩ := Kd.at_int (Kd.R_reads' HO_7.out).2.2 (rd t400 x15_6) p405 q405; obtain rfl : (⟨go20, 0, none⟩ : Addr) = ad405 := (by injection e405); (first | simp only [add_plain] at hx405_0 | simp only [add_at] at hx405_0 | simp only [Addr.add, Nat.zero_add] at hx405_0 | skip); replace p405 := eq_true p405; replace q405 := eq_true q405; (try go_wp2); have n0_ := Aside0.mk (Kd.R_drew HO_7.out); have n1_ := Aside0.mk (Kd.R_drew HO_14.out); have n2_ := Aside0.mk (blk_drew BK385.out); have n3_ := Aside0.mk (blk_drew BK392.out); have n4_ := Aside0.mk (below_drew1 HB.out); clear HO_7 HO_14; clear BK385 BK392 HB; have HO_7 := n0_; have HO_14 := n1_; have BK385 := n2_; have BK392 := n3_; have HB := n4_; clear n0_ n1_ n2_ n3_ n4_
                                 have p412 : 0 ≤ (x15_6 : Int) := of_decide_eq_true pa
                                 have q412 : x15_6 < (t400.length : Int) := of_decide_eq_true pa
                                 obtain ⟨ad412, e412, hx412_0⟩ := Kd.at_int (Kd.R_reads' HO_14.out).2.2 x15_6 p412 q412; obtain rfl : ad403 = ad412 := (by injection e412); replace p412 := eq_true p412; replace q412 := eq_true q412
                                 have p413 : 0 ≤ ((rd t400 x15_6) : Int) := of_decide_eq_true pa
                                 have q413 : (rd t400 x15_6) < (x7_6.length : Int) := of_decide_eq_true pa
                                 obtain ⟨ad413, e413, hx413_0⟩ := Kd.at_int (Kd.R_reads' HO_7.out).2.2 (rd t400 x15_6) p413 q413; obtain rfl : (⟨go20, 0, none⟩ : Addr) = ad413 := (by injection e413); (first | simp only [add_plain] at hx413_0 | simp only [add_at] at hx413_0 | simp only [Addr.add, Nat.zero_add] at hx413_0 | skip); replace p413 := eq_true p413; replace q413 := eq_true q413
                                 have p414 : 0 ≤ (x10_4 : Int) := of_decide_eq_true pa
                                 have q414 : x10_4 < (x7_6.length : Int) := of_decide_eq_true pa
                                 obtain ⟨ad414, e414, hx414_0⟩ := Kd.at_int (Kd.R_reads' HO_7.out).2.2 x10_4 p414 q414; obtain rfl : (⟨go20, 0, none⟩ : Addr) = ad414 := (by injection e414); (first | simp only [add_plain] at hx414_0 | simp only [add_at] at hx414_0 | simp only [Addr.add, Nat.zero_add] at hx414_0 | skip); replace p414 := eq_true p414; replace q414 := eq_true q414; refine start_ (n := 16) (S := fun w' => w'.cell? (ad403.add (x15_6).toNat) = some (.int .i64 (rd t400 x15_6)) ∧ w'.cell? ⟨go20, ((rd t400 x15_6)).toNat, none⟩ = some (.int .i64 (rd x7_6 (rd t400 x15_6))) ∧ w'.cell? ⟨go20, (x10_4).toNat, none⟩ = some (.int .i64 (rd x7_6 x10_4))) (ds := []) #[false, false, false, false, false, false, false, false, false, false, false, false, false, false, false, false] (by kernel_rfl) rfl rfl ⟨hx412_0, hx413_0, hx414_0⟩ (fun hHeld => ?_); refine with_tabW parallaxref08_Heights.tab30 parallaxref08_Heights.bits30 (fun HT_ HW_ => ?_); generalize wr.drew = w84 at HO_7 HO_14 BK385 BK392 HB hx412_0 hx413_0 hx414_0 hHeld ⊢; refine pure_ (i := 0) (N := some 148) (v := ?_) (a' := ?_) #[true, false, false, false, false, false, false, false, false, false, false, false, false, false, false, false] rfl rfl (any_of HT_.out (by kernel_rfl)) (fun _ _ _ h => h) (Or.inl ⟨by rfl, ?_⟩) ?_ ?_; rotate_left
                                 ·intro w'; go_simp; first | with_reducible rfl | rfl
                                 rotate_left
                                 ·exact pt
                                 refine pure_ (i := 1) (N := some 149) (v := ?_) (a' := ?_) #[true, true, false, false, false, false, false, false, false, false, false, false, false, false, false, false] rfl rfl (any_of HT_.out (by kernel_rfl)) (fun _ _ _ h => h) (Or.inl ⟨by rfl, ?_⟩) ?_ ?_; rotate_left
                                 ·intro w'; go_simp; first | with_reducible rfl | rfl
                                 rotate_left
                                 ·exact pt
                                 refine pure_ (i := 2) (N := some 150) (v := ?_) (a' := ?_) #[true, true, true, false, false, false, false, false, false, false, false, false, false, false, false, false] rfl rfl (any_of HT_.out (by kernel_rfl)) (fun _ _ _ h => h) (Or.inl ⟨by rfl, ?_⟩) ?_ ?_; rotate_left
                                 ·intro w'; go_simp; first | with_reducible rfl | rfl
                                 rotate_left
                                 ·exact pt
                                 refine pure_ (i := 3) (N := some 151) (v := ?_) (a' := ?_) #[true, true, true, true, false, false, false, false, false, false, false, false, false, false, false, false] rfl rfl (any_of HT_.out (by kernel_rfl)) (fun _ _ _ h => h) (Or.inl ⟨by rfl, ?_⟩) ?_ ?_; rotate_left
                                 ·intro w'; go_simp; first | with_reducible rfl | rfl
                                 rotate_left
                                 ·exact pt
                                 refine pure_ (i := 7) (N := some 155) (v := ?_) (a' := ?_) #[true, true, true, true, false, false, false, true, false, false, false, false, false, false, false, false] rfl rfl (any_of HT_.out (by kernel_rfl)) (fun _ _ _ h => h) (Or.inl ⟨by rfl, ?_⟩) ?_ ?_; rotate_left
                                 ·intro w'; go_simp; first | with_reducible rfl | rfl
                                 rotate_left
                                 ·exact pt
                                 refine pure_ (i := 8) (N := some 156) (v := ?_) (a' := ?_) #[true, true, true, true, false, false, false, true, true, false, false, false, false, false, false, false] rfl rfl (any_of HT_.out (by kernel_rfl)) (fun _ _ _ h => h) (Or.inl ⟨by rfl, ?_⟩) ?_ ?_; rotate_left
                                 ·intro w'; go_simp; first | with_reducible rfl | rfl
                                 rotate_left
                                 ·exact pt
                                 refine pure_ (i := 9) (N := some 157) (v := ?_) (a' := ?_) #[true, true, true, true, false, false, false, true, true, true, false, false, false, false, false, false] rfl rfl (any_of HT_.out (by kernel_rfl)) (fun _ _ _ h => h) (Or.inl ⟨by rfl, ?_⟩) ?_ ?_; rotate_left
                                 ·intro w'; go_simp; first | with_reducible rfl | rfl
                                 rotate_left
                                 ·exact pt
                                 refine pure_ (i := 11) (N := some 159) (v := ?_) (a' := ?_) #[true, true, true, true, false, false, false, true, true, true, false, true, false, false, false, false] rfl rfl (any_of HT_.out (by kernel_rfl)) (fun _ _ _ h => h) (Or.inl ⟨by rfl, ?_⟩) ?_ ?_; rotate_left
                                 ·intro w'; go_simp; first | with_reducible rfl | rfl
                                 rotate_left
                                 ·exact pt
                                 refine pure_ (i := 13) (N := some 161) (v := ?_) (a' := ?_) #[true, true, true, true, false, false, false, true, true, true, false, true, false, true, false, false] rfl rfl (any_of HT_.out (by kernel_rfl)) (fun _ _ _ h => h) (Or.inl ⟨by rfl, ?_⟩) ?_ ?_; rotate_left
                                 ·intro w'; go_simp; first | with_reducible rfl | rfl
                                 rotate_left
                                 ·exact pt
                                 refine take_ (i := 4) (N := some 152) (v := ?_) (a' := ?_) #[true, true, true, true, true, false, false, true, true, true, false, true, false, true, false, false] rfl rfl (take_ofW HT_.out HW_.out (by kernel_rfl)) (fun _ _ _ h => h) (Or.inl ⟨by rfl, ?_⟩) hHeld ?_ ?_; rotate_left
                                 ·rintro w' ⟨s0, s1, s2⟩; go_simp; first | with_reducible rfl | rfl
                                 rotate_left
                                 ·exact pt
                                 refine pure_ (i := 5) (N := some 153) (v := ?_) (a' := ?_) #[true, true, true, true, true, true, false, true, true, true, false, true, false, true, false, false] rfl rfl (any_of HT_.out (by kernel_rfl)) (fun _ _ _ h => h) (Or.inl ⟨by rfl, ?_⟩) ?_ ?_; rotate_left
                                 ·intro w'; go_simp; first | with_reducible rfl | rfl
                                 rotate_left
                                 ·exact pt
                                 refine take_ (i := 6) (N := some 154) (v := ?_) (a' := ?_) #[true, true, true, true, true, true, true, true, true, true, false, true, false, true, false, false] rfl rfl (take_ofW HT_.out HW_.out (by kernel_rfl)) (fun _ _ _ h => h) (Or.inl ⟨by rfl, ?_⟩) hHeld ?_ ?_; rotate_left
                                 ·rintro w' ⟨s0, s1, s2⟩; go_simp; first | with_reducible rfl | rfl
                                 rotate_left
                                 ·exact pt
                                 refine take_ (i := 10) (N := some 158) (v := ?_) (a' := ?_) #[true, true, true, true, true, true, true, true, true, true, true, true, false, true, false, false] rfl rfl (take_ofW HT_.out HW_.out (by kernel_rfl)) (fun _ _ _ h => h) (Or.inl ⟨by rfl, ?_⟩) hHeld ?_ ?_; rotate_left
                                 ·rintro w' ⟨s0, s1, s2⟩; go_simp; first | with_reducible rfl | rfl
                                 rotate_left
                                 ·exact pt
                                 refine pure_ (i := 12) (N := some 160) (v := ?_) (a' := ?_) #[true, true, true, true, true, true, true, true, true, true, true, true, true, true, false, false] rfl rfl (any_of HT_.out (by kernel_rfl)) (fun _ _ _ h => h) (Or.inl ⟨by rfl, ?_⟩) ?_ ?_; rotate_left
                                 ·intro w'; go_simp; first | with_reducible rfl | rfl
                                 rotate_left
                                 ·exact pt
                                 refine pure_ (i := 14) (N := some 162) (v := ?_) (a' := ?_) #[true, true, true, true, true, true, true, true, true, true, true, true, true, true, true, false] rfl rfl (any_of HT_.out (by kernel_rfl)) (fun _ _ _ h => h) (Or.inl ⟨by rfl, ?_⟩) ?_ ?_; rotate_left
                                 ·intro w'; go_simp; first | with_reducible rfl | rfl
                                 rotate_left
                                 ·exact pt
                                 refine pure_ (i := 15) (N := some 163) (v := ?_) (a' := ?_) #[true, true, true, true, true, true, true, true, true, true, true, true, true, true, true, true] rfl rfl (any_of HT_.out (by kernel_rfl)) (fun _ _ _ h => h) (Or.inl ⟨by rfl, ?_⟩) ?_ ?_; rotate_left
                                 ·intro w'; go_simp; first | with_reducible rfl | rfl
                                 rotate_left
                                 ·exact pt
                                 refine done_ (done_of HT_.out (by kernel_rfl)) ?_; (try go_wp2); go_ret2; exact ⟨_, pe, pn, bl⟩
                               ·rw [if_neg c79] at H; exact absurd H (by simp)
                              ·rw [if_neg c78] at H; exact absurd H (by simp)
                            ·rw [if_neg c62] at H; exact absurd H (by simp)
                           ·rw [if_neg c61] at H; exact absurd H (by simp)
                         ·rw [if_neg c58] at H; exact absurd H (by simp)
                        ·rw [if_neg c57] at H; have c57b0 : decide (x15_6 < (t400.length : Int)) = false := decide_eq_false c57; clear c57; have H' := Aside0.mk H; clear H; obtain ⟨Ao85, co85, eo85⟩ := Kd.R_slice HO_14.out; subst eo85; go_wp2; (try simp only [← hl7_4, ← hl7_6])
                         go_roundg k6
                         case measure => have := HJ2.out; have := HK2.out; have := HK3.out; have := HK4.out; have := HJ29.out; have := HK6.out; omega
                         case rel => exact ⟨(x7_6), (x9_6), (wrap64 (x10_4 + 1)), pr, pr, H', ⟨by have := HJ2.out; have := HK2.out; have := HK3.out; have := HK4.out; have := HJ29.out; have := HK6.out; omega⟩, ⟨by (try simp only [hl7_3]); (try simp only [hl7_4]); (try simp only [hl7_6]); (with_reducible repeat (first | apply Kd.R_alloc | apply Kd.R_drewN | apply Kd.R_drew)); exact Kd.R_mono HO_7.out (fun _ hk => trivial)⟩, ⟨by (try simp only [hl7_3]); (try simp only [hl7_4]); (try simp only [hl7_6]); (with_reducible repeat (first | refine blk_drewN ?_ _ | refine blk_drew ?_ | refine blk_alloc ?_ _)); exact BK385.out⟩, ⟨bl⟩⟩
                  ·rw [if_neg c28] at H; exact absurd H (by simp)
                ·rw [if_neg c26] at H; exact absurd H (by simp)
               ·rw [if_neg c25] at H; have c25b0 : decide (x10_4 < (x7_4.length : Int)) = false := decide_eq_false c25; clear c25; have H' := Aside0.mk H; clear H; go_wp2; (try simp only [← hl7_3, ← hl7_4])
                go_roundg k4
                case measure => have := HJ2.out; have := HK2.out; have := HK3.out; have := HK4.out; omega
                case rel => exact ⟨(x7_4), (x9_4), pr, H', ⟨by have := HJ2.out; have := HK2.out; have := HK3.out; have := HK4.out; omega⟩, ⟨by (try simp only [hl7_3]); (try simp only [hl7_4]); (with_reducible repeat (first | apply Kd.R_alloc | apply Kd.R_drewN | apply Kd.R_drew)); exact HO_7.out⟩, ⟨by (try simp only [hl7_3]); (try simp only [hl7_4]); (with_reducible repeat (first | refine blk_drewN ?_ _ | refine blk_drew ?_ | refine blk_alloc ?_ _)); exact BK385.out⟩, ⟨bl⟩⟩
            ·replace c24 := Bool.eq_false_iff.mpr c24; subst c24; rw [if_neg (show ¬ (false = true) by decide)] at H; simp only [Option.some.injEq, Prod.mk.injEq] at H; obtain ⟨rfl, rfl⟩ := H; go_wp2; go_ret2; exact ⟨_, pe, by (with_reducible repeat (first | apply Kd.R_alloc | apply Kd.R_drewN | apply Kd.R_drew)); exact HO_7.out, bl⟩
         ·rw [if_neg c19] at H; exact absurd H (by simp)
     ·rw [if_neg c12] at H; exact absurd H (by simp)
    ·rw [if_neg c11] at H; exact absurd H (by simp)

end Go.Proofs.YtdbpdcjlbopkbaaDoor.P
