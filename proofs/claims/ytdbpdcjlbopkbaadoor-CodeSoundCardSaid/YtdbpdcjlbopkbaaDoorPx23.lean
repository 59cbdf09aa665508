-- Written by a program of this session (its own turn of the print: wip/patch_print.py), not by hand. Lean checks it.
import Derived.Test.YtdbpdcjlbopkbaaDoorWAll
import Derived.Test.YtdbpdcjlbopkbaaDoorPx0
import Derived.Test.YtdbpdcjlbopkbaaDoorPx2
import Derived.Test.YtdbpdcjlbopkbaaDoorPx10
import Derived.Test.YtdbpdcjlbopkbaaDoorPx18
import Derived.Test.YtdbpdcjlbopkbaaDoorPx22
namespace Go.Proofs.YtdbpdcjlbopkbaaDoor.P
open Go.RowKit Go.Proofs.YtdbpdcjlbopkbaaDoorW.PrintWords Go.Proofs.YtdbpdcjlbopkbaaDoorW.PrintLast Go.Proofs.YtdbpdcjlbopkbaaDoorW.PrintMore
attribute [local go_sem] max2_int min2_int max_two min_two max_three min_three max_four min_four   -- for this text's walks alone
set_option linter.unusedVariables false
set_option linter.unusedSimpArgs false

/-! ### parallaxlaw08_CodeSound: function 5 -/
def parallaxlaw08_CodeSound.j0 : Nat → List (S33) → Int → Bool → Option (Bool)
 | 0, _, _, _ => none
 | k + 1, x0, x1, x11 => if x11 = true then ((parallaxlaw08_known.f k).bind fun t423 => (some t423)) else ((code_Sound.f k x0 x1).bind fun t424 => ((parallaxref08_Sound.f k x0 x1).bind fun t425 => (if (t424 == t425) = true then ((parallaxlaw08_known.f k).bind fun t426 => (some t426)) else (some false))))
def parallaxlaw08_CodeSound.f (k : Nat) (l0 : List (S33)) (a1 : Int) : Option (Bool) := (parallaxlaw08_great.f k l0).bind fun t421 => (if t421 = true then (parallaxlaw08_CodeSound.j0 k l0 a1 true) else ((parallaxref08_Size.f k l0 70000).bind fun t422 => (parallaxlaw08_CodeSound.j0 k l0 a1 (decide (t422 > 70000)))))
theorem parallaxlaw08_CodeSound.mono_l : ∀ k, (∀ y0 y1 y2, LeO (parallaxlaw08_CodeSound.j0 k y0 y1 y2) (parallaxlaw08_CodeSound.j0 (k + 1) y0 y1 y2))
 | 0 => fun _ _ _ r h => by simp [parallaxlaw08_CodeSound.j0] at h
 | k + 1 => by
  have ih0 := parallaxlaw08_CodeSound.mono_l k
  ·intro y0 y1 y2
   unfold parallaxlaw08_CodeSound.j0
   repeat' (with_reducible first | apply ih0 | apply code_Sound.mono | apply parallaxlaw08_great.mono | apply parallaxlaw08_known.mono | apply parallaxref08_Size.mono | apply parallaxref08_Sound.mono | exact LeO.refl _ | exact LeO.none _ | refine LeO.ite ?_ ?_ | refine LeO.bind ?_ (fun _ => ?_))
theorem parallaxlaw08_CodeSound.mono : ∀ a0 a1 k, LeO (parallaxlaw08_CodeSound.f k a0 a1) (parallaxlaw08_CodeSound.f (k + 1) a0 a1) := by
 intro a0 a1 k
 have ih0 := parallaxlaw08_CodeSound.mono_l k
 unfold parallaxlaw08_CodeSound.f
 repeat' (with_reducible first | apply ih0 | apply code_Sound.mono | apply parallaxlaw08_great.mono | apply parallaxlaw08_known.mono | apply parallaxref08_Size.mono | apply parallaxref08_Sound.mono | exact LeO.refl _ | exact LeO.none _ | refine LeO.ite ?_ ?_ | refine LeO.bind ?_ (fun _ => ?_))
set_option maxHeartbeats 8000000 in
set_option maxRecDepth 100000 in
theorem parallaxlaw08_CodeSound.calls (k : Nat) (A0 : Option Addr) (c0 : Nat) (l0 : List (S33)) (a1 : Int) (r : Bool) (w : World) (hr0 : Kd.C k33 w A0 l0.length l0) (hc0 : l0.length ≤ c0) (hLd : Laid w) (h : parallaxlaw08_CodeSound.f k l0 a1 = some r) (hr_ : r = true := by rfl) :
  Calls Tryd.prog 5 #[.slice A0 l0.length c0, .int .i64 a1] w fun e w' => e = .returned (.bool r) ∧ Below w.heap.size w w' := by
 have HR0 := Aside0.mk hr0; have HC0 := Aside0.mk hc0; clear hr0 hc0; have HLd := Aside0.mk hLd; clear hLd; have HB := Aside0.mk (Below.refl w.heap.size w); have H : ((parallaxlaw08_great.f k l0).bind fun t421 => (if t421 = true then (parallaxlaw08_CodeSound.j0 k l0 a1 true) else ((parallaxref08_Size.f k l0 70000).bind fun t422 => (parallaxlaw08_CodeSound.j0 k l0 a1 (decide (t422 > 70000)))))) = some r := h; clear h; have HC3 := Aside0.mk H; clear H; go_enter Tryd.func5, Tryd.ntmps5
 go_upto_region 1 with (fail)
 go_cut [11] (fun v11 wc => ∃ (kq : Nat) (x11_2 : Bool), v11 = .bool x11_2 ∧ Aside0 (parallaxlaw08_CodeSound.j0 kq l0 a1 x11_2 = some r) ∧ Aside0 (kq ≤ k) ∧ Aside0 (Below w.heap.size w wc))
 case first =>
  have H := HC3.out; clear HC3; replace H := Option.bind_eq_some_iff.mp H; obtain ⟨t421, A40, H⟩ := H; have A4 := Aside0.mk A40; clear A40
  by_cases c5 : t421 = true
  ·subst c5; rw [if_pos rfl] at H; have H' := Aside0.mk H; clear H
   go_wp2_with (first | ((with_reducible refine gate_callee (f := 17) rfl ?_); refine goesL_ (some 6) rfl rfl Tryd.func17 (by kernel_rfl) rfl #[.slice A0 l0.length c0] rfl (by (try simp only [List.map_toArray, List.map_cons, List.map_nil]); first | done | rfl | (simp only [List.length_drop, List.length_take]; rfl)) ?_; (with_reducible refine (parallaxlaw08_great.calls k _ _ l0 true _ ?side1 ?side2 A4.out).mono ?_); (case side1 => repeat (first | exact (Kd.C_below HR0.out HB.out) | (with_reducible refine Kd.C_alloc ?_ _) | (with_reducible refine Kd.C_drewN ?_ _) | (with_reducible refine Kd.C_drew ?_))); (case side2 => exact HC0.out); rintro e w' ⟨rfl, ⟨nd, rfl⟩⟩; refine ⟨_, rfl, ?_⟩))
   go_meet
   case rel => exact ⟨_, (true), pr, H', ⟨by first | omega | exact Nat.le_refl _⟩, ⟨bl⟩⟩
  ·replace c5 := Bool.eq_false_iff.mpr c5; subst c5; rw [if_neg (show ¬ (false = true) by decide)] at H; replace H := Option.bind_eq_some_iff.mp H; obtain ⟨t422, A60, H⟩ := H; have A6 := Aside0.mk A60; clear A60; have H' := Aside0.mk H; clear H
   go_wp2_with (first | ((with_reducible refine gate_callee (f := 17) rfl ?_); refine goesL_ (some 6) rfl rfl Tryd.func17 (by kernel_rfl) rfl #[.slice A0 l0.length c0] rfl (by (try simp only [List.map_toArray, List.map_cons, List.map_nil]); first | done | rfl | (simp only [List.length_drop, List.length_take]; rfl)) ?_; (with_reducible refine (parallaxlaw08_great.calls k _ _ l0 false _ ?side1 ?side2 A4.out).mono ?_); (case side1 => repeat (first | exact (Kd.C_below HR0.out HB.out) | (with_reducible refine Kd.C_alloc ?_ _) | (with_reducible refine Kd.C_drewN ?_ _) | (with_reducible refine Kd.C_drew ?_))); (case side2 => exact HC0.out); rintro e w' ⟨rfl, ⟨nd, rfl⟩⟩; refine ⟨_, rfl, ?_⟩) | (go_at_call 18; (with_reducible refine (parallaxref08_Size.calls k _ _ l0 70000 t422 _ ?side1 ?side2 A6.out).mono ?_); (case side1 => repeat (first | exact (Kd.C_below HR0.out bl) | (with_reducible refine Kd.C_alloc ?_ _) | (with_reducible refine Kd.C_drewN ?_ _) | (with_reducible refine Kd.C_drew ?_))); (case side2 => exact HC0.out); rintro e w' ⟨rfl, ⟨nd, rfl⟩⟩))
   go_meet
   case rel => exact ⟨_, (decide (t422 > 70000)), pr, H', ⟨by first | omega | exact Nat.le_refl _⟩, ⟨bl⟩⟩
 case rest =>
  clear HC3; obtain ⟨kq, x11_2, rfl, HA, HJ2, HB⟩ := hcut
  cases kq with
  | zero => exact absurd HA.out (by simp [parallaxlaw08_CodeSound.j0])
  | succ kj2 =>
   have H := HA.out; clear HA; simp only [parallaxlaw08_CodeSound.j0] at H
   by_cases c7 : x11_2 = true
   ·subst c7; rw [if_pos rfl] at H; replace H := Option.bind_eq_some_iff.mp H; obtain ⟨t423, A80, H⟩ := H; have A8 := Aside0.mk A80; clear A80; obtain rfl := Option.some.inj H
    go_wp2_with (first | ((with_reducible refine gate_callee (f := 10) rfl ?_); refine goesL_ (some 12) rfl rfl Tryd.func10 (by kernel_rfl) rfl #[] rfl (by (try simp only [List.map_toArray, List.map_cons, List.map_nil]); first | done | rfl | (simp only [List.length_drop, List.length_take]; rfl)) ?_; (with_reducible refine (parallaxlaw08_known.calls kj2  t423 _ ?side1 A8.out).mono ?_); (case side1 => exact Laid.below HLd.out bl); rintro e w9 ⟨rfl, hb⟩; refine ⟨_, rfl, ?_⟩; have n0_ := Aside0.mk (below_step bl hb); clear HB; have HB := n0_; clear n0_; (try clear hb)))
    go_ret; exact ⟨pe, bl⟩
   ·replace c7 := Bool.eq_false_iff.mpr c7; subst c7; rw [if_neg (show ¬ (false = true) by decide)] at H; replace H := Option.bind_eq_some_iff.mp H; obtain ⟨t424, A100, H⟩ := H; have A10 := Aside0.mk A100; clear A100; replace H := Option.bind_eq_some_iff.mp H; obtain ⟨t425, A110, H⟩ := H; have A11 := Aside0.mk A110; clear A110
    by_cases c12 : (t424 == t425) = true
    ·rw [if_pos c12] at H; have c12b0 : (t424 == t425) = true := c12; (try (have c12b1 : decide (t424 = t425) = true := by simpa using c12)); (try (have c12b2 : (t424 == t425) = true := by simpa using c12)); clear c12; replace H := Option.bind_eq_some_iff.mp H; obtain ⟨t426, A130, H⟩ := H; have A13 := Aside0.mk A130; clear A130; obtain rfl := Option.some.inj H
     go_wp2_with (first | ((with_reducible refine gate_callee (f := 19) rfl ?_); refine goesL_ (some 15) rfl rfl Tryd.func19 (by kernel_rfl) rfl #[.slice A0 l0.length c0, .int .i64 a1] rfl (by (try simp only [List.map_toArray, List.map_cons, List.map_nil]); first | done | rfl | (simp only [List.length_drop, List.length_take]; rfl)) ?_; (with_reducible refine (code_Sound.calls kj2 _ _ l0 a1 t424 _ ?side1 ?side2 ?side3 A10.out).mono ?_); (case side1 => repeat (first | exact (Kd.C_below HR0.out HB.out) | (with_reducible refine Kd.C_alloc ?_ _) | (with_reducible refine Kd.C_drewN ?_ _) | (with_reducible refine Kd.C_drew ?_))); (case side2 => exact HC0.out); (case side3 => exact Laid.below HLd.out bl); rintro e w14 ⟨rfl, hb⟩; refine ⟨_, rfl, ?_⟩; have n0_ := Aside0.mk (below_step bl hb); clear HB; have HB := n0_; clear n0_; (try clear hb)) | ((with_reducible refine gate_callee (f := 20) rfl ?_); refine goesL_ (some 18) rfl rfl Tryd.func20 (by kernel_rfl) rfl #[.slice A0 l0.length c0, .int .i64 a1] rfl (by (try simp only [List.map_toArray, List.map_cons, List.map_nil]); first | done | rfl | (simp only [List.length_drop, List.length_take]; rfl)) ?_; (with_reducible refine (parallaxref08_Sound.calls kj2 _ _ l0 a1 t425 _ ?side1 ?side2 A11.out).mono ?_); (case side1 => repeat (first | exact (Kd.C_below HR0.out HB.out) | (with_reducible refine Kd.C_alloc ?_ _) | (with_reducible refine Kd.C_drewN ?_ _) | (with_reducible refine Kd.C_drew ?_))); (case side2 => exact HC0.out); rintro e w15 ⟨rfl, hb⟩; refine ⟨_, rfl, ?_⟩; have n0_ := Aside0.mk (below_step bl hb); clear HB; have HB := n0_; clear n0_; (try clear hb)) | (go_at_call 10; (with_reducible refine (parallaxlaw08_known.calls kj2  t426 _ ?side1 A13.out).mono ?_); (case side1 => exact Laid.below HLd.out bl); rintro e w16 ⟨rfl, hb⟩; have n0_ := Aside0.mk (below_step bl hb); clear HB; have HB := n0_; clear n0_; (try clear hb)))
     go_ret; exact ⟨pe, bl⟩
    ·rw [if_neg c12] at H; have c12b0 : (t424 == t425) = false := by simpa using c12
     (try (have c12b1 : decide (t424 = t425) = false := by simpa using c12)); (try (have c12b2 : (t424 == t425) = false := by simpa using c12)); (try (have c12b3 : ¬ (t424 = t425) := by simpa using c12)); clear c12; rw [hr_] at H; exact absurd H (by simp)

/-- THE ONE PURE STATEMENT of parallaxlaw08_CodeSound. -/
def parallaxlaw08_CodeSound.Pure : Prop := ∀ (l0 : List (S33)) (a1 : Int), (l0.length * 48 ≤ 140737488351232 ∧ ∀ y0 ∈ l0, ((y0.f0.length * 24 ≤ 140737488351232 ∧ ∀ y1 ∈ y0.f0, ((Lit.int .i64 y1.f0).wf = true ∧ ((Lit.int .i64 y1.f1).wf = true ∧ (Lit.int .i64 y1.f2).wf = true))) ∧ ((Lit.int .i64 y0.f1).wf = true ∧ ((Lit.int .i64 y0.f2).wf = true ∧ True)))) → (Lit.int .i64 a1).wf = true → ∃ k, parallaxlaw08_CodeSound.f k l0 a1 = some true

end Go.Proofs.YtdbpdcjlbopkbaaDoor.P
