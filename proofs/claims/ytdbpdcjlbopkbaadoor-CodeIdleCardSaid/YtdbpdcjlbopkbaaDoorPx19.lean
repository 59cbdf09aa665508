-- Written by a program of this session (its own turn of the print: wip/patch_print.py), not by hand. Lean checks it.
import Derived.Test.YtdbpdcjlbopkbaaDoorWAll
import Derived.Test.YtdbpdcjlbopkbaaDoorPx0
import Derived.Test.YtdbpdcjlbopkbaaDoorPx12
import Derived.Test.YtdbpdcjlbopkbaaDoorPx18
namespace Go.Proofs.YtdbpdcjlbopkbaaDoor.P
open Go.RowKit Go.Proofs.YtdbpdcjlbopkbaaDoorW.PrintWords Go.Proofs.YtdbpdcjlbopkbaaDoorW.PrintLast Go.Proofs.YtdbpdcjlbopkbaaDoorW.PrintMore
attribute [local go_sem] max2_int min2_int max_two min_two max_three min_three max_four min_four   -- for this text's walks alone
set_option linter.unusedVariables false
set_option linter.unusedSimpArgs false

/-! ### parallaxref08_may: function 41 -/
mutual
def parallaxref08_may.j0 : Nat → List (S33) → Int → Bool → List (S23) → Int → Int → Bool → Int → Int → Int → Option (Bool)
 | 0, _, _, _, _, _, _, _, _, _, _ => none
 | k + 1, x0, x19, x20, x356000, x356001, x356002, x356003, x357000, x357001, x357002 => if x20 = true then ((parallaxref08_cells.f x356000 x356001 x356002 x356003 x357001 1).bind fun t359 => (some t359)) else (if x19 = 4 then (parallaxref08_may.j1 k x0 x19 (x19 == 4) x356000 x356001 x356002 x356003 x357000 x357001 x357002) else (if x19 = 5 then (parallaxref08_may.j1 k x0 x19 (x19 == 5) x356000 x356001 x356002 x356003 x357000 x357001 x357002) else (parallaxref08_may.j1 k x0 x19 (x19 == 6) x356000 x356001 x356002 x356003 x357000 x357001 x357002)))
def parallaxref08_may.j1 : Nat → List (S33) → Int → Bool → List (S23) → Int → Int → Bool → Int → Int → Int → Option (Bool)
 | 0, _, _, _, _, _, _, _, _, _, _ => none
 | k + 1, x0, x19, x27, x356000, x356001, x356002, x356003, x357000, x357001, x357002 => if x27 = true then ((parallaxref08_cells.f x356000 x356001 x356002 x356003 x357001 x357002).bind fun t360 => (if t360 = true then (some (decide (x357002 ≤ 64))) else (some false))) else (if x19 = 17 then (parallaxref08_may.j2 k x0 x19 (x19 == 17) x356000 x356001 x356002 x356003 x357000 x357001 x357002) else (parallaxref08_may.j2 k x0 x19 (x19 == 18) x356000 x356001 x356002 x356003 x357000 x357001 x357002))
def parallaxref08_may.j2 : Nat → List (S33) → Int → Bool → List (S23) → Int → Int → Bool → Int → Int → Int → Option (Bool)
 | 0, _, _, _, _, _, _, _, _, _, _ => none
 | k + 1, x0, x19, x42, x356000, x356001, x356002, x356003, x357000, x357001, x357002 => if x42 = true then (if x357001 ≥ 0 then (some (decide (x357001 < (x356000.length : Int)))) else (some false)) else (if x19 = 19 then (if x357001 < 0 then (some false) else (if x357001 ≥ (x0.length : Int) then (some false) else (if 0 ≤ x357001 then (if x357001 < (x0.length : Int) then (if ((rd_T33 x0 x357001).f2) = x357002 then (if ((rd_T33 x0 x357001).f2) ≥ 0 then (some (decide (((rd_T33 x0 x357001).f2) ≤ 8))) else (some false)) else (some false)) else (none)) else (none)))) else (if x19 = 20 then (if x356003 = true then (some (x357001 == 1)) else (some (x357001 == 0))) else (if x19 = 24 then (if x357001 ≥ 0 then (if x357002 ≥ 1 then (some (decide (x357002 ≤ 3))) else (some false)) else (some false)) else (some true))))
end
def parallaxref08_may.f (k : Nat) (l0 : List (S33)) (l1_0 : List (S23)) (a1_1 : Int) (a1_2 : Int) (a1_3 : Bool) (a2_0 : Int) (a2_1 : Int) (a2_2 : Int) : Option (Bool) := (parallaxref08_Text.f k a2_0 a2_1 a2_2).bind fun bt357 => (if bt357.2 = 0 then (if a2_0 = 2 then (parallaxref08_may.j0 k l0 a2_0 (a2_0 == 2) l1_0 a1_1 a1_2 a1_3 a2_0 a2_1 a2_2) else (parallaxref08_may.j0 k l0 a2_0 (a2_0 == 3) l1_0 a1_1 a1_2 a1_3 a2_0 a2_1 a2_2)) else (some false))
theorem parallaxref08_may.mono_l : ∀ k, (∀ y0 y1 y2 y3 y4 y5 y6 y7 y8 y9, LeO (parallaxref08_may.j0 k y0 y1 y2 y3 y4 y5 y6 y7 y8 y9) (parallaxref08_may.j0 (k + 1) y0 y1 y2 y3 y4 y5 y6 y7 y8 y9)) ∧ (∀ y0 y1 y2 y3 y4 y5 y6 y7 y8 y9, LeO (parallaxref08_may.j1 k y0 y1 y2 y3 y4 y5 y6 y7 y8 y9) (parallaxref08_may.j1 (k + 1) y0 y1 y2 y3 y4 y5 y6 y7 y8 y9)) ∧ (∀ y0 y1 y2 y3 y4 y5 y6 y7 y8 y9, LeO (parallaxref08_may.j2 k y0 y1 y2 y3 y4 y5 y6 y7 y8 y9) (parallaxref08_may.j2 (k + 1) y0 y1 y2 y3 y4 y5 y6 y7 y8 y9))
 | 0 => ⟨fun _ _ _ _ _ _ _ _ _ _ r h => by simp [parallaxref08_may.j0] at h, fun _ _ _ _ _ _ _ _ _ _ r h => by simp [parallaxref08_may.j1] at h, fun _ _ _ _ _ _ _ _ _ _ r h => by simp [parallaxref08_may.j2] at h⟩
 | k + 1 => by
  obtain ⟨ih0, ih1, ih2⟩ := parallaxref08_may.mono_l k
  refine ⟨?_, ?_, ?_⟩
  ·intro y0 y1 y2 y3 y4 y5 y6 y7 y8 y9
   unfold parallaxref08_may.j0
   repeat' (with_reducible first | apply ih0 | apply ih1 | apply ih2 | apply parallaxref08_Text.mono | exact LeO.refl _ | exact LeO.none _ | refine LeO.ite ?_ ?_ | refine LeO.bind ?_ (fun _ => ?_))
  ·intro y0 y1 y2 y3 y4 y5 y6 y7 y8 y9
   unfold parallaxref08_may.j1
   repeat' (with_reducible first | apply ih0 | apply ih1 | apply ih2 | apply parallaxref08_Text.mono | exact LeO.refl _ | exact LeO.none _ | refine LeO.ite ?_ ?_ | refine LeO.bind ?_ (fun _ => ?_))
  ·intro y0 y1 y2 y3 y4 y5 y6 y7 y8 y9
   unfold parallaxref08_may.j2
   repeat' (with_reducible first | apply ih0 | apply ih1 | apply ih2 | apply parallaxref08_Text.mono | exact LeO.refl _ | exact LeO.none _ | refine LeO.ite ?_ ?_ | refine LeO.bind ?_ (fun _ => ?_))
theorem parallaxref08_may.mono : ∀ a0 a1 a2 a3 a4 a5 a6 a7 k, LeO (parallaxref08_may.f k a0 a1 a2 a3 a4 a5 a6 a7) (parallaxref08_may.f (k + 1) a0 a1 a2 a3 a4 a5 a6 a7) := by
 intro a0 a1 a2 a3 a4 a5 a6 a7 k
 obtain ⟨ih0, ih1, ih2⟩ := parallaxref08_may.mono_l k
 unfold parallaxref08_may.f
 repeat' (with_reducible first | apply ih0 | apply ih1 | apply ih2 | apply parallaxref08_Text.mono | exact LeO.refl _ | exact LeO.none _ | refine LeO.ite ?_ ?_ | refine LeO.bind ?_ (fun _ => ?_))
set_option maxHeartbeats 8000000 in
set_option maxRecDepth 100000 in
theorem parallaxref08_may.calls (k : Nat) (A0 : Option Addr) (c0 : Nat) (l0 : List (S33)) (A1_0 : Option Addr) (c1_0 : Nat) (l1_0 : List (S23)) (a1_1 : Int) (a1_2 : Int) (a1_3 : Bool) (a2_0 : Int) (a2_1 : Int) (a2_2 : Int) (r : Bool) (w : World) (hr0 : Kd.C k33 w A0 l0.length l0) (hc0 : l0.length ≤ c0) (hr1_0 : Kd.C k23 w A1_0 l1_0.length l1_0) (hc1_0 : l1_0.length ≤ c1_0) (h : parallaxref08_may.f k l0 l1_0 a1_1 a1_2 a1_3 a2_0 a2_1 a2_2 = some r) :
  Calls Tryd.prog 41 #[.slice A0 l0.length c0, .agg #[.slice A1_0 l1_0.length c1_0, .int .i64 a1_1, .int .i64 a1_2, .bool a1_3], .agg #[.int .i64 a2_0, .int .i64 a2_1, .int .i64 a2_2]] w fun e w' => e = .returned (.bool r) ∧ Below w.heap.size w w' := by
 have hu33 := Tryd.underlying33; have hu23 := Tryd.underlying23; have HR0 := Aside0.mk hr0; have HC0 := Aside0.mk hc0; clear hr0 hc0; have HR1_0 := Aside0.mk hr1_0; have HC1_0 := Aside0.mk hc1_0; clear hr1_0 hc1_0; have HB := Aside0.mk (Below.refl w.heap.size w); have H : ((parallaxref08_Text.f k a2_0 a2_1 a2_2).bind fun bt357 => (if bt357.2 = 0 then (if a2_0 = 2 then (parallaxref08_may.j0 k l0 a2_0 (a2_0 == 2) l1_0 a1_1 a1_2 a1_3 a2_0 a2_1 a2_2) else (parallaxref08_may.j0 k l0 a2_0 (a2_0 == 3) l1_0 a1_1 a1_2 a1_3 a2_0 a2_1 a2_2)) else (some false))) = some r := h; clear h; replace H := Option.bind_eq_some_iff.mp H; obtain ⟨⟨t357, t358⟩, A40, H⟩ := H; have A4 := Aside0.mk A40; clear A40
 by_cases c5 : t358 = 0
 ·rw [if_pos c5] at H; have c5b0 : (t358 == 0) = true := beq_iff_eq.mpr c5; have c5b1 : (t358 != 0) = false := bne_eq_false_iff_eq.mpr c5; clear c5; have HC6 := Aside0.mk H; clear H; go_enter Tryd.func41, Tryd.ntmps41
  go_upto_if 20 with (first | ((with_reducible refine gate_dst (N := 4) rfl ?_); (try (refine gate_guard (by rfl) ?_; dsimp only)); refine box_event ?hg (N := 4) ?hd (cs := #[.slice A1_0 l1_0.length c1_0, .int .i64 a1_1, .int .i64 a1_2, .bool a1_3]) (t := 33) ?hr ?_; (case hd => rfl); (case hg => rfl); (case hr => first | (go_simp; done) | (go_simp; rfl)); intro gb355 hg w7 hbox hb; have n0_ := Aside0.mk (below_step bl hb); have n1_ := Aside0.mk (hbox); have n2_ := Aside0.mk ((by rw [hg]; exact (below_size bl) : w.heap.size ≤ gb355)); have n3_ := Aside0.mk ((by rw [hg]; exact (below_size bl) : w.heap.size ≤ gb355)); clear HB; have HB := n0_; have BK355 := n1_; have GW355 := n2_; have GE355 := n3_; clear n0_ n1_ n2_ n3_; clear hb hbox hg) | ((with_reducible refine gate_dst (N := 5) rfl ?_); (try (refine gate_guard (by rfl) ?_; dsimp only)); refine box_event ?hg (N := 5) ?hd (cs := #[.int .i64 a2_0, .int .i64 a2_1, .int .i64 a2_2]) (t := 23) ?hr ?_; (case hd => rfl); (case hg => rfl); (case hr => first | (go_simp; done) | (go_simp; rfl)); intro gb356 hg w8 hbox hb; have n0_ := Aside0.mk (blk_below (g := gb355) (o := .cells #[.slice A1_0 l1_0.length c1_0, .int .i64 a1_1, .int .i64 a1_2, .bool a1_3] 33 (0, 0)) bk hb); have n1_ := Aside0.mk (below_step bl hb); have n2_ := Aside0.mk (hbox); have n3_ := Aside0.mk ((by rw [hg]; exact (below_size bl) : w.heap.size ≤ gb356)); have n4_ := Aside0.mk ((by rw [hg]; exact (below_size bl) : w.heap.size ≤ gb356)); have n5_ := Aside0.mk ((by rw [hg]; exact Nat.ne_of_lt (blk_lt (g := gb355) (o := .cells #[.slice A1_0 l1_0.length c1_0, .int .i64 a1_1, .int .i64 a1_2, .bool a1_3] 33 (0, 0)) bk) : gb355 ≠ gb356)); have n6_ := Aside0.mk ((by rw [hg]; exact Nat.ne_of_gt (blk_lt (g := gb355) (o := .cells #[.slice A1_0 l1_0.length c1_0, .int .i64 a1_1, .int .i64 a1_2, .bool a1_3] 33 (0, 0)) bk) : gb356 ≠ gb355)); clear BK355 HB; have BK355 := n0_; have HB := n1_; have BK356 := n2_; have GW356 := n3_; have GE356 := n4_; have NB355_356 := n5_; have NB356_355 := n6_; clear n0_ n1_ n2_ n3_ n4_ n5_ n6_; clear hb hbox hg; have hnb9 := NB356_355.out; have hnc9 := NB355_356.out; obtain ⟨hcz10_0, hcz10_1, hcz10_2⟩ := bd3 BK356.out; have hfz10_0 := blk_frozen BK356.out 0; have hfz10_1 := blk_frozen BK356.out 1; have hfz10_2 := blk_frozen BK356.out 2) | ((with_reducible refine gate_callee (f := 12) rfl ?_); refine goesL_ (some 13) rfl rfl Tryd.func12 (by kernel_rfl) rfl #[.agg #[.int .i64 a2_0, .int .i64 a2_1, .int .i64 a2_2]] rfl (by (try simp only [List.map_toArray, List.map_cons, List.map_nil]); first | done | rfl | (simp only [List.length_drop, List.length_take]; rfl)) ?_; (with_reducible refine (parallaxref08_Text.calls k a2_0 a2_1 a2_2 t357 t358 _ A4.out).mono ?_); rintro e w11 ⟨rfl, hb⟩; refine ⟨_, rfl, ?_⟩; have n0_ := Aside0.mk (blk_below (g := gb355) (o := .cells #[.slice A1_0 l1_0.length c1_0, .int .i64 a1_1, .int .i64 a1_2, .bool a1_3] 33 (0, 0)) bk hb); have n1_ := Aside0.mk (blk_below (g := gb356) (o := .cells #[.int .i64 a2_0, .int .i64 a2_1, .int .i64 a2_2] 23 (0, 0)) bk hb); have n2_ := Aside0.mk (below_step bl hb); clear BK355 BK356 HB; have BK355 := n0_; have BK356 := n1_; have HB := n2_; clear n0_ n1_ n2_; (try clear hb); obtain ⟨hcz12_0, hcz12_1, hcz12_2⟩ := bd3 BK356.out; have hfz12_0 := blk_frozen BK356.out 0; have hfz12_1 := blk_frozen BK356.out 1; have hfz12_2 := blk_frozen BK356.out 2))
  (try simp only [Act.put, List.setIfInBounds_toArray, List.set_cons_zero, List.set_cons_succ])
  go_cut [20] (fun v20 wc => ∃ (kq : Nat) (x20_5 : Bool), v20 = .bool x20_5 ∧ Aside0 (parallaxref08_may.j0 kq l0 a2_0 x20_5 l1_0 a1_1 a1_2 a1_3 a2_0 a2_1 a2_2 = some r) ∧ Aside0 (kq ≤ k) ∧ Aside0 (wc.heap[gb355]? = some (.cells #[(.slice A1_0 l1_0.length c1_0), .int .i64 a1_1, .int .i64 a1_2, .bool a1_3] 33 (0, 0))) ∧ Aside0 (wc.heap[gb356]? = some (.cells #[.int .i64 a2_0, .int .i64 a2_1, .int .i64 a2_2] 23 (0, 0))) ∧ Aside0 (Below w.heap.size w wc))
  case first =>
   have H := HC6.out; clear HC6
   by_cases c13 : a2_0 = 2
   ·rw [if_pos c13] at H; have c13b0 : (a2_0 == 2) = true := beq_iff_eq.mpr c13; have c13b1 : (a2_0 != 2) = false := bne_eq_false_iff_eq.mpr c13; clear c13; (first | rw [c13b0] | (simp only [i64_w, i32_w]; rw [c13b0]) | skip); have H' := Aside0.mk H; clear H; go_wp2; go_meet
    case rel => exact ⟨_, ((a2_0 == 2)), pr, H', ⟨by first | omega | exact Nat.le_refl _⟩, ⟨bk⟩, ⟨bk⟩, ⟨bl⟩⟩
   ·rw [if_neg c13] at H; have c13b0 : (a2_0 == 2) = false := beq_eq_false_iff_ne.mpr c13; have c13b1 : (a2_0 != 2) = true := bne_iff_ne.mpr c13; (first | rw [c13b0] | (simp only [i64_w, i32_w]; rw [c13b0]) | skip); have H' := Aside0.mk H; clear H; go_wp2; go_meet
    case rel => exact ⟨_, ((a2_0 == 3)), pr, H', ⟨by first | omega | exact Nat.le_refl _⟩, ⟨bk⟩, ⟨bk⟩, ⟨bl⟩⟩
  case rest =>
   clear HC6; (try clear c5b0); (try clear c5b1); (try clear hcz10_0); (try clear hcz10_1); (try clear hcz10_2); (try clear hcz12_0); (try clear hcz12_1); (try clear hcz12_2); (try clear hfz10_0); (try clear hfz10_1); (try clear hfz10_2); (try clear hfz12_0); (try clear hfz12_1); (try clear hfz12_2); obtain ⟨kq, x20_5, rfl, HA, HJ5, BK355, BK356, HB⟩ := hcut
   cases kq with
   | zero => exact absurd HA.out (by simp [parallaxref08_may.j0])
   | succ kj5 =>
    have H := HA.out; clear HA; simp only [parallaxref08_may.j0] at H
    by_cases c14 : x20_5 = true
    ·subst c14; rw [if_pos rfl] at H; replace H := Option.bind_eq_some_iff.mp H; obtain ⟨t359, A150, H⟩ := H; have A15 := Aside0.mk A150; clear A150; obtain rfl := Option.some.inj H; have hnb16 := NB355_356.out; have hnc16 := NB356_355.out; obtain ⟨hcz17_0, hcz17_1, hcz17_2, hcz17_3, hfz17_0, hfz17_1, hfz17_2, hfz17_3⟩ := bc4 BK355.out; obtain ⟨hcz18_0, hcz18_1, hcz18_2⟩ := bd3 BK356.out; have hfz18_0 := blk_frozen BK356.out 0; have hfz18_1 := blk_frozen BK356.out 1; have hfz18_2 := blk_frozen BK356.out 2
     go_wp2_with (first | ((with_reducible refine gate_callee (f := 46) rfl ?_); refine goesL_ (some 26) rfl rfl Tryd.func46 (by kernel_rfl) rfl #[.agg #[.slice A1_0 l1_0.length c1_0, .int .i64 a1_1, .int .i64 a1_2, .bool a1_3], .int .i64 a2_1, .int .i64 1] rfl (by (try simp only [List.map_toArray, List.map_cons, List.map_nil]); first | done | rfl | (simp only [List.length_drop, List.length_take]; rfl)) ?_; (with_reducible refine (parallaxref08_cells.calls _ _ l1_0 a1_1 a1_2 a1_3 a2_1 1 t359 _ ?side1 ?side2 A15.out).mono ?_); (case side1 => repeat (first | exact (Kd.C_below HR1_0.out HB.out) | (with_reducible refine Kd.C_alloc ?_ _) | (with_reducible refine Kd.C_drewN ?_ _) | (with_reducible refine Kd.C_drew ?_))); (case side2 => exact HC1_0.out); rintro e w19 ⟨rfl, hb⟩; refine ⟨_, rfl, ?_⟩; have n0_ := Aside0.mk (blk_below (g := gb355) (o := .cells #[.slice A1_0 l1_0.length c1_0, .int .i64 a1_1, .int .i64 a1_2, .bool a1_3] 33 (0, 0)) bk hb); have n1_ := Aside0.mk (blk_below (g := gb356) (o := .cells #[.int .i64 a2_0, .int .i64 a2_1, .int .i64 a2_2] 23 (0, 0)) bk hb); have n2_ := Aside0.mk (below_step bl hb); clear BK355 BK356 HB; have BK355 := n0_; have BK356 := n1_; have HB := n2_; clear n0_ n1_ n2_; (try clear hb)))
     go_ret; exact ⟨pe, bl⟩
    ·replace c14 := Bool.eq_false_iff.mpr c14; subst c14; rw [if_neg (show ¬ (false = true) by decide)] at H; have HC20 := Aside0.mk H; clear H
     go_upto_if 27 with (fail)
     go_cut [27] (fun v27 wc => ∃ (kq : Nat) (x27_19 : Bool), v27 = .bool x27_19 ∧ Aside0 (parallaxref08_may.j1 kq l0 a2_0 x27_19 l1_0 a1_1 a1_2 a1_3 a2_0 a2_1 a2_2 = some r) ∧ Aside0 (kq ≤ kj5) ∧ Aside0 (wc.heap[gb355]? = some (.cells #[(.slice A1_0 l1_0.length c1_0), .int .i64 a1_1, .int .i64 a1_2, .bool a1_3] 33 (0, 0))) ∧ Aside0 (wc.heap[gb356]? = some (.cells #[.int .i64 a2_0, .int .i64 a2_1, .int .i64 a2_2] 23 (0, 0))) ∧ Aside0 (Below w.heap.size w wc))
     case first =>
      have H := HC20.out; clear HC20
      by_cases c21 : a2_0 = 4
      ·rw [if_pos c21] at H; have c21b0 : (a2_0 == 4) = true := beq_iff_eq.mpr c21; have c21b1 : (a2_0 != 4) = false := bne_eq_false_iff_eq.mpr c21; clear c21; (first | rw [c21b0] | (simp only [i64_w, i32_w]; rw [c21b0]) | skip); have H' := Aside0.mk H; clear H; go_wp2; go_meet
       case rel => exact ⟨_, ((a2_0 == 4)), pr, H', ⟨by have := HJ5.out; first | omega | exact Nat.le_refl _⟩, ⟨bk⟩, ⟨bk⟩, ⟨bl⟩⟩
      ·rw [if_neg c21] at H; have c21b0 : (a2_0 == 4) = false := beq_eq_false_iff_ne.mpr c21; have c21b1 : (a2_0 != 4) = true := bne_iff_ne.mpr c21; (first | rw [c21b0] | (simp only [i64_w, i32_w]; rw [c21b0]) | skip)
       by_cases c22 : a2_0 = 5
       ·rw [if_pos c22] at H; have c22b0 : (a2_0 == 5) = true := beq_iff_eq.mpr c22; have c22b1 : (a2_0 != 5) = false := bne_eq_false_iff_eq.mpr c22; clear c22; have H' := Aside0.mk H; clear H; go_wp2; go_meet
        case rel => exact ⟨_, ((a2_0 == 5)), pr, H', ⟨by have := HJ5.out; first | omega | exact Nat.le_refl _⟩, ⟨bk⟩, ⟨bk⟩, ⟨bl⟩⟩
       ·rw [if_neg c22] at H; have c22b0 : (a2_0 == 5) = false := beq_eq_false_iff_ne.mpr c22; have c22b1 : (a2_0 != 5) = true := bne_iff_ne.mpr c22; have H' := Aside0.mk H; clear H; go_wp2; go_meet
        case rel => exact ⟨_, ((a2_0 == 6)), pr, H', ⟨by have := HJ5.out; first | omega | exact Nat.le_refl _⟩, ⟨bk⟩, ⟨bk⟩, ⟨bl⟩⟩
     case rest =>
      clear HC20; obtain ⟨kq, x27_19, rfl, HA, HJ19, BK355, BK356, HB⟩ := hcut
      cases kq with
      | zero => exact absurd HA.out (by simp [parallaxref08_may.j1])
      | succ kj19 =>
       have H := HA.out; clear HA; simp only [parallaxref08_may.j1] at H
       by_cases c23 : x27_19 = true
       ·subst c23; rw [if_pos rfl] at H; replace H := Option.bind_eq_some_iff.mp H; obtain ⟨t360, A240, H⟩ := H; have A24 := Aside0.mk A240; clear A240
        by_cases c25 : t360 = true
        ·subst c25; rw [if_pos rfl] at H; obtain rfl := Option.some.inj H; have hnb26 := NB355_356.out; have hnc26 := NB356_355.out; obtain ⟨hcz27_0, hcz27_1, hcz27_2, hcz27_3, hfz27_0, hfz27_1, hfz27_2, hfz27_3⟩ := bc4 BK355.out; obtain ⟨hcz28_0, hcz28_1, hcz28_2⟩ := bd3 BK356.out; have hfz28_0 := blk_frozen BK356.out 0; have hfz28_1 := blk_frozen BK356.out 1; have hfz28_2 := blk_frozen BK356.out 2
         go_wp2_with (first | ((with_reducible refine gate_callee (f := 46) rfl ?_); refine goesL_ (some 36) rfl rfl Tryd.func46 (by kernel_rfl) rfl #[.agg #[.slice A1_0 l1_0.length c1_0, .int .i64 a1_1, .int .i64 a1_2, .bool a1_3], .int .i64 a2_1, .int .i64 a2_2] rfl (by (try simp only [List.map_toArray, List.map_cons, List.map_nil]); first | done | rfl | (simp only [List.length_drop, List.length_take]; rfl)) ?_; (with_reducible refine (parallaxref08_cells.calls _ _ l1_0 a1_1 a1_2 a1_3 a2_1 a2_2 true _ ?side1 ?side2 A24.out).mono ?_); (case side1 => repeat (first | exact (Kd.C_below HR1_0.out HB.out) | (with_reducible refine Kd.C_alloc ?_ _) | (with_reducible refine Kd.C_drewN ?_ _) | (with_reducible refine Kd.C_drew ?_))); (case side2 => exact HC1_0.out); rintro e w29 ⟨rfl, hb⟩; refine ⟨_, rfl, ?_⟩; have n0_ := Aside0.mk (blk_below (g := gb355) (o := .cells #[.slice A1_0 l1_0.length c1_0, .int .i64 a1_1, .int .i64 a1_2, .bool a1_3] 33 (0, 0)) bk hb); have n1_ := Aside0.mk (blk_below (g := gb356) (o := .cells #[.int .i64 a2_0, .int .i64 a2_1, .int .i64 a2_2] 23 (0, 0)) bk hb); have n2_ := Aside0.mk (below_step bl hb); clear BK355 BK356 HB; have BK355 := n0_; have BK356 := n1_; have HB := n2_; clear n0_ n1_ n2_; (try clear hb); obtain ⟨hcz30_0, hcz30_1, hcz30_2⟩ := bd3 BK356.out; have hfz30_0 := blk_frozen BK356.out 0; have hfz30_1 := blk_frozen BK356.out 1; have hfz30_2 := blk_frozen BK356.out 2))
         go_ret; exact ⟨pe, bl⟩
        ·replace c25 := Bool.eq_false_iff.mpr c25; subst c25; rw [if_neg (show ¬ (false = true) by decide)] at H; obtain rfl := Option.some.inj H; have hnb31 := NB355_356.out; have hnc31 := NB356_355.out; obtain ⟨hcz32_0, hcz32_1, hcz32_2, hcz32_3, hfz32_0, hfz32_1, hfz32_2, hfz32_3⟩ := bc4 BK355.out; obtain ⟨hcz33_0, hcz33_1, hcz33_2⟩ := bd3 BK356.out; have hfz33_0 := blk_frozen BK356.out 0; have hfz33_1 := blk_frozen BK356.out 1; have hfz33_2 := blk_frozen BK356.out 2
         go_wp2_with (first | ((with_reducible refine gate_callee (f := 46) rfl ?_); refine goesL_ (some 36) rfl rfl Tryd.func46 (by kernel_rfl) rfl #[.agg #[.slice A1_0 l1_0.length c1_0, .int .i64 a1_1, .int .i64 a1_2, .bool a1_3], .int .i64 a2_1, .int .i64 a2_2] rfl (by (try simp only [List.map_toArray, List.map_cons, List.map_nil]); first | done | rfl | (simp only [List.length_drop, List.length_take]; rfl)) ?_; (with_reducible refine (parallaxref08_cells.calls _ _ l1_0 a1_1 a1_2 a1_3 a2_1 a2_2 false _ ?side1 ?side2 A24.out).mono ?_); (case side1 => repeat (first | exact (Kd.C_below HR1_0.out HB.out) | (with_reducible refine Kd.C_alloc ?_ _) | (with_reducible refine Kd.C_drewN ?_ _) | (with_reducible refine Kd.C_drew ?_))); (case side2 => exact HC1_0.out); rintro e w34 ⟨rfl, hb⟩; refine ⟨_, rfl, ?_⟩; have n0_ := Aside0.mk (blk_below (g := gb355) (o := .cells #[.slice A1_0 l1_0.length c1_0, .int .i64 a1_1, .int .i64 a1_2, .bool a1_3] 33 (0, 0)) bk hb); have n1_ := Aside0.mk (blk_below (g := gb356) (o := .cells #[.int .i64 a2_0, .int .i64 a2_1, .int .i64 a2_2] 23 (0, 0)) bk hb); have n2_ := Aside0.mk (below_step bl hb); clear BK355 BK356 HB; have BK355 := n0_; have BK356 := n1_; have HB := n2_; clear n0_ n1_ n2_; (try clear hb)))
         go_ret; exact ⟨pe, bl⟩
       ·replace c23 := Bool.eq_false_iff.mpr c23; subst c23; rw [if_neg (show ¬ (false = true) by decide)] at H; have HC35 := Aside0.mk H; clear H
        go_upto_if 42 with (fail)
        go_cut [42] (fun v42 wc => ∃ (kq : Nat) (x42_34 : Bool), v42 = .bool x42_34 ∧ Aside0 (parallaxref08_may.j2 kq l0 a2_0 x42_34 l1_0 a1_1 a1_2 a1_3 a2_0 a2_1 a2_2 = some r) ∧ Aside0 (kq ≤ kj19) ∧ Aside0 (wc.heap[gb355]? = some (.cells #[(.slice A1_0 l1_0.length c1_0), .int .i64 a1_1, .int .i64 a1_2, .bool a1_3] 33 (0, 0))) ∧ Aside0 (wc.heap[gb356]? = some (.cells #[.int .i64 a2_0, .int .i64 a2_1, .int .i64 a2_2] 23 (0, 0))) ∧ Aside0 (Below w.heap.size w wc))
        case first =>
         have H := HC35.out; clear HC35
         by_cases c36 : a2_0 = 17
         ·rw [if_pos c36] at H; have c36b0 : (a2_0 == 17) = true := beq_iff_eq.mpr c36; have c36b1 : (a2_0 != 17) = false := bne_eq_false_iff_eq.mpr c36; clear c36; (first | rw [c36b0] | (simp only [i64_w, i32_w]; rw [c36b0]) | skip); have H' := Aside0.mk H; clear H; go_wp2; go_meet
          case rel => exact ⟨_, ((a2_0 == 17)), pr, H', ⟨by have := HJ5.out; have := HJ19.out; first | omega | exact Nat.le_refl _⟩, ⟨bk⟩, ⟨bk⟩, ⟨bl⟩⟩
         ·rw [if_neg c36] at H; have c36b0 : (a2_0 == 17) = false := beq_eq_false_iff_ne.mpr c36; have c36b1 : (a2_0 != 17) = true := bne_iff_ne.mpr c36; (first | rw [c36b0] | (simp only [i64_w, i32_w]; rw [c36b0]) | skip); have H' := Aside0.mk H; clear H; go_wp2; go_meet
          case rel => exact ⟨_, ((a2_0 == 18)), pr, H', ⟨by have := HJ5.out; have := HJ19.out; first | omega | exact Nat.le_refl _⟩, ⟨bk⟩, ⟨bk⟩, ⟨bl⟩⟩
        case rest =>
         clear HC35; obtain ⟨kq, x42_34, rfl, HA, HJ34, BK355, BK356, HB⟩ := hcut
         cases kq with
         | zero => exact absurd HA.out (by simp [parallaxref08_may.j2])
         | succ kj34 =>
          have H := HA.out; clear HA; simp only [parallaxref08_may.j2] at H
          by_cases c37 : x42_34 = true
          ·subst c37; rw [if_pos rfl] at H
           by_cases c38 : a2_1 ≥ 0
           ·rw [if_pos c38] at H; have c38b0 : decide (0 ≤ a2_1) = true := decide_eq_true c38; clear c38; obtain rfl := Option.some.inj H; have hnb39 := NB356_355.out; have hnc39 := NB355_356.out; obtain ⟨hcz40_0, hcz40_1, hcz40_2, hfz40_0, hfz40_1, hfz40_2⟩ := bc3 BK356.out; obtain ⟨hcz41_0, hcz41_1, hcz41_2, hcz41_3, hfz41_0, hfz41_1, hfz41_2, hfz41_3⟩ := bc4 BK355.out; go_wp2; go_ret; exact ⟨pe, bl⟩
           ·rw [if_neg c38] at H; have c38b0 : decide (0 ≤ a2_1) = false := decide_eq_false c38; clear c38; obtain rfl := Option.some.inj H; have hnb42 := NB356_355.out; have hnc42 := NB355_356.out; obtain ⟨hcz43_0, hcz43_1, hcz43_2, hfz43_0, hfz43_1, hfz43_2⟩ := bc3 BK356.out; go_wp2; go_ret; exact ⟨pe, bl⟩
          ·replace c37 := Bool.eq_false_iff.mpr c37; subst c37; rw [if_neg (show ¬ (false = true) by decide)] at H
           by_cases c44 : a2_0 = 19
           ·rw [if_pos c44] at H; have c44b0 : (a2_0 == 19) = true := beq_iff_eq.mpr c44; have c44b1 : (a2_0 != 19) = false := bne_eq_false_iff_eq.mpr c44; clear c44
            by_cases c45 : a2_1 < 0
            ·rw [if_pos c45] at H; have c45b0 : decide (a2_1 < 0) = true := decide_eq_true c45; clear c45; obtain rfl := Option.some.inj H; have hnb46 := NB356_355.out; have hnc46 := NB355_356.out; obtain ⟨hcz47_0, hcz47_1, hcz47_2, hfz47_0, hfz47_1, hfz47_2⟩ := bc3 BK356.out; go_wp2; go_ret; exact ⟨pe, bl⟩
            ·rw [if_neg c45] at H; have c45b0 : decide (a2_1 < 0) = false := decide_eq_false c45; clear c45
             by_cases c48 : a2_1 ≥ (l0.length : Int)
             ·rw [if_pos c48] at H; have c48b0 : decide ((l0.length : Int) ≤ a2_1) = true := decide_eq_true c48; clear c48; obtain rfl := Option.some.inj H; have hnb49 := NB356_355.out; have hnc49 := NB355_356.out; obtain ⟨hcz50_0, hcz50_1, hcz50_2, hfz50_0, hfz50_1, hfz50_2⟩ := bc3 BK356.out; go_wp2; go_ret; exact ⟨pe, bl⟩
             ·rw [if_neg c48] at H; have c48b0 : decide ((l0.length : Int) ≤ a2_1) = false := decide_eq_false c48; clear c48
              by_cases c51 : 0 ≤ a2_1
              ·rw [if_pos c51] at H; have c51b0 : decide (0 ≤ a2_1) = true := decide_eq_true c51; clear c51
               by_cases c52 : a2_1 < (l0.length : Int)
               ·rw [if_pos c52] at H; have c52b0 : decide (a2_1 < (l0.length : Int)) = true := decide_eq_true c52; clear c52
                by_cases c53 : ((rd_T33 l0 a2_1).f2) = a2_2
                ·rw [if_pos c53] at H; have c53b0 : (((rd_T33 l0 a2_1).f2) == a2_2) = true := beq_iff_eq.mpr c53; have c53b1 : (((rd_T33 l0 a2_1).f2) != a2_2) = false := bne_eq_false_iff_eq.mpr c53; clear c53
                 by_cases c54 : ((rd_T33 l0 a2_1).f2) ≥ 0
                 ·rw [if_pos c54] at H; have c54b0 : decide (0 ≤ ((rd_T33 l0 a2_1).f2)) = true := decide_eq_true c54; clear c54; obtain rfl := Option.some.inj H; have hnb55 := NB356_355.out; have hnc55 := NB355_356.out; obtain ⟨hcz56_0, hcz56_1, hcz56_2⟩ := bd3 BK356.out; have hfz56_0 := blk_frozen BK356.out 0; have hfz56_1 := blk_frozen BK356.out 1; have hfz56_2 := blk_frozen BK356.out 2
                  have p361 : 0 ≤ (a2_1 : Int) := of_decide_eq_true pa
                  have q361 : a2_1 < (l0.length : Int) := of_decide_eq_true pa
                  obtain ⟨ad361, A361_0, c361_0, e361, hx361_0, hx361_1, hx361_2, hx361_3, hl361_0, hi361_0⟩ := at_T33 HR0.out a2_1 p361 q361
                  cases e361
                  replace hx361_0 := pc HB.out hx361_0; replace hx361_1 := pc HB.out hx361_1; replace hx361_2 := pc HB.out hx361_2; replace hx361_3 := pc HB.out hx361_3; have HR361_0 := Aside0.mk hi361_0; have HC361_0 := Aside0.mk hl361_0; clear hi361_0 hl361_0; replace p361 := eq_true p361; replace q361 := eq_true q361; go_wp2; go_ret; exact ⟨pe, bl⟩
                 ·rw [if_neg c54] at H; have c54b0 : decide (0 ≤ ((rd_T33 l0 a2_1).f2)) = false := decide_eq_false c54; clear c54; obtain rfl := Option.some.inj H; have hnb57 := NB356_355.out; have hnc57 := NB355_356.out; obtain ⟨hcz58_0, hcz58_1, hcz58_2⟩ := bd3 BK356.out; have hfz58_0 := blk_frozen BK356.out 0; have hfz58_1 := blk_frozen BK356.out 1; have hfz58_2 := blk_frozen BK356.out 2
                  have p361 : 0 ≤ (a2_1 : Int) := of_decide_eq_true pa
                  have q361 : a2_1 < (l0.length : Int) := of_decide_eq_true pa
                  obtain ⟨ad361, A361_0, c361_0, e361, hx361_0, hx361_1, hx361_2, hx361_3, hl361_0, hi361_0⟩ := at_T33 HR0.out a2_1 p361 q361
                  cases e361
                  replace hx361_0 := pc HB.out hx361_0; replace hx361_1 := pc HB.out hx361_1; replace hx361_2 := pc HB.out hx361_2; replace hx361_3 := pc HB.out hx361_3; have HR361_0 := Aside0.mk hi361_0; have HC361_0 := Aside0.mk hl361_0; clear hi361_0 hl361_0; replace p361 := eq_true p361; replace q361 := eq_true q361; go_wp2; go_ret; exact ⟨pe, bl⟩
                ·rw [if_neg c53] at H; have c53b0 : (((rd_T33 l0 a2_1).f2) == a2_2) = false := beq_eq_false_iff_ne.mpr c53; have c53b1 : (((rd_T33 l0 a2_1).f2) != a2_2) = true := bne_iff_ne.mpr c53; obtain rfl := Option.some.inj H; have hnb59 := NB356_355.out; have hnc59 := NB355_356.out; obtain ⟨hcz60_0, hcz60_1, hcz60_2⟩ := bd3 BK356.out; have hfz60_0 := blk_frozen BK356.out 0; have hfz60_1 := blk_frozen BK356.out 1; have hfz60_2 := blk_frozen BK356.out 2
                 have p361 : 0 ≤ (a2_1 : Int) := of_decide_eq_true pa
                 have q361 : a2_1 < (l0.length : Int) := of_decide_eq_true pa
                 obtain ⟨ad361, A361_0, c361_0, e361, hx361_0, hx361_1, hx361_2, hx361_3, hl361_0, hi361_0⟩ := at_T33 HR0.out a2_1 p361 q361
                 cases e361
                 replace hx361_0 := pc HB.out hx361_0; replace hx361_1 := pc HB.out hx361_1; replace hx361_2 := pc HB.out hx361_2; replace hx361_3 := pc HB.out hx361_3; have HR361_0 := Aside0.mk hi361_0; have HC361_0 := Aside0.mk hl361_0; clear hi361_0 hl361_0; replace p361 := eq_true p361; replace q361 := eq_true q361; go_wp2; go_ret; exact ⟨pe, bl⟩
               ·rw [if_neg c52] at H; exact absurd H (by simp)
              ·rw [if_neg c51] at H; exact absurd H (by simp)
           ·rw [if_neg c44] at H; have c44b0 : (a2_0 == 19) = false := beq_eq_false_iff_ne.mpr c44; have c44b1 : (a2_0 != 19) = true := bne_iff_ne.mpr c44
            by_cases c61 : a2_0 = 20
            ·rw [if_pos c61] at H; have c61b0 : (a2_0 == 20) = true := beq_iff_eq.mpr c61; have c61b1 : (a2_0 != 20) = false := bne_eq_false_iff_eq.mpr c61; clear c61
             by_cases c62 : a1_3 = true
             ·subst c62; rw [if_pos rfl] at H; obtain rfl := Option.some.inj H; have hnb63 := NB355_356.out; have hnc63 := NB356_355.out; obtain ⟨hcz64_0, hcz64_1, hcz64_2, hcz64_3, hfz64_0, hfz64_1, hfz64_2, hfz64_3⟩ := bc4 BK355.out; obtain ⟨hcz65_0, hcz65_1, hcz65_2, hfz65_0, hfz65_1, hfz65_2⟩ := bc3 BK356.out; go_wp2; go_ret; exact ⟨pe, bl⟩
             ·replace c62 := Bool.eq_false_iff.mpr c62; subst c62; rw [if_neg (show ¬ (false = true) by decide)] at H; obtain rfl := Option.some.inj H; have hnb66 := NB355_356.out; have hnc66 := NB356_355.out; obtain ⟨hcz67_0, hcz67_1, hcz67_2, hcz67_3, hfz67_0, hfz67_1, hfz67_2, hfz67_3⟩ := bc4 BK355.out; obtain ⟨hcz68_0, hcz68_1, hcz68_2, hfz68_0, hfz68_1, hfz68_2⟩ := bc3 BK356.out; go_wp2; go_ret; exact ⟨pe, bl⟩
            ·rw [if_neg c61] at H; have c61b0 : (a2_0 == 20) = false := beq_eq_false_iff_ne.mpr c61; have c61b1 : (a2_0 != 20) = true := bne_iff_ne.mpr c61
             by_cases c69 : a2_0 = 24
             ·rw [if_pos c69] at H; have c69b0 : (a2_0 == 24) = true := beq_iff_eq.mpr c69; have c69b1 : (a2_0 != 24) = false := bne_eq_false_iff_eq.mpr c69; clear c69
              by_cases c70 : a2_1 ≥ 0
              ·rw [if_pos c70] at H; have c70b0 : decide (0 ≤ a2_1) = true := decide_eq_true c70; clear c70
               by_cases c71 : a2_2 ≥ 1
               ·rw [if_pos c71] at H; have c71b0 : decide (1 ≤ a2_2) = true := decide_eq_true c71; clear c71; obtain rfl := Option.some.inj H; have hnb72 := NB356_355.out; have hnc72 := NB355_356.out; obtain ⟨hcz73_0, hcz73_1, hcz73_2, hfz73_0, hfz73_1, hfz73_2⟩ := bc3 BK356.out; go_wp2; go_ret; exact ⟨pe, bl⟩
               ·rw [if_neg c71] at H; have c71b0 : decide (1 ≤ a2_2) = false := decide_eq_false c71; clear c71; obtain rfl := Option.some.inj H; have hnb74 := NB356_355.out; have hnc74 := NB355_356.out; obtain ⟨hcz75_0, hcz75_1, hcz75_2, hfz75_0, hfz75_1, hfz75_2⟩ := bc3 BK356.out; go_wp2; go_ret; exact ⟨pe, bl⟩
              ·rw [if_neg c70] at H; have c70b0 : decide (0 ≤ a2_1) = false := decide_eq_false c70; clear c70; obtain rfl := Option.some.inj H; have hnb76 := NB356_355.out; have hnc76 := NB355_356.out; obtain ⟨hcz77_0, hcz77_1, hcz77_2, hfz77_0, hfz77_1, hfz77_2⟩ := bc3 BK356.out; go_wp2; go_ret; exact ⟨pe, bl⟩
             ·rw [if_neg c69] at H; have c69b0 : (a2_0 == 24) = false := beq_eq_false_iff_ne.mpr c69; have c69b1 : (a2_0 != 24) = true := bne_iff_ne.mpr c69; obtain rfl := Option.some.inj H; go_wp2; go_ret; exact ⟨pe, bl⟩
 ·rw [if_neg c5] at H; have c5b0 : (t358 == 0) = false := beq_eq_false_iff_ne.mpr c5; have c5b1 : (t358 != 0) = true := bne_iff_ne.mpr c5; obtain rfl := Option.some.inj H; go_enter Tryd.func41, Tryd.ntmps41
  go_wp2_with (first | ((with_reducible refine gate_dst (N := 4) rfl ?_); (try (refine gate_guard (by rfl) ?_; dsimp only)); refine box_event ?hg (N := 4) ?hd (cs := #[.slice A1_0 l1_0.length c1_0, .int .i64 a1_1, .int .i64 a1_2, .bool a1_3]) (t := 33) ?hr ?_; (case hd => rfl); (case hg => rfl); (case hr => first | (go_simp; done) | (go_simp; rfl)); intro gb355 hg w78 hbox hb; have n0_ := Aside0.mk (below_step bl hb); have n1_ := Aside0.mk (hbox); have n2_ := Aside0.mk ((by rw [hg]; exact (below_size bl) : w.heap.size ≤ gb355)); have n3_ := Aside0.mk ((by rw [hg]; exact (below_size bl) : w.heap.size ≤ gb355)); clear HB; have HB := n0_; have BK355 := n1_; have GW355 := n2_; have GE355 := n3_; clear n0_ n1_ n2_ n3_; clear hb hbox hg) | ((with_reducible refine gate_dst (N := 5) rfl ?_); (try (refine gate_guard (by rfl) ?_; dsimp only)); refine box_event ?hg (N := 5) ?hd (cs := #[.int .i64 a2_0, .int .i64 a2_1, .int .i64 a2_2]) (t := 23) ?hr ?_; (case hd => rfl); (case hg => rfl); (case hr => first | (go_simp; done) | (go_simp; rfl)); intro gb356 hg w79 hbox hb; have n0_ := Aside0.mk (blk_below (g := gb355) (o := .cells #[.slice A1_0 l1_0.length c1_0, .int .i64 a1_1, .int .i64 a1_2, .bool a1_3] 33 (0, 0)) bk hb); have n1_ := Aside0.mk (below_step bl hb); have n2_ := Aside0.mk (hbox); have n3_ := Aside0.mk ((by rw [hg]; exact (below_size bl) : w.heap.size ≤ gb356)); have n4_ := Aside0.mk ((by rw [hg]; exact (below_size bl) : w.heap.size ≤ gb356)); have n5_ := Aside0.mk ((by rw [hg]; exact Nat.ne_of_lt (blk_lt (g := gb355) (o := .cells #[.slice A1_0 l1_0.length c1_0, .int .i64 a1_1, .int .i64 a1_2, .bool a1_3] 33 (0, 0)) bk) : gb355 ≠ gb356)); have n6_ := Aside0.mk ((by rw [hg]; exact Nat.ne_of_gt (blk_lt (g := gb355) (o := .cells #[.slice A1_0 l1_0.length c1_0, .int .i64 a1_1, .int .i64 a1_2, .bool a1_3] 33 (0, 0)) bk) : gb356 ≠ gb355)); clear BK355 HB; have BK355 := n0_; have HB := n1_; have BK356 := n2_; have GW356 := n3_; have GE356 := n4_; have NB355_356 := n5_; have NB356_355 := n6_; clear n0_ n1_ n2_ n3_ n4_ n5_ n6_; clear hb hbox hg; have hnb80 := NB356_355.out; have hnc80 := NB355_356.out; obtain ⟨hcz81_0, hcz81_1, hcz81_2⟩ := bd3 BK356.out; have hfz81_0 := blk_frozen BK356.out 0; have hfz81_1 := blk_frozen BK356.out 1; have hfz81_2 := blk_frozen BK356.out 2) | ((with_reducible refine gate_callee (f := 12) rfl ?_); refine goesL_ (some 13) rfl rfl Tryd.func12 (by kernel_rfl) rfl #[.agg #[.int .i64 a2_0, .int .i64 a2_1, .int .i64 a2_2]] rfl (by (try simp only [List.map_toArray, List.map_cons, List.map_nil]); first | done | rfl | (simp only [List.length_drop, List.length_take]; rfl)) ?_; (with_reducible refine (parallaxref08_Text.calls k a2_0 a2_1 a2_2 t357 t358 _ A4.out).mono ?_); rintro e w82 ⟨rfl, hb⟩; refine ⟨_, rfl, ?_⟩; have n0_ := Aside0.mk (blk_below (g := gb355) (o := .cells #[.slice A1_0 l1_0.length c1_0, .int .i64 a1_1, .int .i64 a1_2, .bool a1_3] 33 (0, 0)) bk hb); have n1_ := Aside0.mk (blk_below (g := gb356) (o := .cells #[.int .i64 a2_0, .int .i64 a2_1, .int .i64 a2_2] 23 (0, 0)) bk hb); have n2_ := Aside0.mk (below_step bl hb); clear BK355 BK356 HB; have BK355 := n0_; have BK356 := n1_; have HB := n2_; clear n0_ n1_ n2_; (try clear hb)))
  go_ret; exact ⟨pe, bl⟩

end Go.Proofs.YtdbpdcjlbopkbaaDoor.P
