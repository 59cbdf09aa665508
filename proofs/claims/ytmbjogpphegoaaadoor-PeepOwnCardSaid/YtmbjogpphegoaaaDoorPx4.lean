-- Written by a program of this session (its own turn of the print: wip/patch_print.py), not by hand. Lean checks it.
import Derived.Test.YtmbjogpphegoaaaDoorWZip3
import Derived.Test.YtmbjogpphegoaaaDoorPx0
import Derived.Test.YtmbjogpphegoaaaDoorPx3
namespace Go.Proofs.YtmbjogpphegoaaaDoor.P
open Go.RowKit Go.Proofs.YtmbjogpphegoaaaDoorW.PrintWords Go.Proofs.YtmbjogpphegoaaaDoorW.PrintLast Go.Proofs.YtmbjogpphegoaaaDoorW.PrintMore
attribute [local go_sem] max2_int min2_int max_two min_two max_three min_three max_four min_four
set_option linter.unusedVariables false
set_option linter.unusedSimpArgs false

/-! ### code_checker_may: function 79 -/
mutual
def code_checker_may.j0 : Nat → Int → Bool → List (S35) → List (S40) → Int → Int → Bool → Int → Int → Int → Option (Bool)
 | 0, _, _, _, _, _, _, _, _, _, _ => none
 | k + 1, x15, x16, x117000, x117001, x117002, x117003, x117004, x118000, x118001, x118002 => if x16 = true then ((code_checker_within.f x117000 x118001 1 x117001 x117002 x117003 x117004).bind fun t120 => (some t120)) else (if x15 = 4 then (code_checker_may.j1 k x15 (x15 == 4) x117000 x117001 x117002 x117003 x117004 x118000 x118001 x118002) else (if x15 = 5 then (code_checker_may.j1 k x15 (x15 == 5) x117000 x117001 x117002 x117003 x117004 x118000 x118001 x118002) else (code_checker_may.j1 k x15 (x15 == 6) x117000 x117001 x117002 x117003 x117004 x118000 x118001 x118002)))
def code_checker_may.j1 : Nat → Int → Bool → List (S35) → List (S40) → Int → Int → Bool → Int → Int → Int → Option (Bool)
 | 0, _, _, _, _, _, _, _, _, _, _ => none
 | k + 1, x15, x23, x117000, x117001, x117002, x117003, x117004, x118000, x118001, x118002 => if x23 = true then (if x118002 ≤ 64 then ((code_checker_within.f x117000 x118001 x118002 x117001 x117002 x117003 x117004).bind fun t121 => (some t121)) else (some false)) else (if x15 = 17 then (code_checker_may.j2 k x15 (x15 == 17) x117000 x117001 x117002 x117003 x117004 x118000 x118001 x118002) else (code_checker_may.j2 k x15 (x15 == 18) x117000 x117001 x117002 x117003 x117004 x118000 x118001 x118002))
def code_checker_may.j2 : Nat → Int → Bool → List (S35) → List (S40) → Int → Int → Bool → Int → Int → Int → Option (Bool)
 | 0, _, _, _, _, _, _, _, _, _, _ => none
 | k + 1, x15, x38, x117000, x117001, x117002, x117003, x117004, x118000, x118001, x118002 => if x38 = true then (if x118001 ≥ 0 then (some (decide (x118001 < (x117001.length : Int)))) else (some false)) else (if x15 = 19 then (if x118001 ≥ 0 then (if x118001 < (x117000.length : Int) then (if x118002 ≥ 0 then (if x118002 ≤ 8 then (if 0 ≤ x118001 then (some (x118002 == ((rd_T35 x117000 x118001).f2))) else (none)) else (some false)) else (some false)) else (some false)) else (some false)) else (if x15 = 20 then (if x118001 = 0 then (if x117004 = true then (if x118001 = 1 then (some x117004) else (some false)) else (some true)) else (if x118001 = 1 then (some x117004) else (some false))) else (if x15 = 24 then (if x118001 ≥ 0 then (if x118002 ≥ 1 then (some (decide (x118002 ≤ 3))) else (some false)) else (some false)) else (some true))))
end
def code_checker_may.f (k : Nat) (l0 : List (S35)) (a1_0 : Int) (a1_1 : Int) (a1_2 : Int) (l2_0 : List (S40)) (a2_1 : Int) (a2_2 : Int) (a2_3 : Bool) : Option (Bool) := (code_Text.f k a1_0 a1_1 a1_2).bind fun bt118 => (if bt118.2 = 0 then (if a1_0 = 2 then (code_checker_may.j0 k a1_0 (a1_0 == 2) l0 l2_0 a2_1 a2_2 a2_3 a1_0 a1_1 a1_2) else (code_checker_may.j0 k a1_0 (a1_0 == 3) l0 l2_0 a2_1 a2_2 a2_3 a1_0 a1_1 a1_2)) else (some false))
theorem code_checker_may.mono_l : ∀ k, (∀ y0 y1 y2 y3 y4 y5 y6 y7 y8 y9, LeO (code_checker_may.j0 k y0 y1 y2 y3 y4 y5 y6 y7 y8 y9) (code_checker_may.j0 (k + 1) y0 y1 y2 y3 y4 y5 y6 y7 y8 y9)) ∧ (∀ y0 y1 y2 y3 y4 y5 y6 y7 y8 y9, LeO (code_checker_may.j1 k y0 y1 y2 y3 y4 y5 y6 y7 y8 y9) (code_checker_may.j1 (k + 1) y0 y1 y2 y3 y4 y5 y6 y7 y8 y9)) ∧ (∀ y0 y1 y2 y3 y4 y5 y6 y7 y8 y9, LeO (code_checker_may.j2 k y0 y1 y2 y3 y4 y5 y6 y7 y8 y9) (code_checker_may.j2 (k + 1) y0 y1 y2 y3 y4 y5 y6 y7 y8 y9))
 | 0 => ⟨fun _ _ _ _ _ _ _ _ _ _ r h => by simp [code_checker_may.j0] at h, fun _ _ _ _ _ _ _ _ _ _ r h => by simp [code_checker_may.j1] at h, fun _ _ _ _ _ _ _ _ _ _ r h => by simp [code_checker_may.j2] at h⟩
 | k + 1 => by
  obtain ⟨ih0, ih1, ih2⟩ := code_checker_may.mono_l k
  refine ⟨?_, ?_, ?_⟩
  ·intro y0 y1 y2 y3 y4 y5 y6 y7 y8 y9
   unfold code_checker_may.j0
   repeat' (with_reducible first | apply ih0 | apply ih1 | apply ih2 | apply code_Text.mono | exact LeO.refl _ | exact LeO.none _ | refine LeO.ite ?_ ?_ | refine LeO.bind ?_ (fun _ => ?_))
  ·intro y0 y1 y2 y3 y4 y5 y6 y7 y8 y9
   unfold code_checker_may.j1
   repeat' (with_reducible first | apply ih0 | apply ih1 | apply ih2 | apply code_Text.mono | exact LeO.refl _ | exact LeO.none _ | refine LeO.ite ?_ ?_ | refine LeO.bind ?_ (fun _ => ?_))
  ·intro y0 y1 y2 y3 y4 y5 y6 y7 y8 y9
   unfold code_checker_may.j2
   repeat' (with_reducible first | apply ih0 | apply ih1 | apply ih2 | apply code_Text.mono | exact LeO.refl _ | exact LeO.none _ | refine LeO.ite ?_ ?_ | refine LeO.bind ?_ (fun _ => ?_))
theorem code_checker_may.mono : ∀ a0 a1 a2 a3 a4 a5 a6 a7 k, LeO (code_checker_may.f k a0 a1 a2 a3 a4 a5 a6 a7) (code_checker_may.f (k + 1) a0 a1 a2 a3 a4 a5 a6 a7) := by
 intro a0 a1 a2 a3 a4 a5 a6 a7 k
 obtain ⟨ih0, ih1, ih2⟩ := code_checker_may.mono_l k
 unfold code_checker_may.f
 repeat' (with_reducible first | apply ih0 | apply ih1 | apply ih2 | apply code_Text.mono | exact LeO.refl _ | exact LeO.none _ | refine LeO.ite ?_ ?_ | refine LeO.bind ?_ (fun _ => ?_))
set_option maxHeartbeats 8000000 in
set_option maxRecDepth 100000 in
theorem code_checker_may.calls0 (gb116 : Nat) (k : Nat) (A0 : Option Addr) (c0 : Nat) (l0 : List (S35)) (a1_0 : Int) (a1_1 : Int) (a1_2 : Int) (A2_0 : Option Addr) (c2_0 : Nat) (l2_0 : List (S40)) (a2_1 : Int) (a2_2 : Int) (a2_3 : Bool) (r : Bool) (w w7 : World) (hr0 : Kd.C k35 w A0 l0.length l0) (hc0 : l0.length ≤ c0) (hr2_0 : Kd.C k40 w A2_0 l2_0.length l2_0) (hc2_0 : l2_0.length ≤ c2_0) (hLd : Laid w) (hbox : w7.heap[gb116]? = some (.cells #[.slice A0 l0.length c0, .slice A2_0 l2_0.length c2_0, .int .i64 a2_1, .int .i64 a2_2, .bool a2_3, .slice none 0 0] 105 (0, 0))) (hw3 : w7 = w) (h : code_checker_may.f k l0 a1_0 a1_1 a1_2 l2_0 a2_1 a2_2 a2_3 = some r) :
  Calls Tryd.prog 79 #[.pointer (some ⟨gb116, 0, none⟩), .agg #[.int .i64 a1_0, .int .i64 a1_1, .int .i64 a1_2]] w7 fun e w' => e = .returned (.bool r) ∧ Below w.heap.size w w' := by
 have hu105 := Tryd.underlying105; have hu40 := Tryd.underlying40; have hu35 := Tryd.underlying35; have HR0 := Aside0.mk hr0; have HC0 := Aside0.mk hc0; clear hr0 hc0; have HR2_0 := Aside0.mk hr2_0; have HC2_0 := Aside0.mk hc2_0; clear hr2_0 hc2_0; have HLd := Aside0.mk hLd; clear hLd; have HB := Aside0.mk (Below.refl w.heap.size w); have H : ((code_Text.f k a1_0 a1_1 a1_2).bind fun bt118 => (if bt118.2 = 0 then (if a1_0 = 2 then (code_checker_may.j0 k a1_0 (a1_0 == 2) l0 l2_0 a2_1 a2_2 a2_3 a1_0 a1_1 a1_2) else (code_checker_may.j0 k a1_0 (a1_0 == 3) l0 l2_0 a2_1 a2_2 a2_3 a1_0 a1_1 a1_2)) else (some false))) = some r := h; clear h; replace H := ob H; obtain ⟨⟨t118, t119⟩, A4, H⟩ := H
 by_cases c5 : t119 = 0
 ·rw [if_pos c5] at H; obtain ⟨c5b0, c5b1⟩ := eqs c5; clear c5; have HC6 := Aside0.mk H; clear H; have BK116 := Aside0.mk hbox; have n0_ := Aside0.mk (show Below w.heap.size w w7 from by subst hw3; exact Below.refl _ _); clear hw3 HB; have HB := n0_; clear n0_ hbox; go_enter Tryd.func79, Tryd.ntmps79
  go_upto_if 16 with (first | fail | ((with_reducible refine gate_dst (N := 3) rfl ?_); (try (refine gate_guard (by rfl) ?_; dsimp only)); refine bx 3 #[.int .i64 a1_0, .int .i64 a1_1, .int .i64 a1_2] 40 ?_; intro gb117 hg w8 hbox hb; have n_ := an7 (bu BK116.out hb) (below_step bl hb) (hbox) (bg hg) (bg hg) ((by rw [hg]; exact Nat.ne_of_lt (blk_lt (g := gb116) (o := .cells #[.slice A0 l0.length c0, .slice A2_0 l2_0.length c2_0, .int .i64 a2_1, .int .i64 a2_2, .bool a2_3, .slice none 0 0] 105 (0, 0)) bk) : gb116 ≠ gb117)) ((by rw [hg]; exact Nat.ne_of_gt (blk_lt (g := gb116) (o := .cells #[.slice A0 l0.length c0, .slice A2_0 l2_0.length c2_0, .int .i64 a2_1, .int .i64 a2_2, .bool a2_3, .slice none 0 0] 105 (0, 0)) bk) : gb117 ≠ gb116)); clear BK116 HB; obtain ⟨BK116, HB, BK117, GW117, GE117, NB116_117, NB117_116⟩ := n_; clear hb hbox hg; have hnb9 := NB117_116.out; have hnc9 := NB116_117.out; obtain ⟨hcz10_0, hcz10_1, hcz10_2⟩ := bd3 BK117.out; have hfz10_0 := blk_frozen BK117.out 0; have hfz10_1 := blk_frozen BK117.out 1; have hfz10_2 := blk_frozen BK117.out 2) | (go_at_call 96; (with_reducible refine (code_Text.calls k a1_0 a1_1 a1_2 t118 t119 _ ?side1 A4.out).mono ?_); (case side1 => exact Laid.below HLd.out bl); rintro e w11 ⟨rfl, hb⟩; have n_ := an3 (bu BK116.out hb) (bu BK117.out hb) (below_step bl hb); clear BK116 BK117 HB; obtain ⟨BK116, BK117, HB⟩ := n_; (try clear hb); (try clear hb2); (try clear hk); (try clear hi); obtain ⟨hcz12_0, hcz12_1, hcz12_2⟩ := bd3 BK117.out; have hfz12_0 := blk_frozen BK117.out 0; have hfz12_1 := blk_frozen BK117.out 1; have hfz12_2 := blk_frozen BK117.out 2))
  repeat (go_quiet (first | fail | ((with_reducible refine gate_dst (N := 3) rfl ?_); (try (refine gate_guard (by rfl) ?_; dsimp only)); refine bx 3 #[.int .i64 a1_0, .int .i64 a1_1, .int .i64 a1_2] 40 ?_; intro gb117 hg w8 hbox hb; have n_ := an7 (bu BK116.out hb) (below_step bl hb) (hbox) (bg hg) (bg hg) ((by rw [hg]; exact Nat.ne_of_lt (blk_lt (g := gb116) (o := .cells #[.slice A0 l0.length c0, .slice A2_0 l2_0.length c2_0, .int .i64 a2_1, .int .i64 a2_2, .bool a2_3, .slice none 0 0] 105 (0, 0)) bk) : gb116 ≠ gb117)) ((by rw [hg]; exact Nat.ne_of_gt (blk_lt (g := gb116) (o := .cells #[.slice A0 l0.length c0, .slice A2_0 l2_0.length c2_0, .int .i64 a2_1, .int .i64 a2_2, .bool a2_3, .slice none 0 0] 105 (0, 0)) bk) : gb117 ≠ gb116)); clear BK116 HB; obtain ⟨BK116, HB, BK117, GW117, GE117, NB116_117, NB117_116⟩ := n_; clear hb hbox hg; have hnb9 := NB117_116.out; have hnc9 := NB116_117.out; obtain ⟨hcz10_0, hcz10_1, hcz10_2⟩ := bd3 BK117.out; have hfz10_0 := blk_frozen BK117.out 0; have hfz10_1 := blk_frozen BK117.out 1; have hfz10_2 := blk_frozen BK117.out 2) | (go_at_call 96; (with_reducible refine (code_Text.calls k a1_0 a1_1 a1_2 t118 t119 _ ?side1 A4.out).mono ?_); (case side1 => exact Laid.below HLd.out bl); rintro e w11 ⟨rfl, hb⟩; have n_ := an3 (bu BK116.out hb) (bu BK117.out hb) (below_step bl hb); clear BK116 BK117 HB; obtain ⟨BK116, BK117, HB⟩ := n_; (try clear hb); (try clear hb2); (try clear hk); (try clear hi); obtain ⟨hcz12_0, hcz12_1, hcz12_2⟩ := bd3 BK117.out; have hfz12_0 := blk_frozen BK117.out 0; have hfz12_1 := blk_frozen BK117.out 1; have hfz12_2 := blk_frozen BK117.out 2)); go_upto_if 16 with (first | fail | ((with_reducible refine gate_dst (N := 3) rfl ?_); (try (refine gate_guard (by rfl) ?_; dsimp only)); refine bx 3 #[.int .i64 a1_0, .int .i64 a1_1, .int .i64 a1_2] 40 ?_; intro gb117 hg w8 hbox hb; have n_ := an7 (bu BK116.out hb) (below_step bl hb) (hbox) (bg hg) (bg hg) ((by rw [hg]; exact Nat.ne_of_lt (blk_lt (g := gb116) (o := .cells #[.slice A0 l0.length c0, .slice A2_0 l2_0.length c2_0, .int .i64 a2_1, .int .i64 a2_2, .bool a2_3, .slice none 0 0] 105 (0, 0)) bk) : gb116 ≠ gb117)) ((by rw [hg]; exact Nat.ne_of_gt (blk_lt (g := gb116) (o := .cells #[.slice A0 l0.length c0, .slice A2_0 l2_0.length c2_0, .int .i64 a2_1, .int .i64 a2_2, .bool a2_3, .slice none 0 0] 105 (0, 0)) bk) : gb117 ≠ gb116)); clear BK116 HB; obtain ⟨BK116, HB, BK117, GW117, GE117, NB116_117, NB117_116⟩ := n_; clear hb hbox hg; have hnb9 := NB117_116.out; have hnc9 := NB116_117.out; obtain ⟨hcz10_0, hcz10_1, hcz10_2⟩ := bd3 BK117.out; have hfz10_0 := blk_frozen BK117.out 0; have hfz10_1 := blk_frozen BK117.out 1; have hfz10_2 := blk_frozen BK117.out 2) | (go_at_call 96; (with_reducible refine (code_Text.calls k a1_0 a1_1 a1_2 t118 t119 _ ?side1 A4.out).mono ?_); (case side1 => exact Laid.below HLd.out bl); rintro e w11 ⟨rfl, hb⟩; have n_ := an3 (bu BK116.out hb) (bu BK117.out hb) (below_step bl hb); clear BK116 BK117 HB; obtain ⟨BK116, BK117, HB⟩ := n_; (try clear hb); (try clear hb2); (try clear hk); (try clear hi); obtain ⟨hcz12_0, hcz12_1, hcz12_2⟩ := bd3 BK117.out; have hfz12_0 := blk_frozen BK117.out 0; have hfz12_1 := blk_frozen BK117.out 1; have hfz12_2 := blk_frozen BK117.out 2)))
  (try simp only [Act.put, List.setIfInBounds_toArray, List.set_cons_zero, List.set_cons_succ])
  go_cut [16] (fun v16 wc => ∃ (kq : Nat) (x16_5 : Bool), v16 = .bool x16_5 ∧ Aside0 (code_checker_may.j0 kq a1_0 x16_5 l0 l2_0 a2_1 a2_2 a2_3 a1_0 a1_1 a1_2 = some r) ∧ Aside0 (kq ≤ k) ∧ Aside0 (wc.heap[gb116]? = some (.cells #[(.slice A0 l0.length c0), (.slice A2_0 l2_0.length c2_0), .int .i64 a2_1, .int .i64 a2_2, .bool a2_3, (.slice none 0 0)] 105 (0, 0))) ∧ Aside0 (wc.heap[gb117]? = some (.cells #[.int .i64 a1_0, .int .i64 a1_1, .int .i64 a1_2] 40 (0, 0))) ∧ Aside0 (Below w.heap.size w wc))
  case first =>
   have H := HC6.out; clear HC6
   by_cases c13 : a1_0 = 2
   ·rw [if_pos c13] at H; obtain ⟨c13b0, c13b1⟩ := eqs c13; clear c13; (first | rw [c13b0] | (simp only [i64_w, i32_w]; rw [c13b0]) | skip); have H' := Aside0.mk H; clear H; go_wp2
    repeat (go_quiet (fail); try go_wp2)
    go_meet
    case rel => exact ⟨_, ((a1_0 == 2)), pr, H', ⟨by first | omega | exact Nat.le_refl _⟩, ⟨bk⟩, ⟨bk⟩, ⟨bl⟩⟩
   ·rw [if_neg c13] at H; obtain ⟨c13b0, c13b1⟩ := eqf c13; (first | rw [c13b0] | (simp only [i64_w, i32_w]; rw [c13b0]) | skip); have H' := Aside0.mk H; clear H; go_wp2
    repeat (go_quiet (fail); try go_wp2)
    go_meet
    case rel => exact ⟨_, ((a1_0 == 3)), pr, H', ⟨by first | omega | exact Nat.le_refl _⟩, ⟨bk⟩, ⟨bk⟩, ⟨bl⟩⟩
  case rest =>
   clear HC6; (try clear c1); (try clear c2); (try clear p2); (try clear c5); (try clear c5b0); (try clear c5b1); (try clear c7); (try clear c9); (try clear c13); (try clear c13b0); (try clear c13b1); (try clear hcz10_0); (try clear hcz10_1); (try clear hcz10_2); (try clear hcz12_0); (try clear hcz12_1); (try clear hcz12_2); (try clear hfz10_0); (try clear hfz10_1); (try clear hfz10_2); (try clear hfz12_0); (try clear hfz12_1); (try clear hfz12_2); obtain ⟨kq, x16_5, rfl, HA, HJ5, BK116, BK117, HB⟩ := hcut
   cases kq with
   | zero => exact absurd HA.out (by simp [code_checker_may.j0])
   | succ kj5 =>
    have H := HA.out; clear HA; simp only [code_checker_may.j0] at H
    by_cases c14 : x16_5 = true
    ·subst c14; rw [if_pos rfl] at H; replace H := ob H; obtain ⟨t120, A15, H⟩ := H; obtain rfl := Option.some.inj H; have hnb16 := NB116_117.out; have hnc16 := NB117_116.out; obtain ⟨hcz17_0, hcz17_1, hcz17_2, hcz17_3, hcz17_4, hcz17_5, hfz17_0, hfz17_1, hfz17_2, hfz17_3, hfz17_4, hfz17_5⟩ := bc6 BK116.out; obtain ⟨hcz18_0, hcz18_1, hcz18_2, hfz18_0, hfz18_1, hfz18_2⟩ := bc3 BK117.out
     go_wp2_with (first | (go_at_call 97; (with_reducible refine (code_checker_within.calls gb116 A0 c0 l0 a1_1 1 A2_0 c2_0 l2_0 a2_1 a2_2 a2_3 t120 _ ?side1 ?side2 ?side3 ?side4 ?sideB A15.out).mono ?_); (case side1 => exact cb HR0.out); (case side2 => exact HC0.out); (case side3 => exact cb HR2_0.out); (case side4 => exact HC2_0.out); (case sideB => exact bk); rintro e w19 ⟨rfl, hb⟩; have n_ := an3 (bu BK116.out hb) (bu BK117.out hb) (below_step bl hb); clear BK116 BK117 HB; obtain ⟨BK116, BK117, HB⟩ := n_; (try clear hb); (try clear hb2); (try clear hk); (try clear hi)))
     repeat (go_quiet (fail); try go_wp2_with (first | (go_at_call 97; (with_reducible refine (code_checker_within.calls gb116 A0 c0 l0 a1_1 1 A2_0 c2_0 l2_0 a2_1 a2_2 a2_3 t120 _ ?side1 ?side2 ?side3 ?side4 ?sideB A15.out).mono ?_); (case side1 => exact cb HR0.out); (case side2 => exact HC0.out); (case side3 => exact cb HR2_0.out); (case side4 => exact HC2_0.out); (case sideB => exact bk); rintro e w19 ⟨rfl, hb⟩; have n_ := an3 (bu BK116.out hb) (bu BK117.out hb) (below_step bl hb); clear BK116 BK117 HB; obtain ⟨BK116, BK117, HB⟩ := n_; (try clear hb); (try clear hb2); (try clear hk); (try clear hi))))
     go_ret; exact ⟨pe, bl⟩
    ·replace c14 := Bool.eq_false_iff.mpr c14; subst c14; rw [if_neg (show ¬ (false = true) by decide)] at H; have HC20 := Aside0.mk H; clear H
     go_upto_if 23 with (fail)
     repeat (go_quiet (fail); go_upto_if 23 with (fail))
     go_cut [23] (fun v23 wc => ∃ (kq : Nat) (x23_19 : Bool), v23 = .bool x23_19 ∧ Aside0 (code_checker_may.j1 kq a1_0 x23_19 l0 l2_0 a2_1 a2_2 a2_3 a1_0 a1_1 a1_2 = some r) ∧ Aside0 (kq ≤ kj5) ∧ Aside0 (wc.heap[gb116]? = some (.cells #[(.slice A0 l0.length c0), (.slice A2_0 l2_0.length c2_0), .int .i64 a2_1, .int .i64 a2_2, .bool a2_3, (.slice none 0 0)] 105 (0, 0))) ∧ Aside0 (wc.heap[gb117]? = some (.cells #[.int .i64 a1_0, .int .i64 a1_1, .int .i64 a1_2] 40 (0, 0))) ∧ Aside0 (Below w.heap.size w wc))
     case first =>
      have H := HC20.out; clear HC20
      by_cases c21 : a1_0 = 4
      ·rw [if_pos c21] at H; obtain ⟨c21b0, c21b1⟩ := eqs c21; clear c21; (first | rw [c21b0] | (simp only [i64_w, i32_w]; rw [c21b0]) | skip); have H' := Aside0.mk H; clear H; go_wp2
       repeat (go_quiet (fail); try go_wp2)
       go_meet
       case rel => exact ⟨_, ((a1_0 == 4)), pr, H', ⟨by have := HJ5.out; first | omega | exact Nat.le_refl _⟩, ⟨bk⟩, ⟨bk⟩, ⟨bl⟩⟩
      ·rw [if_neg c21] at H; obtain ⟨c21b0, c21b1⟩ := eqf c21; (first | rw [c21b0] | (simp only [i64_w, i32_w]; rw [c21b0]) | skip)
       by_cases c22 : a1_0 = 5
       ·rw [if_pos c22] at H; obtain ⟨c22b0, c22b1⟩ := eqs c22; clear c22; have H' := Aside0.mk H; clear H; go_wp2
        repeat (go_quiet (fail); try go_wp2)
        go_meet
        case rel => exact ⟨_, ((a1_0 == 5)), pr, H', ⟨by have := HJ5.out; first | omega | exact Nat.le_refl _⟩, ⟨bk⟩, ⟨bk⟩, ⟨bl⟩⟩
       ·rw [if_neg c22] at H; obtain ⟨c22b0, c22b1⟩ := eqf c22; have H' := Aside0.mk H; clear H; go_wp2
        repeat (go_quiet (fail); try go_wp2)
        go_meet
        case rel => exact ⟨_, ((a1_0 == 6)), pr, H', ⟨by have := HJ5.out; first | omega | exact Nat.le_refl _⟩, ⟨bk⟩, ⟨bk⟩, ⟨bl⟩⟩
     case rest =>
      clear HC20; (try clear c1); (try clear c2); (try clear p2); (try clear c5); (try clear c5b0); (try clear c5b1); (try clear c7); (try clear c9); (try clear c13); (try clear c13b0); (try clear c13b1); (try clear c14); (try clear c16); (try clear c21); (try clear c21b0); (try clear c21b1); (try clear c22); (try clear c22b0); (try clear c22b1); (try clear hcz10_0); (try clear hcz10_1); (try clear hcz10_2); (try clear hcz12_0); (try clear hcz12_1); (try clear hcz12_2); (try clear hcz17_0); (try clear hcz17_1); (try clear hcz17_2); (try clear hcz17_3); (try clear hcz17_4); (try clear hcz17_5); (try clear hcz18_0); (try clear hcz18_1); (try clear hcz18_2); (try clear hfz10_0); (try clear hfz10_1); (try clear hfz10_2); (try clear hfz12_0); (try clear hfz12_1); (try clear hfz12_2); (try clear hfz17_0); (try clear hfz17_1); (try clear hfz17_2); (try clear hfz17_3); (try clear hfz17_4); (try clear hfz17_5); (try clear hfz18_0); (try clear hfz18_1); (try clear hfz18_2); (try clear p2); obtain ⟨kq, x23_19, rfl, HA, HJ19, BK116, BK117, HB⟩ := hcut
      cases kq with
      | zero => exact absurd HA.out (by simp [code_checker_may.j1])
      | succ kj19 =>
       have H := HA.out; clear HA; simp only [code_checker_may.j1] at H
       by_cases c23 : x23_19 = true
       ·subst c23; rw [if_pos rfl] at H; have HH_ := Aside0.mk H; clear H; have hnb26 := NB117_116.out; have hnc26 := NB116_117.out; obtain ⟨hcz27_0, hcz27_1, hcz27_2, hfz27_0, hfz27_1, hfz27_2⟩ := bc3 BK117.out; have H := HH_.out; clear HH_
        by_cases c24 : a1_2 ≤ 64
        ·rw [if_pos c24] at H; have c24b0 := decide_eq_true c24; clear c24; replace H := ob H; obtain ⟨t121, A25, H⟩ := H; obtain rfl := Option.some.inj H; obtain ⟨hcz28_0, hcz28_1, hcz28_2, hcz28_3, hcz28_4, hcz28_5, hfz28_0, hfz28_1, hfz28_2, hfz28_3, hfz28_4, hfz28_5⟩ := bc6 BK116.out
         go_wp2_with (first | (go_at_call 97; (with_reducible refine (code_checker_within.calls gb116 A0 c0 l0 a1_1 a1_2 A2_0 c2_0 l2_0 a2_1 a2_2 a2_3 t121 _ ?side1 ?side2 ?side3 ?side4 ?sideB A25.out).mono ?_); (case side1 => exact cb HR0.out); (case side2 => exact HC0.out); (case side3 => exact cb HR2_0.out); (case side4 => exact HC2_0.out); (case sideB => exact bk); rintro e w29 ⟨rfl, hb⟩; have n_ := an3 (bu BK116.out hb) (bu BK117.out hb) (below_step bl hb); clear BK116 BK117 HB; obtain ⟨BK116, BK117, HB⟩ := n_; (try clear hb); (try clear hb2); (try clear hk); (try clear hi)))
         repeat (go_quiet (fail); try go_wp2_with (first | (go_at_call 97; (with_reducible refine (code_checker_within.calls gb116 A0 c0 l0 a1_1 a1_2 A2_0 c2_0 l2_0 a2_1 a2_2 a2_3 t121 _ ?side1 ?side2 ?side3 ?side4 ?sideB A25.out).mono ?_); (case side1 => exact cb HR0.out); (case side2 => exact HC0.out); (case side3 => exact cb HR2_0.out); (case side4 => exact HC2_0.out); (case sideB => exact bk); rintro e w29 ⟨rfl, hb⟩; have n_ := an3 (bu BK116.out hb) (bu BK117.out hb) (below_step bl hb); clear BK116 BK117 HB; obtain ⟨BK116, BK117, HB⟩ := n_; (try clear hb); (try clear hb2); (try clear hk); (try clear hi))))
         go_ret; exact ⟨pe, bl⟩
        ·rw [if_neg c24] at H; have c24b0 := decide_eq_false c24; clear c24; obtain rfl := Option.some.inj H; go_wp2
         repeat (go_quiet (fail); try go_wp2)
         go_ret; exact ⟨pe, bl⟩
       ·replace c23 := Bool.eq_false_iff.mpr c23; subst c23; rw [if_neg (show ¬ (false = true) by decide)] at H; have HC32 := Aside0.mk H; clear H
        go_upto_if 38 with (fail)
        repeat (go_quiet (fail); go_upto_if 38 with (fail))
        go_cut [38] (fun v38 wc => ∃ (kq : Nat) (x38_31 : Bool), v38 = .bool x38_31 ∧ Aside0 (code_checker_may.j2 kq a1_0 x38_31 l0 l2_0 a2_1 a2_2 a2_3 a1_0 a1_1 a1_2 = some r) ∧ Aside0 (kq ≤ kj19) ∧ Aside0 (wc.heap[gb116]? = some (.cells #[(.slice A0 l0.length c0), (.slice A2_0 l2_0.length c2_0), .int .i64 a2_1, .int .i64 a2_2, .bool a2_3, (.slice none 0 0)] 105 (0, 0))) ∧ Aside0 (wc.heap[gb117]? = some (.cells #[.int .i64 a1_0, .int .i64 a1_1, .int .i64 a1_2] 40 (0, 0))) ∧ Aside0 (Below w.heap.size w wc))
        case first =>
         have H := HC32.out; clear HC32
         by_cases c33 : a1_0 = 17
         ·rw [if_pos c33] at H; obtain ⟨c33b0, c33b1⟩ := eqs c33; clear c33; (first | rw [c33b0] | (simp only [i64_w, i32_w]; rw [c33b0]) | skip); have H' := Aside0.mk H; clear H; go_wp2
          repeat (go_quiet (fail); try go_wp2)
          go_meet
          case rel => exact ⟨_, ((a1_0 == 17)), pr, H', ⟨by have := HJ5.out; have := HJ19.out; first | omega | exact Nat.le_refl _⟩, ⟨bk⟩, ⟨bk⟩, ⟨bl⟩⟩
         ·rw [if_neg c33] at H; obtain ⟨c33b0, c33b1⟩ := eqf c33; (first | rw [c33b0] | (simp only [i64_w, i32_w]; rw [c33b0]) | skip); have H' := Aside0.mk H; clear H; go_wp2
          repeat (go_quiet (fail); try go_wp2)
          go_meet
          case rel => exact ⟨_, ((a1_0 == 18)), pr, H', ⟨by have := HJ5.out; have := HJ19.out; first | omega | exact Nat.le_refl _⟩, ⟨bk⟩, ⟨bk⟩, ⟨bl⟩⟩
        case rest =>
         clear HC32; (try clear c1); (try clear c2); (try clear p2); (try clear c3); (try clear c5); (try clear c5b0); (try clear c5b1); (try clear c7); (try clear c9); (try clear c13); (try clear c13b0); (try clear c13b1); (try clear c14); (try clear c16); (try clear c21); (try clear c21b0); (try clear c21b1); (try clear c22); (try clear c22b0); (try clear c22b1); (try clear c23); (try clear c24); (try clear c24b0); (try clear c26); (try clear c30); (try clear c33); (try clear c33b0); (try clear c33b1); (try clear hcz10_0); (try clear hcz10_1); (try clear hcz10_2); (try clear hcz12_0); (try clear hcz12_1); (try clear hcz12_2); (try clear hcz17_0); (try clear hcz17_1); (try clear hcz17_2); (try clear hcz17_3); (try clear hcz17_4); (try clear hcz17_5); (try clear hcz18_0); (try clear hcz18_1); (try clear hcz18_2); (try clear hcz27_0); (try clear hcz27_1); (try clear hcz27_2); (try clear hcz28_0); (try clear hcz28_1); (try clear hcz28_2); (try clear hcz28_3); (try clear hcz28_4); (try clear hcz28_5); (try clear hcz31_0); (try clear hcz31_1); (try clear hcz31_2); (try clear hfz10_0); (try clear hfz10_1); (try clear hfz10_2); (try clear hfz12_0); (try clear hfz12_1); (try clear hfz12_2); (try clear hfz17_0); (try clear hfz17_1); (try clear hfz17_2); (try clear hfz17_3); (try clear hfz17_4); (try clear hfz17_5); (try clear hfz18_0); (try clear hfz18_1); (try clear hfz18_2); (try clear hfz27_0); (try clear hfz27_1); (try clear hfz27_2); (try clear hfz28_0); (try clear hfz28_1); (try clear hfz28_2); (try clear hfz28_3); (try clear hfz28_4); (try clear hfz28_5); (try clear hfz31_0); (try clear hfz31_1); (try clear hfz31_2); (try clear p2); obtain ⟨kq, x38_31, rfl, HA, HJ31, BK116, BK117, HB⟩ := hcut
         cases kq with
         | zero => exact absurd HA.out (by simp [code_checker_may.j2])
         | succ kj31 =>
          have H := HA.out; clear HA; simp only [code_checker_may.j2] at H
          by_cases c34 : x38_31 = true
          ·subst c34; rw [if_pos rfl] at H; have HH_ := Aside0.mk H; clear H; have hnb36 := NB117_116.out; have hnc36 := NB116_117.out; obtain ⟨hcz37_0, hcz37_1, hcz37_2, hfz37_0, hfz37_1, hfz37_2⟩ := bc3 BK117.out; have H := HH_.out; clear HH_
           by_cases c35 : a1_1 ≥ 0
           ·rw [if_pos c35] at H; have c35b0 : decide (0 ≤ a1_1) = true := decide_eq_true c35; clear c35; obtain rfl := Option.some.inj H; obtain ⟨hcz38_0, hcz38_1, hcz38_2, hcz38_3, hcz38_4, hcz38_5, hfz38_0, hfz38_1, hfz38_2, hfz38_3, hfz38_4, hfz38_5⟩ := bc6 BK116.out; go_wp2
            repeat (go_quiet (fail); try go_wp2)
            go_ret; exact ⟨pe, bl⟩
           ·rw [if_neg c35] at H; have c35b0 : decide (0 ≤ a1_1) = false := decide_eq_false c35; clear c35; obtain rfl := Option.some.inj H; go_wp2
            repeat (go_quiet (fail); try go_wp2)
            go_ret; exact ⟨pe, bl⟩
          ·replace c34 := Bool.eq_false_iff.mpr c34; subst c34; rw [if_neg (show ¬ (false = true) by decide)] at H
           by_cases c41 : a1_0 = 19
           ·rw [if_pos c41] at H; obtain ⟨c41b0, c41b1⟩ := eqs c41; clear c41; have HH_ := Aside0.mk H; clear H; have hnb47 := NB117_116.out; have hnc47 := NB116_117.out; obtain ⟨hcz48_0, hcz48_1, hcz48_2, hfz48_0, hfz48_1, hfz48_2⟩ := bc3 BK117.out; have H := HH_.out; clear HH_
            by_cases c42 : a1_1 ≥ 0
            ·rw [if_pos c42] at H; have c42b0 : decide (0 ≤ a1_1) = true := decide_eq_true c42; clear c42; have HH_ := Aside0.mk H; clear H; obtain ⟨hcz49_0, hcz49_1, hcz49_2, hcz49_3, hcz49_4, hcz49_5, hfz49_0, hfz49_1, hfz49_2, hfz49_3, hfz49_4, hfz49_5⟩ := bc6 BK116.out; have H := HH_.out; clear HH_
             by_cases c43 : a1_1 < (l0.length : Int)
             ·rw [if_pos c43] at H; have c43b0 := decide_eq_true c43; clear c43; have HH_ := Aside0.mk H; clear H; have H := HH_.out; clear HH_
              by_cases c44 : a1_2 ≥ 0
              ·rw [if_pos c44] at H; have c44b0 : decide (0 ≤ a1_2) = true := decide_eq_true c44; clear c44; have HH_ := Aside0.mk H; clear H; have H := HH_.out; clear HH_
               by_cases c45 : a1_2 ≤ 8
               ·rw [if_pos c45] at H; have c45b0 := decide_eq_true c45; clear c45
                replace H := it (c := 0 ≤ a1_1) H; obtain ⟨c46, H⟩ := H; have c46b0 := decide_eq_true c46; clear c46; obtain rfl := Option.some.inj H
                have p122 : 0 ≤ (a1_1 : Int) := of_decide_eq_true pa
                have q122 : a1_1 < (l0.length : Int) := of_decide_eq_true pa
                obtain ⟨ad122, A122_0, c122_0, e122, hx122_0, hx122_1, hx122_2, hx122_3, hl122_0, hi122_0⟩ := at_T35 HR0.out a1_1 p122 q122
                cases e122
                replace hx122_0 := pc HB.out hx122_0; replace hx122_1 := pc HB.out hx122_1; replace hx122_2 := pc HB.out hx122_2; replace hx122_3 := pc HB.out hx122_3; have HR122_0 := Aside0.mk hi122_0; have HC122_0 := Aside0.mk hl122_0; clear hi122_0 hl122_0; replace p122 := eq_true p122; replace q122 := eq_true q122; go_wp2
                repeat (go_quiet (fail); try go_wp2)
                go_ret; exact ⟨pe, bl⟩
               ·rw [if_neg c45] at H; have c45b0 := decide_eq_false c45; clear c45; obtain rfl := Option.some.inj H; go_wp2
                repeat (go_quiet (fail); try go_wp2)
                go_ret; exact ⟨pe, bl⟩
              ·rw [if_neg c44] at H; have c44b0 : decide (0 ≤ a1_2) = false := decide_eq_false c44; clear c44; obtain rfl := Option.some.inj H; go_wp2
               repeat (go_quiet (fail); try go_wp2)
               go_ret; exact ⟨pe, bl⟩
             ·rw [if_neg c43] at H; have c43b0 := decide_eq_false c43; clear c43; obtain rfl := Option.some.inj H; go_wp2
              repeat (go_quiet (fail); try go_wp2)
              go_ret; exact ⟨pe, bl⟩
            ·rw [if_neg c42] at H; have c42b0 : decide (0 ≤ a1_1) = false := decide_eq_false c42; clear c42; obtain rfl := Option.some.inj H; go_wp2
             repeat (go_quiet (fail); try go_wp2)
             go_ret; exact ⟨pe, bl⟩
           ·rw [if_neg c41] at H; obtain ⟨c41b0, c41b1⟩ := eqf c41
            by_cases c61 : a1_0 = 20
            ·rw [if_pos c61] at H; obtain ⟨c61b0, c61b1⟩ := eqs c61; clear c61; have HH_ := Aside0.mk H; clear H; have hnb65 := NB117_116.out; have hnc65 := NB116_117.out; obtain ⟨hcz66_0, hcz66_1, hcz66_2, hfz66_0, hfz66_1, hfz66_2⟩ := bc3 BK117.out; have H := HH_.out; clear HH_
             by_cases c62 : a1_1 = 0
             ·rw [if_pos c62] at H; obtain ⟨c62b0, c62b1⟩ := eqs c62; clear c62; have HH_ := Aside0.mk H; clear H; have hcz67_0 : wc.cell? ⟨gb116, 0, none⟩ = some (.slice A0 l0.length c0) := (blk_cell BK116.out 0).trans rfl; have hcz67_1 : wc.cell? ⟨gb116, 1, none⟩ = some (.slice A2_0 l2_0.length c2_0) := (blk_cell BK116.out 1).trans rfl; have hcz67_2 : wc.cell? ⟨gb116, 2, none⟩ = some (.int .i64 a2_1) := (blk_cell BK116.out 2).trans rfl; have hcz67_3 : wc.cell? ⟨gb116, 3, none⟩ = some (.int .i64 a2_2) := (blk_cell BK116.out 3).trans rfl; have H := HH_.out; clear HH_
              by_cases c63 : a2_3 = true
              ·subst c63; rw [if_pos rfl] at H; have HH_ := Aside0.mk H; clear H; have hcz67_4 : wc.cell? ⟨gb116, 4, none⟩ = some (.bool true) := (blk_cell BK116.out 4).trans rfl; have hcz67_5 : wc.cell? ⟨gb116, 5, none⟩ = some (.slice none 0 0) := (blk_cell BK116.out 5).trans rfl; have hfz67_0 := blk_frozen BK116.out 0; have hfz67_1 := blk_frozen BK116.out 1; have hfz67_2 := blk_frozen BK116.out 2; have hfz67_3 := blk_frozen BK116.out 3; have hfz67_4 := blk_frozen BK116.out 4; have hfz67_5 := blk_frozen BK116.out 5; have H := HH_.out; clear HH_
               by_cases c64 : a1_1 = 1
               ·rw [if_pos c64] at H; obtain ⟨c64b0, c64b1⟩ := eqs c64; clear c64; obtain rfl := Option.some.inj H; go_wp2
                repeat (go_quiet (fail); try go_wp2)
                go_ret; exact ⟨pe, bl⟩
               ·rw [if_neg c64] at H; obtain ⟨c64b0, c64b1⟩ := eqf c64; obtain rfl := Option.some.inj H; go_wp2
                repeat (go_quiet (fail); try go_wp2)
                go_ret; exact ⟨pe, bl⟩
              ·replace c63 := Bool.eq_false_iff.mpr c63; subst c63; rw [if_neg (show ¬ (false = true) by decide)] at H; obtain rfl := Option.some.inj H; have hcz73_4 : wc.cell? ⟨gb116, 4, none⟩ = some (.bool false) := (blk_cell BK116.out 4).trans rfl; have hcz73_5 : wc.cell? ⟨gb116, 5, none⟩ = some (.slice none 0 0) := (blk_cell BK116.out 5).trans rfl; have hfz73_0 := blk_frozen BK116.out 0; have hfz73_1 := blk_frozen BK116.out 1; have hfz73_2 := blk_frozen BK116.out 2; have hfz73_3 := blk_frozen BK116.out 3; have hfz73_4 := blk_frozen BK116.out 4; have hfz73_5 := blk_frozen BK116.out 5; go_wp2
               repeat (go_quiet (fail); try go_wp2)
               go_ret; exact ⟨pe, bl⟩
             ·rw [if_neg c62] at H; obtain ⟨c62b0, c62b1⟩ := eqf c62; have HH_ := Aside0.mk H; clear H; have H := HH_.out; clear HH_
              by_cases c74 : a1_1 = 1
              ·rw [if_pos c74] at H; obtain ⟨c74b0, c74b1⟩ := eqs c74; clear c74; obtain rfl := Option.some.inj H; obtain ⟨hcz77_0, hcz77_1, hcz77_2, hcz77_3, hcz77_4, hcz77_5, hfz77_0, hfz77_1, hfz77_2, hfz77_3, hfz77_4, hfz77_5⟩ := bc6 BK116.out; go_wp2
               repeat (go_quiet (fail); try go_wp2)
               go_ret; exact ⟨pe, bl⟩
              ·rw [if_neg c74] at H; obtain ⟨c74b0, c74b1⟩ := eqf c74; obtain rfl := Option.some.inj H; go_wp2
               repeat (go_quiet (fail); try go_wp2)
               go_ret; exact ⟨pe, bl⟩
            ·rw [if_neg c61] at H; obtain ⟨c61b0, c61b1⟩ := eqf c61
             by_cases c80 : a1_0 = 24
             ·rw [if_pos c80] at H; obtain ⟨c80b0, c80b1⟩ := eqs c80; clear c80; have HH_ := Aside0.mk H; clear H; have hnb83 := NB117_116.out; have hnc83 := NB116_117.out; obtain ⟨hcz84_0, hcz84_1, hcz84_2, hfz84_0, hfz84_1, hfz84_2⟩ := bc3 BK117.out; have H := HH_.out; clear HH_
              by_cases c81 : a1_1 ≥ 0
              ·rw [if_pos c81] at H; have c81b0 : decide (0 ≤ a1_1) = true := decide_eq_true c81; clear c81; have HH_ := Aside0.mk H; clear H; have H := HH_.out; clear HH_
               by_cases c82 : a1_2 ≥ 1
               ·rw [if_pos c82] at H; have c82b0 : decide (1 ≤ a1_2) = true := decide_eq_true c82; clear c82; obtain rfl := Option.some.inj H; go_wp2
                repeat (go_quiet (fail); try go_wp2)
                go_ret; exact ⟨pe, bl⟩
               ·rw [if_neg c82] at H; have c82b0 : decide (1 ≤ a1_2) = false := decide_eq_false c82; clear c82; obtain rfl := Option.some.inj H; go_wp2
                repeat (go_quiet (fail); try go_wp2)
                go_ret; exact ⟨pe, bl⟩
              ·rw [if_neg c81] at H; have c81b0 : decide (0 ≤ a1_1) = false := decide_eq_false c81; clear c81; obtain rfl := Option.some.inj H; go_wp2
               repeat (go_quiet (fail); try go_wp2)
               go_ret; exact ⟨pe, bl⟩
             ·rw [if_neg c80] at H; obtain ⟨c80b0, c80b1⟩ := eqf c80; obtain rfl := Option.some.inj H; go_wp2
              repeat (go_quiet (fail); try go_wp2)
              go_ret; exact ⟨pe, bl⟩
 ·rw [if_neg c5] at H; obtain ⟨c5b0, c5b1⟩ := eqf c5; obtain rfl := Option.some.inj H; have BK116 := Aside0.mk hbox; have n0_ := Aside0.mk (show Below w.heap.size w w7 from by subst hw3; exact Below.refl _ _); clear hw3 HB; have HB := n0_; clear n0_ hbox; go_enter Tryd.func79, Tryd.ntmps79
  go_wp2_with (first | fail | ((with_reducible refine gate_dst (N := 3) rfl ?_); (try (refine gate_guard (by rfl) ?_; dsimp only)); refine bx 3 #[.int .i64 a1_0, .int .i64 a1_1, .int .i64 a1_2] 40 ?_; intro gb117 hg w90 hbox hb; have n_ := an7 (bu BK116.out hb) (below_step bl hb) (hbox) (bg hg) (bg hg) ((by rw [hg]; exact Nat.ne_of_lt (blk_lt (g := gb116) (o := .cells #[.slice A0 l0.length c0, .slice A2_0 l2_0.length c2_0, .int .i64 a2_1, .int .i64 a2_2, .bool a2_3, .slice none 0 0] 105 (0, 0)) bk) : gb116 ≠ gb117)) ((by rw [hg]; exact Nat.ne_of_gt (blk_lt (g := gb116) (o := .cells #[.slice A0 l0.length c0, .slice A2_0 l2_0.length c2_0, .int .i64 a2_1, .int .i64 a2_2, .bool a2_3, .slice none 0 0] 105 (0, 0)) bk) : gb117 ≠ gb116)); clear BK116 HB; obtain ⟨BK116, HB, BK117, GW117, GE117, NB116_117, NB117_116⟩ := n_; clear hb hbox hg; have hnb91 := NB117_116.out; have hnc91 := NB116_117.out; obtain ⟨hcz92_0, hcz92_1, hcz92_2⟩ := bd3 BK117.out; have hfz92_0 := blk_frozen BK117.out 0; have hfz92_1 := blk_frozen BK117.out 1; have hfz92_2 := blk_frozen BK117.out 2) | (go_at_call 96; (with_reducible refine (code_Text.calls k a1_0 a1_1 a1_2 t118 t119 _ ?side1 A4.out).mono ?_); (case side1 => exact Laid.below HLd.out bl); rintro e w93 ⟨rfl, hb⟩; have n_ := an3 (bu BK116.out hb) (bu BK117.out hb) (below_step bl hb); clear BK116 BK117 HB; obtain ⟨BK116, BK117, HB⟩ := n_; (try clear hb); (try clear hb2); (try clear hk); (try clear hi)))
  repeat (go_quiet (fail); try go_wp2_with (first | fail | ((with_reducible refine gate_dst (N := 3) rfl ?_); (try (refine gate_guard (by rfl) ?_; dsimp only)); refine bx 3 #[.int .i64 a1_0, .int .i64 a1_1, .int .i64 a1_2] 40 ?_; intro gb117 hg w90 hbox hb; have n_ := an7 (bu BK116.out hb) (below_step bl hb) (hbox) (bg hg) (bg hg) ((by rw [hg]; exact Nat.ne_of_lt (blk_lt (g := gb116) (o := .cells #[.slice A0 l0.length c0, .slice A2_0 l2_0.length c2_0, .int .i64 a2_1, .int .i64 a2_2, .bool a2_3, .slice none 0 0] 105 (0, 0)) bk) : gb116 ≠ gb117)) ((by rw [hg]; exact Nat.ne_of_gt (blk_lt (g := gb116) (o := .cells #[.slice A0 l0.length c0, .slice A2_0 l2_0.length c2_0, .int .i64 a2_1, .int .i64 a2_2, .bool a2_3, .slice none 0 0] 105 (0, 0)) bk) : gb117 ≠ gb116)); clear BK116 HB; obtain ⟨BK116, HB, BK117, GW117, GE117, NB116_117, NB117_116⟩ := n_; clear hb hbox hg; have hnb91 := NB117_116.out; have hnc91 := NB116_117.out; obtain ⟨hcz92_0, hcz92_1, hcz92_2⟩ := bd3 BK117.out; have hfz92_0 := blk_frozen BK117.out 0; have hfz92_1 := blk_frozen BK117.out 1; have hfz92_2 := blk_frozen BK117.out 2) | (go_at_call 96; (with_reducible refine (code_Text.calls k a1_0 a1_1 a1_2 t118 t119 _ ?side1 A4.out).mono ?_); (case side1 => exact Laid.below HLd.out bl); rintro e w93 ⟨rfl, hb⟩; have n_ := an3 (bu BK116.out hb) (bu BK117.out hb) (below_step bl hb); clear BK116 BK117 HB; obtain ⟨BK116, BK117, HB⟩ := n_; (try clear hb); (try clear hb2); (try clear hk); (try clear hi))))
  go_ret; exact ⟨pe, bl⟩

theorem code_checker_may.calls (gb116 : Nat) (k : Nat) (A0 : Option Addr) (c0 : Nat) (l0 : List (S35)) (a1_0 : Int) (a1_1 : Int) (a1_2 : Int) (A2_0 : Option Addr) (c2_0 : Nat) (l2_0 : List (S40)) (a2_1 : Int) (a2_2 : Int) (a2_3 : Bool) (r : Bool) (w : World) (hr0 : Kd.C k35 w A0 l0.length l0) (hc0 : l0.length ≤ c0) (hr2_0 : Kd.C k40 w A2_0 l2_0.length l2_0) (hc2_0 : l2_0.length ≤ c2_0) (hLd : Laid w) (hbox : w.heap[gb116]? = some (.cells #[.slice A0 l0.length c0, .slice A2_0 l2_0.length c2_0, .int .i64 a2_1, .int .i64 a2_2, .bool a2_3, .slice none 0 0] 105 (0, 0))) (h : code_checker_may.f k l0 a1_0 a1_1 a1_2 l2_0 a2_1 a2_2 a2_3 = some r) :
  Calls Tryd.prog 79 #[.pointer (some ⟨gb116, 0, none⟩), .agg #[.int .i64 a1_0, .int .i64 a1_1, .int .i64 a1_2]] w fun e w' => e = .returned (.bool r) ∧ Below w.heap.size w w' := code_checker_may.calls0 gb116 k A0 c0 l0 a1_0 a1_1 a1_2 A2_0 c2_0 l2_0 a2_1 a2_2 a2_3 r w w hr0 hc0 hr2_0 hc2_0 hLd hbox rfl h

end Go.Proofs.YtmbjogpphegoaaaDoor.P
