-- Written by a program of this session (its own turn of the print: wip/patch_print.py), not by hand. Lean checks it.
import Derived.Test.YtmbjogpphegoaaaDoorWZip3
import Derived.Test.YtmbjogpphegoaaaDoorPx0
import Derived.Test.YtmbjogpphegoaaaDoorPx3
import Derived.Test.YtmbjogpphegoaaaDoorPx4
import Derived.Test.YtmbjogpphegoaaaDoorPx6
namespace Go.Proofs.YtmbjogpphegoaaaDoor.P
open Go.RowKit Go.Proofs.YtmbjogpphegoaaaDoorW.PrintWords Go.Proofs.YtmbjogpphegoaaaDoorW.PrintLast Go.Proofs.YtmbjogpphegoaaaDoorW.PrintMore
attribute [local go_sem] max2_int min2_int max_two min_two max_three min_three max_four min_four
set_option linter.unusedVariables false
set_option linter.unusedSimpArgs false

/-! ### code_checker_own: function 55 -/
mutual
def code_checker_own.j0 : Nat → Bool → List (S35) → List (S40) → Int → Int → Bool → List (S40) → Int → Int → Bool → Option (Bool × List Int)
 | 0, _, _, _, _, _, _, _, _, _, _ => none
 | k + 1, x46, x161000, x161001, x161002, x161003, x161004, x162000, x162001, x162002, x162003 => if x46 = true then (some (false, ([] : List Int))) else (code_checker_own.l0 k x162000 (x162000.length : Int) 0 x161000 x161001 x161002 x161003 x161004)
def code_checker_own.l0 : Nat → List (S40) → Int → Int → List (S35) → List (S40) → Int → Int → Bool → Option (Bool × List Int)
 | 0, _, _, _, _, _, _, _, _ => none
 | k + 1, x48, x49, x50, x161000, x161001, x161002, x161003, x161004 => if x50 < x49 then (if 0 ≤ x50 then (if x50 < (x48.length : Int) then ((code_checker_may.f k x161000 ((rd_T40 x48 x50).f0) ((rd_T40 x48 x50).f1) ((rd_T40 x48 x50).f2) x161001 x161002 x161003 x161004).bind fun t164 => (if t164 = true then (code_checker_own.l0 k x48 x49 (wrap64 (x50 + 1)) x161000 x161001 x161002 x161003 x161004) else (some (false, ([] : List Int))))) else (none)) else (none)) else ((code_checker_heights.f k x161000 x161001 x161002 x161003 x161004).bind fun bt165 => (some (bt165.1, bt165.2)))
end
def code_checker_own.f (k : Nat) (l0 : List (S35)) (l1_0 : List (S40)) (a1_1 : Int) (a1_2 : Int) (a1_3 : Bool) : Option (Bool × List Int) := if (l1_0.length : Int) < 1 then (code_checker_own.j0 k true l0 l1_0 a1_1 a1_2 a1_3 l1_0 a1_1 a1_2 a1_3) else (if (l1_0.length : Int) > 65536 then (code_checker_own.j0 k true l0 l1_0 a1_1 a1_2 a1_3 l1_0 a1_1 a1_2 a1_3) else (if a1_1 < 0 then (code_checker_own.j0 k true l0 l1_0 a1_1 a1_2 a1_3 l1_0 a1_1 a1_2 a1_3) else (if a1_1 > 65536 then (code_checker_own.j0 k true l0 l1_0 a1_1 a1_2 a1_3 l1_0 a1_1 a1_2 a1_3) else (if a1_2 < 0 then (code_checker_own.j0 k true l0 l1_0 a1_1 a1_2 a1_3 l1_0 a1_1 a1_2 a1_3) else (if a1_2 > 8 then (code_checker_own.j0 k true l0 l1_0 a1_1 a1_2 a1_3 l1_0 a1_1 a1_2 a1_3) else (code_checker_own.j0 k (decide (a1_2 > a1_1)) l0 l1_0 a1_1 a1_2 a1_3 l1_0 a1_1 a1_2 a1_3))))))
theorem code_checker_own.mono_l : ∀ k, (∀ y0 y1 y2 y3 y4 y5 y6 y7 y8 y9, LeO (code_checker_own.j0 k y0 y1 y2 y3 y4 y5 y6 y7 y8 y9) (code_checker_own.j0 (k + 1) y0 y1 y2 y3 y4 y5 y6 y7 y8 y9)) ∧ (∀ y0 y1 y2 y3 y4 y5 y6 y7, LeO (code_checker_own.l0 k y0 y1 y2 y3 y4 y5 y6 y7) (code_checker_own.l0 (k + 1) y0 y1 y2 y3 y4 y5 y6 y7))
 | 0 => ⟨fun _ _ _ _ _ _ _ _ _ _ r h => by simp [code_checker_own.j0] at h, fun _ _ _ _ _ _ _ _ r h => by simp [code_checker_own.l0] at h⟩
 | k + 1 => by
  obtain ⟨ih0, ih1⟩ := code_checker_own.mono_l k
  refine ⟨?_, ?_⟩
  ·intro y0 y1 y2 y3 y4 y5 y6 y7 y8 y9
   unfold code_checker_own.j0
   repeat' (with_reducible first | apply ih0 | apply ih1 | apply code_checker_heights.mono | apply code_checker_may.mono | exact LeO.refl _ | exact LeO.none _ | refine LeO.ite ?_ ?_ | refine LeO.bind ?_ (fun _ => ?_))
  ·intro y0 y1 y2 y3 y4 y5 y6 y7
   unfold code_checker_own.l0
   repeat' (with_reducible first | apply ih0 | apply ih1 | apply code_checker_heights.mono | apply code_checker_may.mono | exact LeO.refl _ | exact LeO.none _ | refine LeO.ite ?_ ?_ | refine LeO.bind ?_ (fun _ => ?_))
theorem code_checker_own.mono : ∀ a0 a1 a2 a3 a4 k, LeO (code_checker_own.f k a0 a1 a2 a3 a4) (code_checker_own.f (k + 1) a0 a1 a2 a3 a4) := by
 intro a0 a1 a2 a3 a4 k
 obtain ⟨ih0, ih1⟩ := code_checker_own.mono_l k
 unfold code_checker_own.f
 repeat' (with_reducible first | apply ih0 | apply ih1 | apply code_checker_heights.mono | apply code_checker_may.mono | exact LeO.refl _ | exact LeO.none _ | refine LeO.ite ?_ ?_ | refine LeO.bind ?_ (fun _ => ?_))
set_option maxHeartbeats 8000000 in
set_option maxRecDepth 100000 in
theorem code_checker_own.calls (k : Nat) (A0 : Option Addr) (c0 : Nat) (l0 : List (S35)) (A1_0 : Option Addr) (c1_0 : Nat) (l1_0 : List (S40)) (a1_1 : Int) (a1_2 : Int) (a1_3 : Bool) (r1 : Bool) (r2 : List Int) (gb160 : Nat) (w w4 : World) (hr0 : Kd.C k35 w A0 l0.length l0) (hc0 : l0.length ≤ c0) (hr1_0 : Kd.C k40 w A1_0 l1_0.length l1_0) (hc1_0 : l1_0.length ≤ c1_0) (hLd : Laid w) (hbox : w4.heap[gb160]? = some (.cells #[.slice A0 l0.length c0, .slice A1_0 l1_0.length c1_0, .int .i64 a1_1, .int .i64 a1_2, .bool a1_3, .slice none 0 0] 105 (0, 0))) (hb : Below w.heap.size w w4) (hge : w.heap.size ≤ gb160) (h : code_checker_own.f k l0 l1_0 a1_1 a1_2 a1_3 = some (r1, r2)) :
  Calls Tryd.prog 55 #[.pointer (some ⟨gb160, 0, none⟩)] w4 fun e w' => e = .returned (.bool r1) ∧ ∃ v1_ : Value, Kd.R (Kd.int .i64) 3 w' w.heap.size (fun _ => True) v1_ r2 ∧ Below w.heap.size w w' ∧ ∃ x0_ x1_ x2_ x3_ x4_ : Value, w'.heap[gb160]? = some (.cells #[x0_, x1_, x2_, x3_, x4_, v1_] 105 (0, 0)) := by
 have hu105 := Tryd.underlying105; have hu35 := Tryd.underlying35; have hu40 := Tryd.underlying40; have HR0 := Aside0.mk hr0; have HC0 := Aside0.mk hc0; clear hr0 hc0; have HR1_0 := Aside0.mk hr1_0; have HC1_0 := Aside0.mk hc1_0; clear hr1_0 hc1_0; have HLd := Aside0.mk hLd; clear hLd; have HB := Aside0.mk (Below.refl w.heap.size w); have H : (if (l1_0.length : Int) < 1 then (code_checker_own.j0 k true l0 l1_0 a1_1 a1_2 a1_3 l1_0 a1_1 a1_2 a1_3) else (if (l1_0.length : Int) > 65536 then (code_checker_own.j0 k true l0 l1_0 a1_1 a1_2 a1_3 l1_0 a1_1 a1_2 a1_3) else (if a1_1 < 0 then (code_checker_own.j0 k true l0 l1_0 a1_1 a1_2 a1_3 l1_0 a1_1 a1_2 a1_3) else (if a1_1 > 65536 then (code_checker_own.j0 k true l0 l1_0 a1_1 a1_2 a1_3 l1_0 a1_1 a1_2 a1_3) else (if a1_2 < 0 then (code_checker_own.j0 k true l0 l1_0 a1_1 a1_2 a1_3 l1_0 a1_1 a1_2 a1_3) else (if a1_2 > 8 then (code_checker_own.j0 k true l0 l1_0 a1_1 a1_2 a1_3 l1_0 a1_1 a1_2 a1_3) else (code_checker_own.j0 k (decide (a1_2 > a1_1)) l0 l1_0 a1_1 a1_2 a1_3 l1_0 a1_1 a1_2 a1_3))))))) = some (r1, r2) := h; clear h; have HC3 := Aside0.mk H; clear H; have n0_ := Aside0.mk hb; clear HB; have HB := n0_; clear n0_; have BK160 := Aside0.mk hbox; have GW160 := Aside0.mk hge; have GE160 := Aside0.mk hge; clear hb hbox hge; obtain ⟨hcz5_0, hcz5_1, hcz5_2, hcz5_3, hcz5_4, hcz5_5, hfz5_0, hfz5_1, hfz5_2, hfz5_3, hfz5_4, hfz5_5⟩ := bc6 BK160.out; go_enter Tryd.func55, Tryd.ntmps55
 go_upto_region 2 with (first | fail | ((with_reducible refine gate_dst (N := 3) rfl ?_); (try (refine gate_guard (by rfl) ?_; dsimp only)); refine bx 3 #[.slice none 0 0, .int .i64 0, .int .i64 0, .bool false] 35 ?_; intro gb161 hg w6 hbox hb; have n_ := an7 (bu BK160.out hb) (below_step bl hb) (hbox) (bg hg) (bg hg) ((by rw [hg]; exact Nat.ne_of_lt (blk_lt (g := gb160) (o := .cells #[.slice A0 l0.length c0, .slice A1_0 l1_0.length c1_0, .int .i64 a1_1, .int .i64 a1_2, .bool a1_3, .slice none 0 0] 105 (0, 0)) bk) : gb160 ≠ gb161)) ((by rw [hg]; exact Nat.ne_of_gt (blk_lt (g := gb160) (o := .cells #[.slice A0 l0.length c0, .slice A1_0 l1_0.length c1_0, .int .i64 a1_1, .int .i64 a1_2, .bool a1_3, .slice none 0 0] 105 (0, 0)) bk) : gb161 ≠ gb160)); clear BK160 HB; obtain ⟨BK160, HB, BK161, GW161, GE161, NB160_161, NB161_160⟩ := n_; clear hb hbox hg; have hnb7 := NB161_160.out; have hnc7 := NB160_161.out; obtain ⟨hcz8_0, hcz8_1, hcz8_2, hcz8_3⟩ := bd4 BK161.out; have hfz8_0 := blk_frozen BK161.out 0; have hfz8_1 := blk_frozen BK161.out 1; have hfz8_2 := blk_frozen BK161.out 2; have hfz8_3 := blk_frozen BK161.out 3))
 (try simp only [Act.put, List.setIfInBounds_toArray, List.set_cons_zero, List.set_cons_succ])
 go_cut [46] (fun v46 wc => ∃ (kq : Nat) (x46_2 : Bool), v46 = .bool x46_2 ∧ Aside0 (code_checker_own.j0 kq x46_2 l0 l1_0 a1_1 a1_2 a1_3 l1_0 a1_1 a1_2 a1_3 = some (r1, r2)) ∧ Aside0 (kq ≤ k) ∧ Aside0 (wc.heap[gb160]? = some (.cells #[(.slice A0 l0.length c0), (.slice A1_0 l1_0.length c1_0), .int .i64 a1_1, .int .i64 a1_2, .bool a1_3, (.slice none 0 0)] 105 (0, 0))) ∧ Aside0 (wc.heap[gb161]? = some (.cells #[(.slice A1_0 l1_0.length c1_0), .int .i64 a1_1, .int .i64 a1_2, .bool a1_3] 35 (0, 0))) ∧ Aside0 (Below w.heap.size w wc))
 case first =>
  have H := HC3.out; clear HC3
  by_cases c9 : (l1_0.length : Int) < 1
  ·rw [if_pos c9] at H; have c9b0 := decide_eq_true c9; have c9b1 : decide (l1_0.length < 1) = true := decide_eq_true (by omega); clear c9; (first | rw [c9b0] | (simp only [i64_w, i32_w]; rw [c9b0]) | skip); have H' := Aside0.mk H; clear H; have hnb10 := NB161_160.out; have hnc10 := NB160_161.out; obtain ⟨hcz11_0, hcz11_1, hcz11_2, hcz11_3, hfz11_0, hfz11_1, hfz11_2, hfz11_3⟩ := bc4 BK161.out; go_wp2; go_meet
   case rel => exact ⟨_, (true), pr, H', ⟨by first | omega | exact Nat.le_refl _⟩, ⟨by (with_reducible repeat (first | refine blk_drewN ?_ _ | refine blk_drew ?_ | refine blk_alloc ?_ _)); refine blk_far ?_ NB160_161.out _; exact bf3 (bq BK160.out) NB160_161.out⟩, ⟨by exact bp4 (bq BK161.out)⟩, ⟨bl⟩⟩
  ·rw [if_neg c9] at H; have c9b0 := decide_eq_false c9; have c9b1 : decide (l1_0.length < 1) = false := decide_eq_false (by omega); clear c9; (first | rw [c9b0] | (simp only [i64_w, i32_w]; rw [c9b0]) | skip); have HH_ := Aside0.mk H; clear H; have hnb13 := NB161_160.out; have hnc13 := NB160_161.out; obtain ⟨hcz14_0, hcz14_1, hcz14_2, hcz14_3, hfz14_0, hfz14_1, hfz14_2, hfz14_3⟩ := bc4 BK161.out; have H := HH_.out; clear HH_
   by_cases c12 : (l1_0.length : Int) > 65536
   ·rw [if_pos c12] at H; have c12b0 : decide (65536 < (l1_0.length : Int)) = true := decide_eq_true c12; have c12b1 : decide (65536 < l1_0.length) = true := decide_eq_true (by omega); clear c12; have H' := Aside0.mk H; clear H; go_wp2; go_meet
    case rel => exact ⟨_, (true), pr, H', ⟨by first | omega | exact Nat.le_refl _⟩, ⟨by (with_reducible repeat (first | refine blk_drewN ?_ _ | refine blk_drew ?_ | refine blk_alloc ?_ _)); refine blk_far ?_ NB160_161.out _; exact bf3 (bq BK160.out) NB160_161.out⟩, ⟨by exact bp4 (bq BK161.out)⟩, ⟨bl⟩⟩
   ·rw [if_neg c12] at H; have c12b0 : decide (65536 < (l1_0.length : Int)) = false := decide_eq_false c12; have c12b1 : decide (65536 < l1_0.length) = false := decide_eq_false (by omega); clear c12; have HH_ := Aside0.mk H; clear H; have H := HH_.out; clear HH_
    by_cases c15 : a1_1 < 0
    ·rw [if_pos c15] at H; have c15b0 := decide_eq_true c15; clear c15; have H' := Aside0.mk H; clear H; go_wp2; go_meet
     case rel => exact ⟨_, (true), pr, H', ⟨by first | omega | exact Nat.le_refl _⟩, ⟨by (with_reducible repeat (first | refine blk_drewN ?_ _ | refine blk_drew ?_ | refine blk_alloc ?_ _)); refine blk_far ?_ NB160_161.out _; exact bf3 (bq BK160.out) NB160_161.out⟩, ⟨by exact bp4 (bq BK161.out)⟩, ⟨bl⟩⟩
    ·rw [if_neg c15] at H; have c15b0 := decide_eq_false c15; clear c15; have HH_ := Aside0.mk H; clear H; have H := HH_.out; clear HH_
     by_cases c18 : a1_1 > 65536
     ·rw [if_pos c18] at H; have c18b0 : decide (65536 < a1_1) = true := decide_eq_true c18; clear c18; have H' := Aside0.mk H; clear H; go_wp2; go_meet
      case rel => exact ⟨_, (true), pr, H', ⟨by first | omega | exact Nat.le_refl _⟩, ⟨by (with_reducible repeat (first | refine blk_drewN ?_ _ | refine blk_drew ?_ | refine blk_alloc ?_ _)); refine blk_far ?_ NB160_161.out _; exact bf3 (bq BK160.out) NB160_161.out⟩, ⟨by exact bp4 (bq BK161.out)⟩, ⟨bl⟩⟩
     ·rw [if_neg c18] at H; have c18b0 : decide (65536 < a1_1) = false := decide_eq_false c18; clear c18; have HH_ := Aside0.mk H; clear H; have H := HH_.out; clear HH_
      by_cases c21 : a1_2 < 0
      ·rw [if_pos c21] at H; have c21b0 := decide_eq_true c21; clear c21; have H' := Aside0.mk H; clear H; go_wp2; go_meet
       case rel => exact ⟨_, (true), pr, H', ⟨by first | omega | exact Nat.le_refl _⟩, ⟨by (with_reducible repeat (first | refine blk_drewN ?_ _ | refine blk_drew ?_ | refine blk_alloc ?_ _)); refine blk_far ?_ NB160_161.out _; exact bf3 (bq BK160.out) NB160_161.out⟩, ⟨by exact bp4 (bq BK161.out)⟩, ⟨bl⟩⟩
      ·rw [if_neg c21] at H; have c21b0 := decide_eq_false c21; clear c21; have HH_ := Aside0.mk H; clear H; have H := HH_.out; clear HH_
       by_cases c24 : a1_2 > 8
       ·rw [if_pos c24] at H; have c24b0 : decide (8 < a1_2) = true := decide_eq_true c24; clear c24; have H' := Aside0.mk H; clear H; go_wp2; go_meet
        case rel => exact ⟨_, (true), pr, H', ⟨by first | omega | exact Nat.le_refl _⟩, ⟨by (with_reducible repeat (first | refine blk_drewN ?_ _ | refine blk_drew ?_ | refine blk_alloc ?_ _)); refine blk_far ?_ NB160_161.out _; exact bf3 (bq BK160.out) NB160_161.out⟩, ⟨by exact bp4 (bq BK161.out)⟩, ⟨bl⟩⟩
       ·rw [if_neg c24] at H; have c24b0 : decide (8 < a1_2) = false := decide_eq_false c24; clear c24; have H' := Aside0.mk H; clear H; go_wp2; go_meet
        case rel => exact ⟨_, (decide (a1_2 > a1_1)), pr, H', ⟨by first | omega | exact Nat.le_refl _⟩, ⟨by (with_reducible repeat (first | refine blk_drewN ?_ _ | refine blk_drew ?_ | refine blk_alloc ?_ _)); refine blk_far ?_ NB160_161.out _; exact bf3 (bq BK160.out) NB160_161.out⟩, ⟨by exact bp4 (bq BK161.out)⟩, ⟨bl⟩⟩
 case rest =>
  clear HC3; (try clear hcz5_0); (try clear hcz5_1); (try clear hcz5_2); (try clear hcz5_3); (try clear hcz5_4); (try clear hcz5_5); (try clear hcz8_0); (try clear hcz8_1); (try clear hcz8_2); (try clear hcz8_3); (try clear hfz5_0); (try clear hfz5_1); (try clear hfz5_2); (try clear hfz5_3); (try clear hfz5_4); (try clear hfz5_5); (try clear hfz8_0); (try clear hfz8_1); (try clear hfz8_2); (try clear hfz8_3); obtain ⟨kq, x46_2, rfl, HA, HJ2, BK160, BK161, HB⟩ := hcut
  cases kq with
  | zero => exact absurd HA.out (by simp [code_checker_own.j0])
  | succ kj2 =>
   have H := HA.out; clear HA; simp only [code_checker_own.j0] at H
   by_cases c29 : x46_2 = true
   ·subst c29; rw [if_pos rfl] at H; simp only [Option.some.injEq, Prod.mk.injEq] at H; obtain ⟨rfl, rfl⟩ := H; have hnb30 := NB160_161.out; have hnc30 := NB161_160.out; obtain ⟨hcz31_0, hcz31_1, hcz31_2, hcz31_3, hcz31_4, hcz31_5, hfz31_0, hfz31_1, hfz31_2, hfz31_3, hfz31_4, hfz31_5⟩ := bc6 BK160.out; go_wp2; go_ret; exact ⟨pe, _, pn, bl, _, _, _, _, _, bk⟩
   ·replace c29 := Bool.eq_false_iff.mpr c29; subst c29; rw [if_neg (show ¬ (false = true) by decide)] at H; have H' := Aside0.mk H; clear H; have hnb32 := NB161_160.out; have hnc32 := NB160_161.out; obtain ⟨hcz33_0, hcz33_1, hcz33_2, hcz33_3, hfz33_0, hfz33_1, hfz33_2, hfz33_3⟩ := bc4 BK161.out; go_wp2
    go_loopg [50] kj2 (fun kq v50 w' => ∃ (x50_2 : Int), v50 = .int .i64 x50_2 ∧ Aside0 (code_checker_own.l0 kq l1_0 (l1_0.length : Int) x50_2 l0 l1_0 a1_1 a1_2 a1_3 = some (r1, r2)) ∧ Aside0 (kq ≤ kj2) ∧ Aside0 (w'.heap[gb160]? = some (.cells #[(.slice A0 l0.length c0), (.slice A1_0 l1_0.length c1_0), .int .i64 a1_1, .int .i64 a1_2, .bool a1_3, (.slice none 0 0)] 105 (0, 0))) ∧ Aside0 (w'.heap[gb161]? = some (.cells #[(.slice A1_0 l1_0.length c1_0), .int .i64 a1_1, .int .i64 a1_2, .bool a1_3] 35 (0, 0))) ∧ Aside0 (Below w.heap.size w w'))
    case atStart => exact ⟨(0), pr, H', ⟨Nat.le_refl _⟩, ⟨bk⟩, ⟨bk⟩, ⟨bl⟩⟩
    case round =>
     clear H'; (try clear hcz33_0); (try clear hcz33_1); (try clear hcz33_2); (try clear hcz33_3); (try clear hfz33_0); (try clear hfz33_1); (try clear hfz33_2); (try clear hfz33_3); obtain ⟨x50_2, rfl, HA, HK2, BK160, BK161, HB⟩ := hrel
     cases gk with
     | zero => exact absurd HA.out (by simp [code_checker_own.l0])
     | succ k2 =>
      have H := HA.out; clear HA; simp only [code_checker_own.l0] at H
      by_cases c34 : x50_2 < (l1_0.length : Int)
      ·rw [if_pos c34] at H; have c34b0 := decide_eq_true c34; clear c34
       replace H := it (c := 0 ≤ x50_2) H; obtain ⟨c35, H⟩ := H; have c35b0 := decide_eq_true c35; clear c35
       replace H := it (c := x50_2 < (l1_0.length : Int)) H; obtain ⟨c36, H⟩ := H; have c36b0 := decide_eq_true c36; clear c36; replace H := ob H; obtain ⟨t164, A37, H⟩ := H; have HH_ := Aside0.mk H; clear H
       have p162 : 0 ≤ (x50_2 : Int) := of_decide_eq_true pa
       have q162 : x50_2 < (l1_0.length : Int) := of_decide_eq_true pa
       obtain ⟨ad162, e162, hx162_0, hx162_1, hx162_2⟩ := at_T40 HR1_0.out x50_2 p162 q162
       cases e162
       replace hx162_0 := pc HB.out hx162_0; replace hx162_1 := pc HB.out hx162_1; replace hx162_2 := pc HB.out hx162_2; replace p162 := eq_true p162; replace q162 := eq_true q162
       go_wp2_with (first | ((with_reducible refine gate_dst (N := 5) rfl ?_); (try (refine gate_guard (by rfl) ?_; dsimp only)); refine bx 5 #[.int .i64 0, .int .i64 0, .int .i64 0] 40 ?_; intro gb163 hg w39 hbox hb; have n_ := an10 (bu BK160.out hb) (bu BK161.out hb) (below_step bl hb) (hbox) (bg hg) (bg hg) ((by rw [hg]; exact Nat.ne_of_lt (blk_lt (g := gb160) (o := .cells #[.slice A0 l0.length c0, .slice (some ad162) l1_0.length c1_0, .int .i64 a1_1, .int .i64 a1_2, .bool a1_3, .slice none 0 0] 105 (0, 0)) bk) : gb160 ≠ gb163)) ((by rw [hg]; exact Nat.ne_of_gt (blk_lt (g := gb160) (o := .cells #[.slice A0 l0.length c0, .slice (some ad162) l1_0.length c1_0, .int .i64 a1_1, .int .i64 a1_2, .bool a1_3, .slice none 0 0] 105 (0, 0)) bk) : gb163 ≠ gb160)) ((by rw [hg]; exact Nat.ne_of_lt (blk_lt (g := gb161) (o := .cells #[.slice (some ad162) l1_0.length c1_0, .int .i64 a1_1, .int .i64 a1_2, .bool a1_3] 35 (0, 0)) bk) : gb161 ≠ gb163)) ((by rw [hg]; exact Nat.ne_of_gt (blk_lt (g := gb161) (o := .cells #[.slice (some ad162) l1_0.length c1_0, .int .i64 a1_1, .int .i64 a1_2, .bool a1_3] 35 (0, 0)) bk) : gb163 ≠ gb161)); clear BK160 BK161 HB; obtain ⟨BK160, BK161, HB, BK163, GW163, GE163, NB160_163, NB163_160, NB161_163, NB163_161⟩ := n_; clear hb hbox hg; have hnb40 := NB163_160.out; have hnc40 := NB160_163.out; have hnb41 := NB163_161.out; have hnc41 := NB161_163.out; obtain ⟨hcz42_0, hcz42_1, hcz42_2, hfz42_0, hfz42_1, hfz42_2⟩ := bc3 BK163.out; have hnb43 := NB160_161.out; have hnc43 := NB161_160.out; obtain ⟨hcz44_0, hcz44_1, hcz44_2, hcz44_3, hcz44_4, hcz44_5, hfz44_0, hfz44_1, hfz44_2, hfz44_3, hfz44_4, hfz44_5⟩ := bc6 BK160.out; refine ?roundEnd))
       case roundEnd =>
        have H := HH_.out; clear HH_
        by_cases c38 : t164 = true
        ·subst c38; rw [if_pos rfl] at H; have H' := Aside0.mk H; clear H
         go_wp2_with (first | ((with_reducible refine gate_callee (f := 79) rfl ?_); refine goesL_ (some 56) rfl rfl Tryd.func79 (by kernel_rfl) rfl #[.pointer (some ⟨gb160, 0, none⟩), .agg #[.int .i64 ((rd_T40 l1_0 x50_2).f0), .int .i64 ((rd_T40 l1_0 x50_2).f1), .int .i64 ((rd_T40 l1_0 x50_2).f2)]] rfl (by (try simp only [List.map_toArray, List.map_cons, List.map_nil]); first | done | rfl | (simp only [List.length_drop, List.length_take]; rfl)) ?_; (with_reducible refine (code_checker_may.calls gb160 k2 A0 c0 l0 ((rd_T40 l1_0 x50_2).f0) ((rd_T40 l1_0 x50_2).f1) ((rd_T40 l1_0 x50_2).f2) (some ad162) c1_0 l1_0 a1_1 a1_2 a1_3 true _ ?side1 ?side2 ?side3 ?side4 ?side5 ?sideB A37.out).mono ?_); (case side1 => exact Kd.C_below HR0.out bl); (case side2 => exact HC0.out); (case side3 => exact Kd.C_below HR1_0.out bl); (case side4 => exact HC1_0.out); (case side5 => exact Laid.below HLd.out bl); (case sideB => exact (by exact bf3 (bq BK160.out) NB160_163.out)); rintro e w45 ⟨rfl, hb⟩; refine ⟨_, rfl, ?_⟩; have n_ := an4 (blk_below (g := gb160) (o := .cells #[.slice A0 l0.length c0, .slice (some ad162) l1_0.length c1_0, .int .i64 a1_1, .int .i64 a1_2, .bool a1_3, .slice none 0 0] 105 (0, 0)) (by exact bf3 (bq BK160.out) NB160_163.out) hb) (blk_below (g := gb161) (o := .cells #[.slice (some ad162) l1_0.length c1_0, .int .i64 a1_1, .int .i64 a1_2, .bool a1_3] 35 (0, 0)) (by exact bf3 (bq BK161.out) NB161_163.out) hb) (blk_below (g := gb163) (o := .cells #[.int .i64 ((rd_T40 l1_0 x50_2).f0), .int .i64 ((rd_T40 l1_0 x50_2).f1), .int .i64 ((rd_T40 l1_0 x50_2).f2)] 40 (0, 0)) (by exact bp3 (bq BK163.out)) hb) (below_step bl hb); clear BK160 BK161 BK163 HB; obtain ⟨BK160, BK161, BK163, HB⟩ := n_; (try clear hb)))
         go_roundg k2
         case measure => have := HJ2.out; have := HK2.out; omega
         case rel => exact ⟨(wrap64 (x50_2 + 1)), pr, H', ⟨by have := HJ2.out; have := HK2.out; omega⟩, ⟨bk⟩, ⟨bk⟩, ⟨bl⟩⟩
        ·replace c38 := Bool.eq_false_iff.mpr c38; subst c38; rw [if_neg (show ¬ (false = true) by decide)] at H; simp only [Option.some.injEq, Prod.mk.injEq] at H; obtain ⟨rfl, rfl⟩ := H
         go_wp2_with (first | ((with_reducible refine gate_callee (f := 79) rfl ?_); refine goesL_ (some 56) rfl rfl Tryd.func79 (by kernel_rfl) rfl #[.pointer (some ⟨gb160, 0, none⟩), .agg #[.int .i64 ((rd_T40 l1_0 x50_2).f0), .int .i64 ((rd_T40 l1_0 x50_2).f1), .int .i64 ((rd_T40 l1_0 x50_2).f2)]] rfl (by (try simp only [List.map_toArray, List.map_cons, List.map_nil]); first | done | rfl | (simp only [List.length_drop, List.length_take]; rfl)) ?_; (with_reducible refine (code_checker_may.calls gb160 k2 A0 c0 l0 ((rd_T40 l1_0 x50_2).f0) ((rd_T40 l1_0 x50_2).f1) ((rd_T40 l1_0 x50_2).f2) (some ad162) c1_0 l1_0 a1_1 a1_2 a1_3 false _ ?side1 ?side2 ?side3 ?side4 ?side5 ?sideB A37.out).mono ?_); (case side1 => exact Kd.C_below HR0.out bl); (case side2 => exact HC0.out); (case side3 => exact Kd.C_below HR1_0.out bl); (case side4 => exact HC1_0.out); (case side5 => exact Laid.below HLd.out bl); (case sideB => exact (by exact bf3 (bq BK160.out) NB160_163.out)); rintro e w52 ⟨rfl, hb⟩; refine ⟨_, rfl, ?_⟩; have n_ := an4 (blk_below (g := gb160) (o := .cells #[.slice A0 l0.length c0, .slice (some ad162) l1_0.length c1_0, .int .i64 a1_1, .int .i64 a1_2, .bool a1_3, .slice none 0 0] 105 (0, 0)) (by exact bf3 (bq BK160.out) NB160_163.out) hb) (blk_below (g := gb161) (o := .cells #[.slice (some ad162) l1_0.length c1_0, .int .i64 a1_1, .int .i64 a1_2, .bool a1_3] 35 (0, 0)) (by exact bf3 (bq BK161.out) NB161_163.out) hb) (blk_below (g := gb163) (o := .cells #[.int .i64 ((rd_T40 l1_0 x50_2).f0), .int .i64 ((rd_T40 l1_0 x50_2).f1), .int .i64 ((rd_T40 l1_0 x50_2).f2)] 40 (0, 0)) (by exact bp3 (bq BK163.out)) hb) (below_step bl hb); clear BK160 BK161 BK163 HB; obtain ⟨BK160, BK161, BK163, HB⟩ := n_; (try clear hb); obtain ⟨hcz53_0, hcz53_1, hcz53_2, hcz53_3, hcz53_4, hcz53_5⟩ := bd6 BK160.out; have hfz53_0 := blk_frozen BK160.out 0; have hfz53_1 := blk_frozen BK160.out 1; have hfz53_2 := blk_frozen BK160.out 2; have hfz53_3 := blk_frozen BK160.out 3; have hfz53_4 := blk_frozen BK160.out 4; have hfz53_5 := blk_frozen BK160.out 5))
         go_ret; exact ⟨pe, _, pn, bl, _, _, _, _, _, bk⟩
      ·rw [if_neg c34] at H; have c34b0 := decide_eq_false c34; clear c34; replace H := ob H; obtain ⟨⟨t165, t166⟩, A54, H⟩ := H; simp only [Option.some.injEq, Prod.mk.injEq] at H; obtain ⟨rfl, rfl⟩ := H; have hnb55 := NB160_161.out; have hnc55 := NB161_160.out; obtain ⟨hcz56_0, hcz56_1, hcz56_2, hcz56_3, hcz56_4, hcz56_5, hfz56_0, hfz56_1, hfz56_2, hfz56_3, hfz56_4, hfz56_5⟩ := bc6 BK160.out
       go_wp2_with (first | ((with_reducible refine gate_callee (f := 80) rfl ?_); refine goesL_ (some 60) rfl rfl Tryd.func80 (by kernel_rfl) rfl #[.pointer (some ⟨gb160, 0, none⟩)] rfl (by (try simp only [List.map_toArray, List.map_cons, List.map_nil]); first | done | rfl | (simp only [List.length_drop, List.length_take]; rfl)) ?_; (with_reducible refine (code_checker_heights.calls k2 A0 c0 l0 A1_0 c1_0 l1_0 a1_1 a1_2 a1_3 t165 t166 gb160 w _ ?side1 ?side2 ?side3 ?side4 ?side5 ?sideB ?sideC ?sideD A54.out).mono ?_); (case side1 => exact HR0.out); (case side2 => exact HC0.out); (case side3 => exact HR1_0.out); (case side4 => exact HC1_0.out); (case side5 => exact HLd.out); (case sideB => exact bk); (case sideC => exact bl); (case sideD => exact GE160.out); rintro e w57 ⟨rfl, v167, ho0, hb, x0_, x1_, x2_, x3_, x4_, hbx⟩; refine ⟨_, rfl, ?_⟩; have n0_ := Aside0.mk ho0; have n1_ := Aside0.mk hbx; have n2_ := Aside0.mk hb; clear BK160 BK161 HB; have HO168 := n0_; have BK160 := n1_; have HB := n2_; clear n0_ n1_ n2_; clear hb hbx; (try clear ho0)))
       go_ret; exact ⟨pe, _, bR HO168.out, bl, _, _, _, _, _, bk⟩

/-! ### code_Heights: function 31 -/
def code_Heights.j0 : Nat → List (S35) → Int → Bool → Option (List Int × Bool)
 | 0, _, _, _ => none
 | k + 1, x0, x1, x14 => if x14 = true then (some (([] : List Int), false)) else (if 0 ≤ x1 then (if x1 < (x0.length : Int) then ((code_checker_own.f k x0 ((rd_T35 x0 x1).f0) ((rd_T35 x0 x1).f1) ((rd_T35 x0 x1).f2) ((rd_T35 x0 x1).f3)).bind fun bt171 => (if bt171.1 = true then (some (bt171.2, true)) else (some (([] : List Int), false)))) else (none)) else (none))
def code_Heights.f (k : Nat) (l0 : List (S35)) (a1 : Int) : Option (List Int × Bool) := if a1 < 0 then (code_Heights.j0 k l0 a1 true) else (code_Heights.j0 k l0 a1 (decide (a1 ≥ (l0.length : Int))))
theorem code_Heights.mono_l : ∀ k, (∀ y0 y1 y2, LeO (code_Heights.j0 k y0 y1 y2) (code_Heights.j0 (k + 1) y0 y1 y2))
 | 0 => fun _ _ _ r h => by simp [code_Heights.j0] at h
 | k + 1 => by
  have ih0 := code_Heights.mono_l k
  ·intro y0 y1 y2
   unfold code_Heights.j0
   repeat' (with_reducible first | apply ih0 | apply code_checker_own.mono | exact LeO.refl _ | exact LeO.none _ | refine LeO.ite ?_ ?_ | refine LeO.bind ?_ (fun _ => ?_))
theorem code_Heights.mono : ∀ a0 a1 k, LeO (code_Heights.f k a0 a1) (code_Heights.f (k + 1) a0 a1) := by
 intro a0 a1 k
 have ih0 := code_Heights.mono_l k
 unfold code_Heights.f
 repeat' (with_reducible first | apply ih0 | apply code_checker_own.mono | exact LeO.refl _ | exact LeO.none _ | refine LeO.ite ?_ ?_ | refine LeO.bind ?_ (fun _ => ?_))
set_option maxHeartbeats 8000000 in
set_option maxRecDepth 100000 in
theorem code_Heights.calls (k : Nat) (A0 : Option Addr) (c0 : Nat) (l0 : List (S35)) (a1 : Int) (r1 : List Int) (r2 : Bool) (w : World) (hr0 : Kd.C k35 w A0 l0.length l0) (hc0 : l0.length ≤ c0) (hLd : Laid w) (h : code_Heights.f k l0 a1 = some (r1, r2)) :
  Calls Tryd.prog 31 #[.slice A0 l0.length c0, .int .i64 a1] w fun e w' => ∃ v0_ : Value, e = .returned (.tuple #[v0_, .bool r2]) ∧ Kd.R (Kd.int .i64) 3 w' w.heap.size (fun _ => True) v0_ r1 ∧ Below w.heap.size w w' := by
 have hu35 := Tryd.underlying35; have hu105 := Tryd.underlying105; have HR0 := Aside0.mk hr0; have HC0 := Aside0.mk hc0; clear hr0 hc0; have HLd := Aside0.mk hLd; clear hLd; have HB := Aside0.mk (Below.refl w.heap.size w); have H : (if a1 < 0 then (code_Heights.j0 k l0 a1 true) else (code_Heights.j0 k l0 a1 (decide (a1 ≥ (l0.length : Int))))) = some (r1, r2) := h; clear h; have HC3 := Aside0.mk H; clear H; go_enter Tryd.func31, Tryd.ntmps31
 go_upto_region 1 with (fail)
 go_cut [14] (fun v14 wc => ∃ (kq : Nat) (x14_2 : Bool), v14 = .bool x14_2 ∧ Aside0 (code_Heights.j0 kq l0 a1 x14_2 = some (r1, r2)) ∧ Aside0 (kq ≤ k) ∧ Aside0 (Below w.heap.size w wc))
 case first =>
  have H := HC3.out; clear HC3
  by_cases c4 : a1 < 0
  ·rw [if_pos c4] at H; have c4b0 := decide_eq_true c4; clear c4; (first | rw [c4b0] | (simp only [i64_w, i32_w]; rw [c4b0]) | skip); have H' := Aside0.mk H; clear H; go_wp2; go_meet
   case rel => exact ⟨_, (true), pr, H', ⟨by first | omega | exact Nat.le_refl _⟩, ⟨bl⟩⟩
  ·rw [if_neg c4] at H; have c4b0 := decide_eq_false c4; clear c4; (first | rw [c4b0] | (simp only [i64_w, i32_w]; rw [c4b0]) | skip); have H' := Aside0.mk H; clear H; go_wp2; go_meet
   case rel => exact ⟨_, (decide (a1 ≥ (l0.length : Int))), pr, H', ⟨by first | omega | exact Nat.le_refl _⟩, ⟨bl⟩⟩
 case rest =>
  clear HC3; obtain ⟨kq, x14_2, rfl, HA, HJ2, HB⟩ := hcut
  cases kq with
  | zero => exact absurd HA.out (by simp [code_Heights.j0])
  | succ kj2 =>
   have H := HA.out; clear HA; simp only [code_Heights.j0] at H
   by_cases c5 : x14_2 = true
   ·subst c5; rw [if_pos rfl] at H; simp only [Option.some.injEq, Prod.mk.injEq] at H; obtain ⟨rfl, rfl⟩ := H; go_wp2; go_ret2; exact ⟨_, pe, pn, bl⟩
   ·replace c5 := Bool.eq_false_iff.mpr c5; subst c5; rw [if_neg (show ¬ (false = true) by decide)] at H
    replace H := it (c := 0 ≤ a1) H; obtain ⟨c6, H⟩ := H; have c6b0 := decide_eq_true c6; clear c6
    replace H := it (c := a1 < (l0.length : Int)) H; obtain ⟨c7, H⟩ := H; have c7b0 := decide_eq_true c7; clear c7; replace H := ob H; obtain ⟨⟨t171, t172⟩, A8, H⟩ := H; have HH_ := Aside0.mk H; clear H
    have p169 : 0 ≤ (a1 : Int) := of_decide_eq_true pa
    have q169 : a1 < (l0.length : Int) := of_decide_eq_true pa
    obtain ⟨ad169, A169_0, c169_0, e169, hx169_0, hx169_1, hx169_2, hx169_3, hl169_0, hi169_0⟩ := at_T35 HR0.out a1 p169 q169
    cases e169
    replace hx169_0 := pc HB.out hx169_0; replace hx169_1 := pc HB.out hx169_1; replace hx169_2 := pc HB.out hx169_2; replace hx169_3 := pc HB.out hx169_3; have HR169_0 := Aside0.mk hi169_0; have HC169_0 := Aside0.mk hl169_0; clear hi169_0 hl169_0; replace p169 := eq_true p169; replace q169 := eq_true q169
    go_wp2_with (first | ((with_reducible refine gate_dst (N := 21) rfl ?_); (try (refine gate_guard (by rfl) ?_; dsimp only)); refine bx 21 #[.slice (some ad169) l0.length c0, .slice A169_0 ((rd_T35 l0 a1).f0).length c169_0, .int .i64 ((rd_T35 l0 a1).f1), .int .i64 ((rd_T35 l0 a1).f2), .bool ((rd_T35 l0 a1).f3), .slice none 0 0] 105 ?_; intro gb170 hg w10 hbox hb; have n_ := an4 (below_step bl hb) (hbox) (bg hg) (bg hg); clear HB; obtain ⟨HB, BK170, GW170, GE170⟩ := n_; clear hb hbox hg; obtain ⟨hcz11_0, hcz11_1, hcz11_2, hcz11_3, hcz11_4, hcz11_5, hfz11_0, hfz11_1, hfz11_2, hfz11_3, hfz11_4, hfz11_5⟩ := bc6 BK170.out; refine ?roundEnd))
    case roundEnd =>
     have H := HH_.out; clear HH_
     by_cases c9 : t171 = true
     ·subst c9; rw [if_pos rfl] at H; simp only [Option.some.injEq, Prod.mk.injEq] at H; obtain ⟨rfl, rfl⟩ := H
      go_wp2_with (first | ((with_reducible refine gate_callee (f := 55) rfl ?_); refine goesL_ (some 23) rfl rfl Tryd.func55 (by kernel_rfl) rfl #[.pointer (some ⟨gb170, 0, none⟩)] rfl (by (try simp only [List.map_toArray, List.map_cons, List.map_nil]); first | done | rfl | (simp only [List.length_drop, List.length_take]; rfl)) ?_; (with_reducible refine (code_checker_own.calls kj2 (some ad169) c0 l0 A169_0 c169_0 ((rd_T35 l0 a1).f0) ((rd_T35 l0 a1).f1) ((rd_T35 l0 a1).f2) ((rd_T35 l0 a1).f3) true t172 gb170 w _ ?side1 ?side2 ?side3 ?side4 ?side5 ?sideB ?sideC ?sideD A8.out).mono ?_); (case side1 => exact HR0.out); (case side2 => exact HC0.out); (case side3 => exact HR169_0.out); (case side4 => exact HC169_0.out); (case side5 => exact HLd.out); (case sideB => exact bk); (case sideC => exact bl); (case sideD => exact GE170.out); rintro e w12 ⟨rfl, v173, ho0, hb, x0_, x1_, x2_, x3_, x4_, hbx⟩; refine ⟨_, rfl, ?_⟩; have n0_ := Aside0.mk ho0; have n1_ := Aside0.mk hbx; have n2_ := Aside0.mk hb; clear BK170 HB; have HO174 := n0_; have BK170 := n1_; have HB := n2_; clear n0_ n1_ n2_; clear hb hbx; (try clear ho0); obtain ⟨Ao13, co13, eo13⟩ := Kd.R_slice HO174.out; subst eo13; obtain ⟨hcz14_0, hcz14_1, hcz14_2, hcz14_3, hcz14_4, hcz14_5⟩ := bd6 BK170.out; have hfz14_0 := blk_frozen BK170.out 0; have hfz14_1 := blk_frozen BK170.out 1; have hfz14_2 := blk_frozen BK170.out 2; have hfz14_3 := blk_frozen BK170.out 3; have hfz14_4 := blk_frozen BK170.out 4; have hfz14_5 := blk_frozen BK170.out 5))
      go_ret2; exact ⟨_, pe, Kd.R_mono (bR HO174.out) (fun _ hk => trivial), bl⟩
     ·replace c9 := Bool.eq_false_iff.mpr c9; subst c9; rw [if_neg (show ¬ (false = true) by decide)] at H; simp only [Option.some.injEq, Prod.mk.injEq] at H; obtain ⟨rfl, rfl⟩ := H
      go_wp2_with (first | ((with_reducible refine gate_callee (f := 55) rfl ?_); refine goesL_ (some 23) rfl rfl Tryd.func55 (by kernel_rfl) rfl #[.pointer (some ⟨gb170, 0, none⟩)] rfl (by (try simp only [List.map_toArray, List.map_cons, List.map_nil]); first | done | rfl | (simp only [List.length_drop, List.length_take]; rfl)) ?_; (with_reducible refine (code_checker_own.calls kj2 (some ad169) c0 l0 A169_0 c169_0 ((rd_T35 l0 a1).f0) ((rd_T35 l0 a1).f1) ((rd_T35 l0 a1).f2) ((rd_T35 l0 a1).f3) false t172 gb170 w _ ?side1 ?side2 ?side3 ?side4 ?side5 ?sideB ?sideC ?sideD A8.out).mono ?_); (case side1 => exact HR0.out); (case side2 => exact HC0.out); (case side3 => exact HR169_0.out); (case side4 => exact HC169_0.out); (case side5 => exact HLd.out); (case sideB => exact bk); (case sideC => exact bl); (case sideD => exact GE170.out); rintro e w17 ⟨rfl, v173, ho0, hb, x0_, x1_, x2_, x3_, x4_, hbx⟩; refine ⟨_, rfl, ?_⟩; have n0_ := Aside0.mk ho0; have n1_ := Aside0.mk hbx; have n2_ := Aside0.mk hb; clear BK170 HB; have HO174 := n0_; have BK170 := n1_; have HB := n2_; clear n0_ n1_ n2_; clear hb hbx; (try clear ho0); obtain ⟨Ao18, co18, eo18⟩ := Kd.R_slice HO174.out; subst eo18; obtain ⟨hcz19_0, hcz19_1, hcz19_2, hcz19_3, hcz19_4, hcz19_5⟩ := bd6 BK170.out; have hfz19_0 := blk_frozen BK170.out 0; have hfz19_1 := blk_frozen BK170.out 1; have hfz19_2 := blk_frozen BK170.out 2; have hfz19_3 := blk_frozen BK170.out 3; have hfz19_4 := blk_frozen BK170.out 4; have hfz19_5 := blk_frozen BK170.out 5))
      go_ret2; exact ⟨_, pe, pn, bl⟩

end Go.Proofs.YtmbjogpphegoaaaDoor.P
