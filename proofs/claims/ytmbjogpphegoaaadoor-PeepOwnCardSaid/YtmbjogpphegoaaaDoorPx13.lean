-- Written by a program of this session (its own turn of the print: wip/patch_print.py), not by hand. Lean checks it.
import Derived.Test.YtmbjogpphegoaaaDoorWZip3
import Derived.Test.YtmbjogpphegoaaaDoorPx0
namespace Go.Proofs.YtmbjogpphegoaaaDoor.P
open Go.RowKit Go.Proofs.YtmbjogpphegoaaaDoorW.PrintWords Go.Proofs.YtmbjogpphegoaaaDoorW.PrintLast Go.Proofs.YtmbjogpphegoaaaDoorW.PrintMore
attribute [local go_sem] max2_int min2_int max_two min_two max_three min_three max_four min_four
set_option linter.unusedVariables false
set_option linter.unusedSimpArgs false

/-! ### peep_idle: function 64 -/
mutual
def peep_idle.j0 : Nat → Bool → Int → Int → Int → Int → Int → Int → Option (Int)
 | 0, _, _, _, _, _, _, _ => none
 | k + 1, x5, x289000, x289001, x289002, x290000, x290001, x290002 => if x5 = true then (some 7) else (if x289000 = 1 then (if x289001 = 0 then (if x290000 = 7 then (peep_idle.j1 k true x289000 x289001 x289002 x290000 x290001 x290002) else (peep_idle.j1 k (x290000 == 8) x289000 x289001 x289002 x290000 x290001 x290002)) else (peep_idle.j1 k false x289000 x289001 x289002 x290000 x290001 x290002)) else (peep_idle.j1 k false x289000 x289001 x289002 x290000 x290001 x290002))
def peep_idle.j1 : Nat → Bool → Int → Int → Int → Int → Int → Int → Option (Int)
 | 0, _, _, _, _, _, _, _ => none
 | k + 1, x19, x289000, x289001, x289002, x290000, x290001, x290002 => if x19 = true then (some 8) else (if x289000 = 1 then (if x289001 = 1 then (if x290000 = 9 then (peep_idle.j2 k true x289000 x289001 x289002 x290000 x290001 x290002) else (peep_idle.j2 k (x290000 == 10) x289000 x289001 x289002 x290000 x290001 x290002)) else (peep_idle.j2 k false x289000 x289001 x289002 x290000 x290001 x290002)) else (peep_idle.j2 k false x289000 x289001 x289002 x290000 x290001 x290002))
def peep_idle.j2 : Nat → Bool → Int → Int → Int → Int → Int → Int → Option (Int)
 | 0, _, _, _, _, _, _, _ => none
 | k + 1, x38, x289000, x289001, x289002, x290000, x290001, x290002 => if x38 = true then (some 8) else (if x289000 = 2 then (if x290000 = 3 then (if x289001 = x290001 then (some 9) else (some 0)) else (some 0)) else (some 0))
end
def peep_idle.f (k : Nat) (a0_0 : Int) (a0_1 : Int) (a0_2 : Int) (a1_0 : Int) (a1_1 : Int) (a1_2 : Int) : Option (Int) := if a0_0 = 1 then (peep_idle.j0 k (a1_0 == 25) a0_0 a0_1 a0_2 a1_0 a1_1 a1_2) else (if a0_0 = 2 then (peep_idle.j0 k (a1_0 == 25) a0_0 a0_1 a0_2 a1_0 a1_1 a1_2) else (peep_idle.j0 k false a0_0 a0_1 a0_2 a1_0 a1_1 a1_2))
theorem peep_idle.mono_l : ∀ k, (∀ y0 y1 y2 y3 y4 y5 y6, LeO (peep_idle.j0 k y0 y1 y2 y3 y4 y5 y6) (peep_idle.j0 (k + 1) y0 y1 y2 y3 y4 y5 y6)) ∧ (∀ y0 y1 y2 y3 y4 y5 y6, LeO (peep_idle.j1 k y0 y1 y2 y3 y4 y5 y6) (peep_idle.j1 (k + 1) y0 y1 y2 y3 y4 y5 y6)) ∧ (∀ y0 y1 y2 y3 y4 y5 y6, LeO (peep_idle.j2 k y0 y1 y2 y3 y4 y5 y6) (peep_idle.j2 (k + 1) y0 y1 y2 y3 y4 y5 y6))
 | 0 => ⟨fun _ _ _ _ _ _ _ r h => by simp [peep_idle.j0] at h, fun _ _ _ _ _ _ _ r h => by simp [peep_idle.j1] at h, fun _ _ _ _ _ _ _ r h => by simp [peep_idle.j2] at h⟩
 | k + 1 => by
  obtain ⟨ih0, ih1, ih2⟩ := peep_idle.mono_l k
  refine ⟨?_, ?_, ?_⟩
  ·intro y0 y1 y2 y3 y4 y5 y6
   unfold peep_idle.j0
   repeat' (with_reducible first | apply ih0 | apply ih1 | apply ih2 | exact LeO.refl _ | exact LeO.none _ | refine LeO.ite ?_ ?_ | refine LeO.bind ?_ (fun _ => ?_))
  ·intro y0 y1 y2 y3 y4 y5 y6
   unfold peep_idle.j1
   repeat' (with_reducible first | apply ih0 | apply ih1 | apply ih2 | exact LeO.refl _ | exact LeO.none _ | refine LeO.ite ?_ ?_ | refine LeO.bind ?_ (fun _ => ?_))
  ·intro y0 y1 y2 y3 y4 y5 y6
   unfold peep_idle.j2
   repeat' (with_reducible first | apply ih0 | apply ih1 | apply ih2 | exact LeO.refl _ | exact LeO.none _ | refine LeO.ite ?_ ?_ | refine LeO.bind ?_ (fun _ => ?_))
theorem peep_idle.mono : ∀ a0 a1 a2 a3 a4 a5 k, LeO (peep_idle.f k a0 a1 a2 a3 a4 a5) (peep_idle.f (k + 1) a0 a1 a2 a3 a4 a5) := by
 intro a0 a1 a2 a3 a4 a5 k
 obtain ⟨ih0, ih1, ih2⟩ := peep_idle.mono_l k
 unfold peep_idle.f
 repeat' (with_reducible first | apply ih0 | apply ih1 | apply ih2 | exact LeO.refl _ | exact LeO.none _ | refine LeO.ite ?_ ?_ | refine LeO.bind ?_ (fun _ => ?_))
set_option maxHeartbeats 8000000 in
set_option maxRecDepth 100000 in
theorem peep_idle.calls (k : Nat) (a0_0 : Int) (a0_1 : Int) (a0_2 : Int) (a1_0 : Int) (a1_1 : Int) (a1_2 : Int) (r : Int) (w : World) (h : peep_idle.f k a0_0 a0_1 a0_2 a1_0 a1_1 a1_2 = some r) :
  Calls Tryd.prog 64 #[.agg #[.int .i64 a0_0, .int .i64 a0_1, .int .i64 a0_2], .agg #[.int .i64 a1_0, .int .i64 a1_1, .int .i64 a1_2]] w fun e w' => e = .returned (.int .i64 r) ∧ Below w.heap.size w w' := by
 have hu40 := Tryd.underlying40; have HB := Aside0.mk (Below.refl w.heap.size w); have H : (if a0_0 = 1 then (peep_idle.j0 k (a1_0 == 25) a0_0 a0_1 a0_2 a1_0 a1_1 a1_2) else (if a0_0 = 2 then (peep_idle.j0 k (a1_0 == 25) a0_0 a0_1 a0_2 a1_0 a1_1 a1_2) else (peep_idle.j0 k false a0_0 a0_1 a0_2 a1_0 a1_1 a1_2))) = some r := h; clear h; have HC3 := Aside0.mk H; clear H; go_enter Tryd.func64, Tryd.ntmps64
 go_upto_region 1 with (first | ((with_reducible refine gate_dst (N := 2) rfl ?_); refine bx 2 #[.int .i64 a0_0, .int .i64 a0_1, .int .i64 a0_2] 40 ?_; intro gb288 hg w4 hbox hb; have n_ := an4 (below_step bl hb) (hbox) (bg hg) (bg hg); clear HB; obtain ⟨HB, BK288, GW288, GE288⟩ := n_; clear hb hbox hg) | ((with_reducible refine gate_dst (N := 3) rfl ?_); refine bx 3 #[.int .i64 a1_0, .int .i64 a1_1, .int .i64 a1_2] 40 ?_; intro gb289 hg w5 hbox hb; have n_ := an7 (bu BK288.out hb) (below_step bl hb) (hbox) (bg hg) (bg hg) ((by rw [hg]; exact Nat.ne_of_lt (blk_lt (g := gb288) (o := .cells #[.int .i64 a0_0, .int .i64 a0_1, .int .i64 a0_2] 40 (0, 0)) bk) : gb288 ≠ gb289)) ((by rw [hg]; exact Nat.ne_of_gt (blk_lt (g := gb288) (o := .cells #[.int .i64 a0_0, .int .i64 a0_1, .int .i64 a0_2] 40 (0, 0)) bk) : gb289 ≠ gb288)); clear BK288 HB; obtain ⟨BK288, HB, BK289, GW289, GE289, NB288_289, NB289_288⟩ := n_; clear hb hbox hg))
 (try simp only [Act.put, List.setIfInBounds_toArray, List.set_cons_zero, List.set_cons_succ])
 go_cut [5] (fun v5 wc => ∃ (kq : Nat) (x5_2 : Bool), v5 = .bool x5_2 ∧ Aside0 (peep_idle.j0 kq x5_2 a0_0 a0_1 a0_2 a1_0 a1_1 a1_2 = some r) ∧ Aside0 (kq ≤ k) ∧ Aside0 (wc.heap[gb288]? = some (.cells #[.int .i64 a0_0, .int .i64 a0_1, .int .i64 a0_2] 40 (0, 0))) ∧ Aside0 (wc.heap[gb289]? = some (.cells #[.int .i64 a1_0, .int .i64 a1_1, .int .i64 a1_2] 40 (0, 0))) ∧ Aside0 (Below w.heap.size w wc))
 case first =>
  have H := HC3.out; clear HC3
  by_cases c6 : a0_0 = 1
  ·rw [if_pos c6] at H; obtain ⟨c6b0, c6b1⟩ := eqs c6; clear c6; (first | rw [c6b0] | (simp only [i64_w, i32_w]; rw [c6b0]) | skip); have H' := Aside0.mk H; clear H; have hnb7 := NB288_289.out; have hnc7 := NB289_288.out; obtain ⟨hcz8_0, hcz8_1, hcz8_2, hfz8_0, hfz8_1, hfz8_2⟩ := bc3 BK288.out; obtain ⟨hcz9_0, hcz9_1, hcz9_2, hfz9_0, hfz9_1, hfz9_2⟩ := bc3 BK289.out; go_wp2; go_meet
   case rel => exact ⟨_, ((a1_0 == 25)), pr, H', ⟨by first | omega | exact Nat.le_refl _⟩, ⟨bk⟩, ⟨bk⟩, ⟨bl⟩⟩
  ·rw [if_neg c6] at H; obtain ⟨c6b0, c6b1⟩ := eqf c6; (first | rw [c6b0] | (simp only [i64_w, i32_w]; rw [c6b0]) | skip); have HH_ := Aside0.mk H; clear H; have hnb11 := NB288_289.out; have hnc11 := NB289_288.out; obtain ⟨hcz12_0, hcz12_1, hcz12_2, hfz12_0, hfz12_1, hfz12_2⟩ := bc3 BK288.out; have H := HH_.out; clear HH_
   by_cases c10 : a0_0 = 2
   ·rw [if_pos c10] at H; obtain ⟨c10b0, c10b1⟩ := eqs c10; clear c10; have H' := Aside0.mk H; clear H; obtain ⟨hcz13_0, hcz13_1, hcz13_2, hfz13_0, hfz13_1, hfz13_2⟩ := bc3 BK289.out; go_wp2; go_meet
    case rel => exact ⟨_, ((a1_0 == 25)), pr, H', ⟨by first | omega | exact Nat.le_refl _⟩, ⟨bk⟩, ⟨bk⟩, ⟨bl⟩⟩
   ·rw [if_neg c10] at H; obtain ⟨c10b0, c10b1⟩ := eqf c10; have H' := Aside0.mk H; clear H; go_wp2; go_meet
    case rel => exact ⟨_, (false), pr, H', ⟨by first | omega | exact Nat.le_refl _⟩, ⟨bk⟩, ⟨bk⟩, ⟨bl⟩⟩
 case rest =>
  clear HC3; (try clear c1); (try clear p2); (try clear c6); (try clear c6b0); (try clear c6b1); (try clear c7); (try clear c10); (try clear c10b0); (try clear c10b1); (try clear c11); (try clear c14); (try clear hcz12_0); (try clear hcz12_1); (try clear hcz12_2); (try clear hcz13_0); (try clear hcz13_1); (try clear hcz13_2); (try clear hcz15_0); (try clear hcz15_1); (try clear hcz15_2); (try clear hcz8_0); (try clear hcz8_1); (try clear hcz8_2); (try clear hcz9_0); (try clear hcz9_1); (try clear hcz9_2); (try clear hfz12_0); (try clear hfz12_1); (try clear hfz12_2); (try clear hfz13_0); (try clear hfz13_1); (try clear hfz13_2); (try clear hfz15_0); (try clear hfz15_1); (try clear hfz15_2); (try clear hfz8_0); (try clear hfz8_1); (try clear hfz8_2); (try clear hfz9_0); (try clear hfz9_1); (try clear hfz9_2); obtain ⟨kq, x5_2, rfl, HA, HJ2, BK288, BK289, HB⟩ := hcut
  cases kq with
  | zero => exact absurd HA.out (by simp [peep_idle.j0])
  | succ kj2 =>
   have H := HA.out; clear HA; simp only [peep_idle.j0] at H
   by_cases c16 : x5_2 = true
   ·subst c16; rw [if_pos rfl] at H; obtain rfl := Option.some.inj H; go_wp2; go_ret; exact ⟨pe, bl⟩
   ·replace c16 := Bool.eq_false_iff.mpr c16; subst c16; rw [if_neg (show ¬ (false = true) by decide)] at H; have HC17 := Aside0.mk H; clear H
    go_upto_region 3 with (fail)
    go_cut [19] (fun v19 wc => ∃ (kq : Nat) (x19_16 : Bool), v19 = .bool x19_16 ∧ Aside0 (peep_idle.j1 kq x19_16 a0_0 a0_1 a0_2 a1_0 a1_1 a1_2 = some r) ∧ Aside0 (kq ≤ kj2) ∧ Aside0 (wc.heap[gb288]? = some (.cells #[.int .i64 a0_0, .int .i64 a0_1, .int .i64 a0_2] 40 (0, 0))) ∧ Aside0 (wc.heap[gb289]? = some (.cells #[.int .i64 a1_0, .int .i64 a1_1, .int .i64 a1_2] 40 (0, 0))) ∧ Aside0 (Below w.heap.size w wc))
    case first =>
     have H := HC17.out; clear HC17
     by_cases c18 : a0_0 = 1
     ·rw [if_pos c18] at H; obtain ⟨c18b0, c18b1⟩ := eqs c18; clear c18; (first | rw [c18b0] | (simp only [i64_w, i32_w]; rw [c18b0]) | skip); have HH_ := Aside0.mk H; clear H; have hnb21 := NB288_289.out; have hnc21 := NB289_288.out; obtain ⟨hcz22_0, hcz22_1, hcz22_2, hfz22_0, hfz22_1, hfz22_2⟩ := bc3 BK288.out; have H := HH_.out; clear HH_
      by_cases c19 : a0_1 = 0
      ·rw [if_pos c19] at H; obtain ⟨c19b0, c19b1⟩ := eqs c19; clear c19; have HH_ := Aside0.mk H; clear H; obtain ⟨hcz23_0, hcz23_1, hcz23_2, hfz23_0, hfz23_1, hfz23_2⟩ := bc3 BK289.out; have H := HH_.out; clear HH_
       by_cases c20 : a1_0 = 7
       ·rw [if_pos c20] at H; obtain ⟨c20b0, c20b1⟩ := eqs c20; clear c20; have H' := Aside0.mk H; clear H; go_wp2; go_meet
        case rel => exact ⟨_, (true), pr, H', ⟨by have := HJ2.out; first | omega | exact Nat.le_refl _⟩, ⟨bk⟩, ⟨bk⟩, ⟨bl⟩⟩
       ·rw [if_neg c20] at H; obtain ⟨c20b0, c20b1⟩ := eqf c20; have H' := Aside0.mk H; clear H; go_wp2; go_meet
        case rel => exact ⟨_, ((a1_0 == 8)), pr, H', ⟨by have := HJ2.out; first | omega | exact Nat.le_refl _⟩, ⟨bk⟩, ⟨bk⟩, ⟨bl⟩⟩
      ·rw [if_neg c19] at H; obtain ⟨c19b0, c19b1⟩ := eqf c19; have H' := Aside0.mk H; clear H; go_wp2; go_meet
       case rel => exact ⟨_, (false), pr, H', ⟨by have := HJ2.out; first | omega | exact Nat.le_refl _⟩, ⟨bk⟩, ⟨bk⟩, ⟨bl⟩⟩
     ·rw [if_neg c18] at H; obtain ⟨c18b0, c18b1⟩ := eqf c18; (first | rw [c18b0] | (simp only [i64_w, i32_w]; rw [c18b0]) | skip); have H' := Aside0.mk H; clear H; have hnb29 := NB288_289.out; have hnc29 := NB289_288.out; obtain ⟨hcz30_0, hcz30_1, hcz30_2, hfz30_0, hfz30_1, hfz30_2⟩ := bc3 BK288.out; go_wp2; go_meet
      case rel => exact ⟨_, (false), pr, H', ⟨by have := HJ2.out; first | omega | exact Nat.le_refl _⟩, ⟨bk⟩, ⟨bk⟩, ⟨bl⟩⟩
    case rest =>
     clear HC17; (try clear c1); (try clear c2); (try clear p2); (try clear c6); (try clear c6b0); (try clear c6b1); (try clear c7); (try clear c10); (try clear c10b0); (try clear c10b1); (try clear c11); (try clear c14); (try clear c16); (try clear c18); (try clear c18b0); (try clear c18b1); (try clear c19); (try clear c19b0); (try clear c19b1); (try clear c20); (try clear c20b0); (try clear c20b1); (try clear c21); (try clear c24); (try clear c27); (try clear c29); (try clear hcz12_0); (try clear hcz12_1); (try clear hcz12_2); (try clear hcz13_0); (try clear hcz13_1); (try clear hcz13_2); (try clear hcz15_0); (try clear hcz15_1); (try clear hcz15_2); (try clear hcz22_0); (try clear hcz22_1); (try clear hcz22_2); (try clear hcz23_0); (try clear hcz23_1); (try clear hcz23_2); (try clear hcz25_0); (try clear hcz25_1); (try clear hcz25_2); (try clear hcz26_0); (try clear hcz26_1); (try clear hcz26_2); (try clear hcz28_0); (try clear hcz28_1); (try clear hcz28_2); (try clear hcz30_0); (try clear hcz30_1); (try clear hcz30_2); (try clear hcz8_0); (try clear hcz8_1); (try clear hcz8_2); (try clear hcz9_0); (try clear hcz9_1); (try clear hcz9_2); (try clear hfz12_0); (try clear hfz12_1); (try clear hfz12_2); (try clear hfz13_0); (try clear hfz13_1); (try clear hfz13_2); (try clear hfz15_0); (try clear hfz15_1); (try clear hfz15_2); (try clear hfz22_0); (try clear hfz22_1); (try clear hfz22_2); (try clear hfz23_0); (try clear hfz23_1); (try clear hfz23_2); (try clear hfz25_0); (try clear hfz25_1); (try clear hfz25_2); (try clear hfz26_0); (try clear hfz26_1); (try clear hfz26_2); (try clear hfz28_0); (try clear hfz28_1); (try clear hfz28_2); (try clear hfz30_0); (try clear hfz30_1); (try clear hfz30_2); (try clear hfz8_0); (try clear hfz8_1); (try clear hfz8_2); (try clear hfz9_0); (try clear hfz9_1); (try clear hfz9_2); (try clear p2); obtain ⟨kq, x19_16, rfl, HA, HJ16, BK288, BK289, HB⟩ := hcut
     cases kq with
     | zero => exact absurd HA.out (by simp [peep_idle.j1])
     | succ kj16 =>
      have H := HA.out; clear HA; simp only [peep_idle.j1] at H
      by_cases c31 : x19_16 = true
      ·subst c31; rw [if_pos rfl] at H; obtain rfl := Option.some.inj H; go_wp2; go_ret; exact ⟨pe, bl⟩
      ·replace c31 := Bool.eq_false_iff.mpr c31; subst c31; rw [if_neg (show ¬ (false = true) by decide)] at H; have HC32 := Aside0.mk H; clear H
       go_upto_region 5 with (fail)
       go_cut [38] (fun v38 wc => ∃ (kq : Nat) (x38_31 : Bool), v38 = .bool x38_31 ∧ Aside0 (peep_idle.j2 kq x38_31 a0_0 a0_1 a0_2 a1_0 a1_1 a1_2 = some r) ∧ Aside0 (kq ≤ kj16) ∧ Aside0 (wc.heap[gb288]? = some (.cells #[.int .i64 a0_0, .int .i64 a0_1, .int .i64 a0_2] 40 (0, 0))) ∧ Aside0 (wc.heap[gb289]? = some (.cells #[.int .i64 a1_0, .int .i64 a1_1, .int .i64 a1_2] 40 (0, 0))) ∧ Aside0 (Below w.heap.size w wc))
       case first =>
        have H := HC32.out; clear HC32
        by_cases c33 : a0_0 = 1
        ·rw [if_pos c33] at H; obtain ⟨c33b0, c33b1⟩ := eqs c33; clear c33; (first | rw [c33b0] | (simp only [i64_w, i32_w]; rw [c33b0]) | skip); have HH_ := Aside0.mk H; clear H; have hnb36 := NB288_289.out; have hnc36 := NB289_288.out; obtain ⟨hcz37_0, hcz37_1, hcz37_2, hfz37_0, hfz37_1, hfz37_2⟩ := bc3 BK288.out; have H := HH_.out; clear HH_
         by_cases c34 : a0_1 = 1
         ·rw [if_pos c34] at H; obtain ⟨c34b0, c34b1⟩ := eqs c34; clear c34; have HH_ := Aside0.mk H; clear H; obtain ⟨hcz38_0, hcz38_1, hcz38_2, hfz38_0, hfz38_1, hfz38_2⟩ := bc3 BK289.out; have H := HH_.out; clear HH_
          by_cases c35 : a1_0 = 9
          ·rw [if_pos c35] at H; obtain ⟨c35b0, c35b1⟩ := eqs c35; clear c35; have H' := Aside0.mk H; clear H; go_wp2; go_meet
           case rel => exact ⟨_, (true), pr, H', ⟨by have := HJ2.out; have := HJ16.out; first | omega | exact Nat.le_refl _⟩, ⟨bk⟩, ⟨bk⟩, ⟨bl⟩⟩
          ·rw [if_neg c35] at H; obtain ⟨c35b0, c35b1⟩ := eqf c35; have H' := Aside0.mk H; clear H; go_wp2; go_meet
           case rel => exact ⟨_, ((a1_0 == 10)), pr, H', ⟨by have := HJ2.out; have := HJ16.out; first | omega | exact Nat.le_refl _⟩, ⟨bk⟩, ⟨bk⟩, ⟨bl⟩⟩
         ·rw [if_neg c34] at H; obtain ⟨c34b0, c34b1⟩ := eqf c34; have H' := Aside0.mk H; clear H; go_wp2; go_meet
          case rel => exact ⟨_, (false), pr, H', ⟨by have := HJ2.out; have := HJ16.out; first | omega | exact Nat.le_refl _⟩, ⟨bk⟩, ⟨bk⟩, ⟨bl⟩⟩
        ·rw [if_neg c33] at H; obtain ⟨c33b0, c33b1⟩ := eqf c33; (first | rw [c33b0] | (simp only [i64_w, i32_w]; rw [c33b0]) | skip); have H' := Aside0.mk H; clear H; have hnb44 := NB288_289.out; have hnc44 := NB289_288.out; obtain ⟨hcz45_0, hcz45_1, hcz45_2, hfz45_0, hfz45_1, hfz45_2⟩ := bc3 BK288.out; go_wp2; go_meet
         case rel => exact ⟨_, (false), pr, H', ⟨by have := HJ2.out; have := HJ16.out; first | omega | exact Nat.le_refl _⟩, ⟨bk⟩, ⟨bk⟩, ⟨bl⟩⟩
       case rest =>
        clear HC32; (try clear c1); (try clear c2); (try clear p2); (try clear c3); (try clear c4); (try clear c6); (try clear c6b0); (try clear c6b1); (try clear c7); (try clear c10); (try clear c10b0); (try clear c10b1); (try clear c11); (try clear c14); (try clear c16); (try clear c18); (try clear c18b0); (try clear c18b1); (try clear c19); (try clear c19b0); (try clear c19b1); (try clear c20); (try clear c20b0); (try clear c20b1); (try clear c21); (try clear c24); (try clear c27); (try clear c29); (try clear c31); (try clear c33); (try clear c33b0); (try clear c33b1); (try clear c34); (try clear c34b0); (try clear c34b1); (try clear c35); (try clear c35b0); (try clear c35b1); (try clear c36); (try clear c39); (try clear c42); (try clear c44); (try clear hcz12_0); (try clear hcz12_1); (try clear hcz12_2); (try clear hcz13_0); (try clear hcz13_1); (try clear hcz13_2); (try clear hcz15_0); (try clear hcz15_1); (try clear hcz15_2); (try clear hcz22_0); (try clear hcz22_1); (try clear hcz22_2); (try clear hcz23_0); (try clear hcz23_1); (try clear hcz23_2); (try clear hcz25_0); (try clear hcz25_1); (try clear hcz25_2); (try clear hcz26_0); (try clear hcz26_1); (try clear hcz26_2); (try clear hcz28_0); (try clear hcz28_1); (try clear hcz28_2); (try clear hcz30_0); (try clear hcz30_1); (try clear hcz30_2); (try clear hcz37_0); (try clear hcz37_1); (try clear hcz37_2); (try clear hcz38_0); (try clear hcz38_1); (try clear hcz38_2); (try clear hcz40_0); (try clear hcz40_1); (try clear hcz40_2); (try clear hcz41_0); (try clear hcz41_1); (try clear hcz41_2); (try clear hcz43_0); (try clear hcz43_1); (try clear hcz43_2); (try clear hcz45_0); (try clear hcz45_1); (try clear hcz45_2); (try clear hcz8_0); (try clear hcz8_1); (try clear hcz8_2); (try clear hcz9_0); (try clear hcz9_1); (try clear hcz9_2); (try clear hfz12_0); (try clear hfz12_1); (try clear hfz12_2); (try clear hfz13_0); (try clear hfz13_1); (try clear hfz13_2); (try clear hfz15_0); (try clear hfz15_1); (try clear hfz15_2); (try clear hfz22_0); (try clear hfz22_1); (try clear hfz22_2); (try clear hfz23_0); (try clear hfz23_1); (try clear hfz23_2); (try clear hfz25_0); (try clear hfz25_1); (try clear hfz25_2); (try clear hfz26_0); (try clear hfz26_1); (try clear hfz26_2); (try clear hfz28_0); (try clear hfz28_1); (try clear hfz28_2); (try clear hfz30_0); (try clear hfz30_1); (try clear hfz30_2); (try clear hfz37_0); (try clear hfz37_1); (try clear hfz37_2); (try clear hfz38_0); (try clear hfz38_1); (try clear hfz38_2); (try clear hfz40_0); (try clear hfz40_1); (try clear hfz40_2); (try clear hfz41_0); (try clear hfz41_1); (try clear hfz41_2); (try clear hfz43_0); (try clear hfz43_1); (try clear hfz43_2); (try clear hfz45_0); (try clear hfz45_1); (try clear hfz45_2); (try clear hfz8_0); (try clear hfz8_1); (try clear hfz8_2); (try clear hfz9_0); (try clear hfz9_1); (try clear hfz9_2); (try clear p2); obtain ⟨kq, x38_31, rfl, HA, HJ31, BK288, BK289, HB⟩ := hcut
        cases kq with
        | zero => exact absurd HA.out (by simp [peep_idle.j2])
        | succ kj31 =>
         have H := HA.out; clear HA; simp only [peep_idle.j2] at H
         by_cases c46 : x38_31 = true
         ·subst c46; rw [if_pos rfl] at H; obtain rfl := Option.some.inj H; go_wp2; go_ret; exact ⟨pe, bl⟩
         ·replace c46 := Bool.eq_false_iff.mpr c46; subst c46; rw [if_neg (show ¬ (false = true) by decide)] at H; have HH_ := Aside0.mk H; clear H; have hnb50 := NB288_289.out; have hnc50 := NB289_288.out; obtain ⟨hcz51_0, hcz51_1, hcz51_2, hfz51_0, hfz51_1, hfz51_2⟩ := bc3 BK288.out; have H := HH_.out; clear HH_
          by_cases c47 : a0_0 = 2
          ·rw [if_pos c47] at H; obtain ⟨c47b0, c47b1⟩ := eqs c47; clear c47; have HH_ := Aside0.mk H; clear H; obtain ⟨hcz52_0, hcz52_1, hcz52_2, hfz52_0, hfz52_1, hfz52_2⟩ := bc3 BK289.out; have H := HH_.out; clear HH_
           by_cases c48 : a1_0 = 3
           ·rw [if_pos c48] at H; obtain ⟨c48b0, c48b1⟩ := eqs c48; clear c48; have HH_ := Aside0.mk H; clear H; have H := HH_.out; clear HH_
            by_cases c49 : a0_1 = a1_1
            ·rw [if_pos c49] at H; obtain ⟨c49b0, c49b1⟩ := eqs c49; clear c49; obtain rfl := Option.some.inj H; go_wp2; go_ret; exact ⟨pe, bl⟩
            ·rw [if_neg c49] at H; obtain ⟨c49b0, c49b1⟩ := eqf c49; obtain rfl := Option.some.inj H; go_wp2; go_ret; exact ⟨pe, bl⟩
           ·rw [if_neg c48] at H; obtain ⟨c48b0, c48b1⟩ := eqf c48; obtain rfl := Option.some.inj H; go_wp2; go_ret; exact ⟨pe, bl⟩
          ·rw [if_neg c47] at H; obtain ⟨c47b0, c47b1⟩ := eqf c47; obtain rfl := Option.some.inj H; go_wp2; go_ret; exact ⟨pe, bl⟩

end Go.Proofs.YtmbjogpphegoaaaDoor.P
