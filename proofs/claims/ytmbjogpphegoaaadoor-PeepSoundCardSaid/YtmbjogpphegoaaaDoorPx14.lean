-- Written by a program of this session (its own turn of the print: wip/patch_print.py), not by hand. Lean checks it.
import Derived.Test.YtmbjogpphegoaaaDoorWZip3
import Derived.Test.YtmbjogpphegoaaaDoorPx0
namespace Go.Proofs.YtmbjogpphegoaaaDoor.P
open Go.RowKit Go.Proofs.YtmbjogpphegoaaaDoorW.PrintWords Go.Proofs.YtmbjogpphegoaaaDoorW.PrintLast Go.Proofs.YtmbjogpphegoaaaDoorW.PrintMore
attribute [local go_sem] max2_int min2_int max_two min_two max_three min_three max_four min_four
set_option linter.unusedVariables false
set_option linter.unusedSimpArgs false

/-! ### peep_pair: function 65 -/
mutual
def peep_pair.j0 : Nat → Bool → Int → Int → Int → Int → Int → Int → Option (Int × Int × (List (S40)))
 | 0, _, _, _, _, _, _, _ => none
 | k + 1, x5, x291000, x291001, x291002, x292000, x292001, x292002 => if x5 = true then (some (10, 2, (([(⟨17, x292001, 0⟩ : S40)] : List (S40))))) else (if x291000 = 1 then (peep_pair.j1 k (x292000 == 18) x291000 x291001 x291002 x292000 x292001 x292002) else (peep_pair.j1 k false x291000 x291001 x291002 x292000 x292001 x292002))
def peep_pair.j1 : Nat → Bool → Int → Int → Int → Int → Int → Int → Option (Int × Int × (List (S40)))
 | 0, _, _, _, _, _, _, _ => none
 | k + 1, x24, x291000, x291001, x291002, x292000, x292001, x292002 => if x24 = true then (some (10, 2, ([] : List (S40)))) else (if x291000 = 1 then (if x291001 = 0 then (peep_pair.j2 k false x291000 x291001 x291002 x292000 x292001 x292002) else (peep_pair.j2 k (x292000 == 23) x291000 x291001 x291002 x292000 x292001 x292002)) else (peep_pair.j2 k false x291000 x291001 x291002 x292000 x292001 x292002))
def peep_pair.j2 : Nat → Bool → Int → Int → Int → Int → Int → Int → Option (Int × Int × (List (S40)))
 | 0, _, _, _, _, _, _, _ => none
 | k + 1, x34, x291000, x291001, x291002, x292000, x292001, x292002 => if x34 = true then (some (11, 2, ([] : List (S40)))) else (if x291000 = 6 then (if x292000 = 6 then (if x292001 = (wrap64 (x291001 + x291002)) then (if (wrap64 (x291002 + x292002)) ≤ 64 then (some (12, 2, (([(⟨6, x291001, wrap64 (x291002 + x292002)⟩ : S40)] : List (S40))))) else (some (0, 0, ([] : List (S40))))) else (some (0, 0, ([] : List (S40))))) else (some (0, 0, ([] : List (S40))))) else (some (0, 0, ([] : List (S40)))))
end
def peep_pair.f (k : Nat) (a0_0 : Int) (a0_1 : Int) (a0_2 : Int) (a1_0 : Int) (a1_1 : Int) (a1_2 : Int) : Option (Int × Int × (List (S40))) := if a0_0 = 1 then (if a1_0 = 18 then (peep_pair.j0 k (a0_1 == 0) a0_0 a0_1 a0_2 a1_0 a1_1 a1_2) else (peep_pair.j0 k false a0_0 a0_1 a0_2 a1_0 a1_1 a1_2)) else (peep_pair.j0 k false a0_0 a0_1 a0_2 a1_0 a1_1 a1_2)
theorem peep_pair.mono_l : ∀ k, (∀ y0 y1 y2 y3 y4 y5 y6, LeO (peep_pair.j0 k y0 y1 y2 y3 y4 y5 y6) (peep_pair.j0 (k + 1) y0 y1 y2 y3 y4 y5 y6)) ∧ (∀ y0 y1 y2 y3 y4 y5 y6, LeO (peep_pair.j1 k y0 y1 y2 y3 y4 y5 y6) (peep_pair.j1 (k + 1) y0 y1 y2 y3 y4 y5 y6)) ∧ (∀ y0 y1 y2 y3 y4 y5 y6, LeO (peep_pair.j2 k y0 y1 y2 y3 y4 y5 y6) (peep_pair.j2 (k + 1) y0 y1 y2 y3 y4 y5 y6))
 | 0 => ⟨fun _ _ _ _ _ _ _ r h => by simp [peep_pair.j0] at h, fun _ _ _ _ _ _ _ r h => by simp [peep_pair.j1] at h, fun _ _ _ _ _ _ _ r h => by simp [peep_pair.j2] at h⟩
 | k + 1 => by
  obtain ⟨ih0, ih1, ih2⟩ := peep_pair.mono_l k
  refine ⟨?_, ?_, ?_⟩
  ·intro y0 y1 y2 y3 y4 y5 y6
   unfold peep_pair.j0
   repeat' (with_reducible first | apply ih0 | apply ih1 | apply ih2 | exact LeO.refl _ | exact LeO.none _ | refine LeO.ite ?_ ?_ | refine LeO.bind ?_ (fun _ => ?_))
  ·intro y0 y1 y2 y3 y4 y5 y6
   unfold peep_pair.j1
   repeat' (with_reducible first | apply ih0 | apply ih1 | apply ih2 | exact LeO.refl _ | exact LeO.none _ | refine LeO.ite ?_ ?_ | refine LeO.bind ?_ (fun _ => ?_))
  ·intro y0 y1 y2 y3 y4 y5 y6
   unfold peep_pair.j2
   repeat' (with_reducible first | apply ih0 | apply ih1 | apply ih2 | exact LeO.refl _ | exact LeO.none _ | refine LeO.ite ?_ ?_ | refine LeO.bind ?_ (fun _ => ?_))
theorem peep_pair.mono : ∀ a0 a1 a2 a3 a4 a5 k, LeO (peep_pair.f k a0 a1 a2 a3 a4 a5) (peep_pair.f (k + 1) a0 a1 a2 a3 a4 a5) := by
 intro a0 a1 a2 a3 a4 a5 k
 obtain ⟨ih0, ih1, ih2⟩ := peep_pair.mono_l k
 unfold peep_pair.f
 repeat' (with_reducible first | apply ih0 | apply ih1 | apply ih2 | exact LeO.refl _ | exact LeO.none _ | refine LeO.ite ?_ ?_ | refine LeO.bind ?_ (fun _ => ?_))
set_option maxHeartbeats 8000000 in
set_option maxRecDepth 100000 in
theorem peep_pair.calls (k : Nat) (a0_0 : Int) (a0_1 : Int) (a0_2 : Int) (a1_0 : Int) (a1_1 : Int) (a1_2 : Int) (r1 : Int) (r2 : Int) (r3 : List (S40)) (w : World) (h : peep_pair.f k a0_0 a0_1 a0_2 a1_0 a1_1 a1_2 = some (r1, r2, r3)) :
  Calls Tryd.prog 65 #[.agg #[.int .i64 a0_0, .int .i64 a0_1, .int .i64 a0_2], .agg #[.int .i64 a1_0, .int .i64 a1_1, .int .i64 a1_2]] w fun e w' => ∃ v2_ : Value, e = .returned (.agg #[.int .i64 r1, .int .i64 r2, v2_]) ∧ Kd.R k40 40 w' w.heap.size (fun _ => True) v2_ r3 ∧ Below w.heap.size w w' := by
 have hu40 := Tryd.underlying40; have hu64 := Tryd.underlying64; have HB := Aside0.mk (Below.refl w.heap.size w); have H : (if a0_0 = 1 then (if a1_0 = 18 then (peep_pair.j0 k (a0_1 == 0) a0_0 a0_1 a0_2 a1_0 a1_1 a1_2) else (peep_pair.j0 k false a0_0 a0_1 a0_2 a1_0 a1_1 a1_2)) else (peep_pair.j0 k false a0_0 a0_1 a0_2 a1_0 a1_1 a1_2)) = some (r1, r2, r3) := h; clear h; have HC3 := Aside0.mk H; clear H; go_enter Tryd.func65, Tryd.ntmps65
 go_upto_region 1 with (first | ((with_reducible refine gate_dst (N := 2) rfl ?_); refine bx 2 #[.int .i64 a0_0, .int .i64 a0_1, .int .i64 a0_2] 40 ?_; intro gb290 hg w4 hbox hb; have n_ := an4 (below_step bl hb) (hbox) (bg hg) (bg hg); clear HB; obtain ⟨HB, BK290, GW290, GE290⟩ := n_; clear hb hbox hg) | ((with_reducible refine gate_dst (N := 3) rfl ?_); refine bx 3 #[.int .i64 a1_0, .int .i64 a1_1, .int .i64 a1_2] 40 ?_; intro gb291 hg w5 hbox hb; have n_ := an7 (bu BK290.out hb) (below_step bl hb) (hbox) (bg hg) (bg hg) ((by rw [hg]; exact Nat.ne_of_lt (blk_lt (g := gb290) (o := .cells #[.int .i64 a0_0, .int .i64 a0_1, .int .i64 a0_2] 40 (0, 0)) bk) : gb290 ≠ gb291)) ((by rw [hg]; exact Nat.ne_of_gt (blk_lt (g := gb290) (o := .cells #[.int .i64 a0_0, .int .i64 a0_1, .int .i64 a0_2] 40 (0, 0)) bk) : gb291 ≠ gb290)); clear BK290 HB; obtain ⟨BK290, HB, BK291, GW291, GE291, NB290_291, NB291_290⟩ := n_; clear hb hbox hg) | ((with_reducible refine gate_dst (N := 4) rfl ?_); refine bx 4 #[.int .i64 0, .int .i64 0, .slice none 0 0] 64 ?_; intro gb292 hg w6 hbox hb; have n_ := an10 (bu BK290.out hb) (bu BK291.out hb) (below_step bl hb) (hbox) (bg hg) (bg hg) ((by rw [hg]; exact Nat.ne_of_lt (blk_lt (g := gb290) (o := .cells #[.int .i64 a0_0, .int .i64 a0_1, .int .i64 a0_2] 40 (0, 0)) bk) : gb290 ≠ gb292)) ((by rw [hg]; exact Nat.ne_of_gt (blk_lt (g := gb290) (o := .cells #[.int .i64 a0_0, .int .i64 a0_1, .int .i64 a0_2] 40 (0, 0)) bk) : gb292 ≠ gb290)) ((by rw [hg]; exact Nat.ne_of_lt (blk_lt (g := gb291) (o := .cells #[.int .i64 a1_0, .int .i64 a1_1, .int .i64 a1_2] 40 (0, 0)) bk) : gb291 ≠ gb292)) ((by rw [hg]; exact Nat.ne_of_gt (blk_lt (g := gb291) (o := .cells #[.int .i64 a1_0, .int .i64 a1_1, .int .i64 a1_2] 40 (0, 0)) bk) : gb292 ≠ gb291)); clear BK290 BK291 HB; obtain ⟨BK290, BK291, HB, BK292, GW292, GE292, NB290_292, NB292_290, NB291_292, NB292_291⟩ := n_; clear hb hbox hg))
 (try simp only [Act.put, List.setIfInBounds_toArray, List.set_cons_zero, List.set_cons_succ])
 go_cut [5] (fun v5 wc => ∃ (kq : Nat) (x5_2 : Bool), v5 = .bool x5_2 ∧ Aside0 (peep_pair.j0 kq x5_2 a0_0 a0_1 a0_2 a1_0 a1_1 a1_2 = some (r1, r2, r3)) ∧ Aside0 (kq ≤ k) ∧ Aside0 (wc.heap[gb290]? = some (.cells #[.int .i64 a0_0, .int .i64 a0_1, .int .i64 a0_2] 40 (0, 0))) ∧ Aside0 (wc.heap[gb291]? = some (.cells #[.int .i64 a1_0, .int .i64 a1_1, .int .i64 a1_2] 40 (0, 0))) ∧ Aside0 (wc.heap[gb292]? = some (.cells #[.int .i64 0, .int .i64 0, (.slice none 0 0)] 64 (0, 0))) ∧ Aside0 (Below w.heap.size w wc))
 case first =>
  have H := HC3.out; clear HC3
  by_cases c7 : a0_0 = 1
  ·rw [if_pos c7] at H; obtain ⟨c7b0, c7b1⟩ := eqs c7; clear c7; (first | rw [c7b0] | (simp only [i64_w, i32_w]; rw [c7b0]) | skip); have HH_ := Aside0.mk H; clear H; have hnb9 := NB290_291.out; have hnc9 := NB291_290.out; have hnb10 := NB290_292.out; have hnc10 := NB292_290.out; obtain ⟨hcz11_0, hcz11_1, hcz11_2, hfz11_0, hfz11_1, hfz11_2⟩ := bc3 BK290.out; have hnb12 := NB291_292.out; have hnc12 := NB292_291.out; obtain ⟨hcz13_0, hcz13_1, hcz13_2, hfz13_0, hfz13_1, hfz13_2⟩ := bc3 BK291.out; have H := HH_.out; clear HH_
   by_cases c8 : a1_0 = 18
   ·rw [if_pos c8] at H; obtain ⟨c8b0, c8b1⟩ := eqs c8; clear c8; have H' := Aside0.mk H; clear H; go_wp2; go_meet
    case rel => exact ⟨_, ((a0_1 == 0)), pr, H', ⟨by first | omega | exact Nat.le_refl _⟩, ⟨bk⟩, ⟨bk⟩, ⟨bk⟩, ⟨bl⟩⟩
   ·rw [if_neg c8] at H; obtain ⟨c8b0, c8b1⟩ := eqf c8; have H' := Aside0.mk H; clear H; go_wp2; go_meet
    case rel => exact ⟨_, (false), pr, H', ⟨by first | omega | exact Nat.le_refl _⟩, ⟨bk⟩, ⟨bk⟩, ⟨bk⟩, ⟨bl⟩⟩
  ·rw [if_neg c7] at H; obtain ⟨c7b0, c7b1⟩ := eqf c7; (first | rw [c7b0] | (simp only [i64_w, i32_w]; rw [c7b0]) | skip); have H' := Aside0.mk H; clear H; have hnb19 := NB290_291.out; have hnc19 := NB291_290.out; have hnb20 := NB290_292.out; have hnc20 := NB292_290.out; obtain ⟨hcz21_0, hcz21_1, hcz21_2, hfz21_0, hfz21_1, hfz21_2⟩ := bc3 BK290.out; go_wp2; go_meet
   case rel => exact ⟨_, (false), pr, H', ⟨by first | omega | exact Nat.le_refl _⟩, ⟨bk⟩, ⟨bk⟩, ⟨bk⟩, ⟨bl⟩⟩
 case rest =>
  clear HC3; obtain ⟨kq, x5_2, rfl, HA, HJ2, BK290, BK291, BK292, HB⟩ := hcut
  cases kq with
  | zero => exact absurd HA.out (by simp [peep_pair.j0])
  | succ kj2 =>
   have H := HA.out; clear HA; simp only [peep_pair.j0] at H
   by_cases c22 : x5_2 = true
   ·subst c22; rw [if_pos rfl] at H; obtain ⟨y293, hy293⟩ : ∃ y_ : List (S40), y_ = (([(⟨17, a1_1, 0⟩ : S40)] : List (S40))) := ⟨_, rfl⟩; (first | replace H := hs hy293 H | rw [← hy293] at H)
    have Ny293 := Aside0.mk hy293; clear hy293; simp only [Option.some.injEq, Prod.mk.injEq] at H; obtain ⟨rfl, rfl, rfl⟩ := H; have hnb23 := NB291_290.out; have hnc23 := NB290_291.out; have hnb24 := NB291_292.out; have hnc24 := NB292_291.out; obtain ⟨hcz25_0, hcz25_1, hcz25_2, hfz25_0, hfz25_1, hfz25_2⟩ := bc3 BK291.out
    go_wp2_with (first | ((with_reducible refine gate_dst (N := 22) rfl ?_); refine Kd.R_lit k40 _ 40 ?hg (N := 22) ?hd (xs := ([(⟨17, a1_1, 0⟩ : S40)] : List (S40))) (inner := [.int .i64 17, .int .i64 a1_1, .int .i64 0]) (ok := fun _ => True) (okp := fun _ => True) ?hr ?hp (fun _ hk => hk) trivial (Below.refl _ _) (Nat.le_refl _) (by simp) ?_; (case hd => rfl); (case hg => rfl); (case hr => first | (go_simp; done) | (go_simp; rfl)); (case hp => exact (Reps.c3 (show Kd.M k40 _ _ _ (⟨17, a1_1, 0⟩ : S40) [.int .i64 17, .int .i64 a1_1, .int .i64 0] from (k40_mkM _ _ _ (⟨17, a1_1, 0⟩ : S40) )) (Reps.none _ _))); intro v294 w26 ho27 hb hg_ hnew_; clear hg_ hnew_; (first | rw [← Ny293.out] at ho27 | (simp only [Int.reduceToNat] at ho27; rw [← Ny293.out] at ho27)); have n_ := an5 (Kd.R_lower (Kd.R_newB (Kd.R_newB ho27 (g := gb290) (o := .cells #[.int .i64 a0_0, .int .i64 a0_1, .int .i64 a0_2] 40 (0, 0)) bk) (g := gb291) (o := .cells #[.int .i64 a1_0, .int .i64 a1_1, .int .i64 a1_2] 40 (0, 0)) bk) (below_size bl)) (bu BK290.out hb) (bu BK291.out hb) (bu BK292.out hb) (below_step bl hb); clear BK290 BK291 BK292 HB; obtain ⟨HO295, BK290, BK291, BK292, HB⟩ := n_; clear hb ho27; obtain ⟨Ao28, co28, eo28⟩ := Kd.R_slice HO295.out; subst eo28; have hnb29 := NB292_290.out; have hnc29 := NB290_292.out; obtain ⟨hcz30_0, hcz30_1, hcz30_2⟩ := bd3 BK292.out; have hfz30_0 := blk_frozen BK292.out 0; have hfz30_1 := blk_frozen BK292.out 1; have hfz30_2 := blk_frozen BK292.out 2))
    refine bodyPost_ret (results_cell_row rfl _ _ gb292 64 #[.int .i64 10, .int .i64 2, .slice Ao28 y293.length co28] (0, 0) _ rfl (by exact bp3 (bq BK292.out)) Tryd.underlying64 rfl (by kernel_rfl)) rfl ?_
    exact ⟨_, pe, by (with_reducible repeat (first | apply Kd.R_alloc | apply Kd.R_drewN | apply Kd.R_drew)); exact Kd.R_mono (rf3 (g := gb292) (Kd.R_types HO295.out BK292.out (by decide)) (fun _ hk => hk.2)) (fun _ hk => trivial), bl⟩
   ·replace c22 := Bool.eq_false_iff.mpr c22; subst c22; rw [if_neg (show ¬ (false = true) by decide)] at H; have HC31 := Aside0.mk H; clear H
    go_upto_region 3 with (fail)
    go_cut [24] (fun v24 wc => ∃ (kq : Nat) (x24_30 : Bool), v24 = .bool x24_30 ∧ Aside0 (peep_pair.j1 kq x24_30 a0_0 a0_1 a0_2 a1_0 a1_1 a1_2 = some (r1, r2, r3)) ∧ Aside0 (kq ≤ kj2) ∧ Aside0 (wc.heap[gb290]? = some (.cells #[.int .i64 a0_0, .int .i64 a0_1, .int .i64 a0_2] 40 (0, 0))) ∧ Aside0 (wc.heap[gb291]? = some (.cells #[.int .i64 a1_0, .int .i64 a1_1, .int .i64 a1_2] 40 (0, 0))) ∧ Aside0 (wc.heap[gb292]? = some (.cells #[.int .i64 0, .int .i64 0, (.slice none 0 0)] 64 (0, 0))) ∧ Aside0 (Below w.heap.size w wc))
    case first =>
     have H := HC31.out; clear HC31
     by_cases c32 : a0_0 = 1
     ·rw [if_pos c32] at H; obtain ⟨c32b0, c32b1⟩ := eqs c32; clear c32; (first | rw [c32b0] | (simp only [i64_w, i32_w]; rw [c32b0]) | skip); have H' := Aside0.mk H; clear H; have hnb33 := NB290_291.out; have hnc33 := NB291_290.out; have hnb34 := NB290_292.out; have hnc34 := NB292_290.out; obtain ⟨hcz35_0, hcz35_1, hcz35_2, hfz35_0, hfz35_1, hfz35_2⟩ := bc3 BK290.out; have hnb36 := NB291_292.out; have hnc36 := NB292_291.out; obtain ⟨hcz37_0, hcz37_1, hcz37_2, hfz37_0, hfz37_1, hfz37_2⟩ := bc3 BK291.out; go_wp2; go_meet
      case rel => exact ⟨_, ((a1_0 == 18)), pr, H', ⟨by have := HJ2.out; first | omega | exact Nat.le_refl _⟩, ⟨bk⟩, ⟨bk⟩, ⟨bk⟩, ⟨bl⟩⟩
     ·rw [if_neg c32] at H; obtain ⟨c32b0, c32b1⟩ := eqf c32; (first | rw [c32b0] | (simp only [i64_w, i32_w]; rw [c32b0]) | skip); have H' := Aside0.mk H; clear H; have hnb38 := NB290_291.out; have hnc38 := NB291_290.out; have hnb39 := NB290_292.out; have hnc39 := NB292_290.out; obtain ⟨hcz40_0, hcz40_1, hcz40_2, hfz40_0, hfz40_1, hfz40_2⟩ := bc3 BK290.out; go_wp2; go_meet
      case rel => exact ⟨_, (false), pr, H', ⟨by have := HJ2.out; first | omega | exact Nat.le_refl _⟩, ⟨bk⟩, ⟨bk⟩, ⟨bk⟩, ⟨bl⟩⟩
    case rest =>
     clear HC31; obtain ⟨kq, x24_30, rfl, HA, HJ30, BK290, BK291, BK292, HB⟩ := hcut
     cases kq with
     | zero => exact absurd HA.out (by simp [peep_pair.j1])
     | succ kj30 =>
      have H := HA.out; clear HA; simp only [peep_pair.j1] at H
      by_cases c41 : x24_30 = true
      ·subst c41; rw [if_pos rfl] at H; simp only [Option.some.injEq, Prod.mk.injEq] at H; obtain ⟨rfl, rfl, rfl⟩ := H; have hnb42 := NB292_290.out; have hnc42 := NB290_292.out; have hnb43 := NB292_291.out; have hnc43 := NB291_292.out; obtain ⟨hcz44_0, hcz44_1, hcz44_2, hfz44_0, hfz44_1, hfz44_2⟩ := bc3 BK292.out; go_wp2
       refine bodyPost_ret (results_cell_row rfl _ _ gb292 64 #[.int .i64 10, .int .i64 2, .slice none 0 0] (0, 0) _ rfl (by exact bp3 (bq BK292.out)) Tryd.underlying64 rfl (by kernel_rfl)) rfl ?_
       exact ⟨_, pe, pn, bl⟩
      ·replace c41 := Bool.eq_false_iff.mpr c41; subst c41; rw [if_neg (show ¬ (false = true) by decide)] at H; have HC45 := Aside0.mk H; clear H
       go_upto_region 5 with (fail)
       go_cut [34] (fun v34 wc => ∃ (kq : Nat) (x34_44 : Bool), v34 = .bool x34_44 ∧ Aside0 (peep_pair.j2 kq x34_44 a0_0 a0_1 a0_2 a1_0 a1_1 a1_2 = some (r1, r2, r3)) ∧ Aside0 (kq ≤ kj30) ∧ Aside0 (wc.heap[gb290]? = some (.cells #[.int .i64 a0_0, .int .i64 a0_1, .int .i64 a0_2] 40 (0, 0))) ∧ Aside0 (wc.heap[gb291]? = some (.cells #[.int .i64 a1_0, .int .i64 a1_1, .int .i64 a1_2] 40 (0, 0))) ∧ Aside0 (wc.heap[gb292]? = some (.cells #[.int .i64 0, .int .i64 0, (.slice none 0 0)] 64 (0, 0))) ∧ Aside0 (Below w.heap.size w wc))
       case first =>
        have H := HC45.out; clear HC45
        by_cases c46 : a0_0 = 1
        ·rw [if_pos c46] at H; obtain ⟨c46b0, c46b1⟩ := eqs c46; clear c46; (first | rw [c46b0] | (simp only [i64_w, i32_w]; rw [c46b0]) | skip); have HH_ := Aside0.mk H; clear H; have hnb48 := NB290_291.out; have hnc48 := NB291_290.out; have hnb49 := NB290_292.out; have hnc49 := NB292_290.out; obtain ⟨hcz50_0, hcz50_1, hcz50_2, hfz50_0, hfz50_1, hfz50_2⟩ := bc3 BK290.out; have H := HH_.out; clear HH_
         by_cases c47 : a0_1 = 0
         ·rw [if_pos c47] at H; obtain ⟨c47b0, c47b1⟩ := eqs c47; clear c47; have H' := Aside0.mk H; clear H; go_wp2; go_meet
          case rel => exact ⟨_, (false), pr, H', ⟨by have := HJ2.out; have := HJ30.out; first | omega | exact Nat.le_refl _⟩, ⟨bk⟩, ⟨bk⟩, ⟨bk⟩, ⟨bl⟩⟩
         ·rw [if_neg c47] at H; obtain ⟨c47b0, c47b1⟩ := eqf c47; have H' := Aside0.mk H; clear H; have hnb54 := NB291_292.out; have hnc54 := NB292_291.out; obtain ⟨hcz55_0, hcz55_1, hcz55_2, hfz55_0, hfz55_1, hfz55_2⟩ := bc3 BK291.out; go_wp2; go_meet
          case rel => exact ⟨_, ((a1_0 == 23)), pr, H', ⟨by have := HJ2.out; have := HJ30.out; first | omega | exact Nat.le_refl _⟩, ⟨bk⟩, ⟨bk⟩, ⟨bk⟩, ⟨bl⟩⟩
        ·rw [if_neg c46] at H; obtain ⟨c46b0, c46b1⟩ := eqf c46; (first | rw [c46b0] | (simp only [i64_w, i32_w]; rw [c46b0]) | skip); have H' := Aside0.mk H; clear H; have hnb56 := NB290_291.out; have hnc56 := NB291_290.out; have hnb57 := NB290_292.out; have hnc57 := NB292_290.out; obtain ⟨hcz58_0, hcz58_1, hcz58_2, hfz58_0, hfz58_1, hfz58_2⟩ := bc3 BK290.out; go_wp2; go_meet
         case rel => exact ⟨_, (false), pr, H', ⟨by have := HJ2.out; have := HJ30.out; first | omega | exact Nat.le_refl _⟩, ⟨bk⟩, ⟨bk⟩, ⟨bk⟩, ⟨bl⟩⟩
       case rest =>
        clear HC45; obtain ⟨kq, x34_44, rfl, HA, HJ44, BK290, BK291, BK292, HB⟩ := hcut
        cases kq with
        | zero => exact absurd HA.out (by simp [peep_pair.j2])
        | succ kj44 =>
         have H := HA.out; clear HA; simp only [peep_pair.j2] at H
         by_cases c59 : x34_44 = true
         ·subst c59; rw [if_pos rfl] at H; simp only [Option.some.injEq, Prod.mk.injEq] at H; obtain ⟨rfl, rfl, rfl⟩ := H; have hnb60 := NB292_290.out; have hnc60 := NB290_292.out; have hnb61 := NB292_291.out; have hnc61 := NB291_292.out; obtain ⟨hcz62_0, hcz62_1, hcz62_2, hfz62_0, hfz62_1, hfz62_2⟩ := bc3 BK292.out; go_wp2
          refine bodyPost_ret (results_cell_row rfl _ _ gb292 64 #[.int .i64 11, .int .i64 2, .slice none 0 0] (0, 0) _ rfl (by exact bp3 (bq BK292.out)) Tryd.underlying64 rfl (by kernel_rfl)) rfl ?_
          exact ⟨_, pe, pn, bl⟩
         ·replace c59 := Bool.eq_false_iff.mpr c59; subst c59; rw [if_neg (show ¬ (false = true) by decide)] at H; have HH_ := Aside0.mk H; clear H; have hnb67 := NB290_291.out; have hnc67 := NB291_290.out; have hnb68 := NB290_292.out; have hnc68 := NB292_290.out; obtain ⟨hcz69_0, hcz69_1, hcz69_2, hfz69_0, hfz69_1, hfz69_2⟩ := bc3 BK290.out; have H := HH_.out; clear HH_
          by_cases c63 : a0_0 = 6
          ·rw [if_pos c63] at H; obtain ⟨c63b0, c63b1⟩ := eqs c63; clear c63; have HH_ := Aside0.mk H; clear H; have hnb70 := NB291_292.out; have hnc70 := NB292_291.out; obtain ⟨hcz71_0, hcz71_1, hcz71_2, hfz71_0, hfz71_1, hfz71_2⟩ := bc3 BK291.out; have H := HH_.out; clear HH_
           by_cases c64 : a1_0 = 6
           ·rw [if_pos c64] at H; obtain ⟨c64b0, c64b1⟩ := eqs c64; clear c64; have HH_ := Aside0.mk H; clear H; have H := HH_.out; clear HH_
            by_cases c65 : a1_1 = (wrap64 (a0_1 + a0_2))
            ·rw [if_pos c65] at H; obtain ⟨c65b0, c65b1⟩ := eqs c65; clear c65; have HH_ := Aside0.mk H; clear H; have H := HH_.out; clear HH_
             by_cases c66 : (wrap64 (a0_2 + a1_2)) ≤ 64
             ·rw [if_pos c66] at H; have c66b0 := decide_eq_true c66; clear c66; obtain ⟨y296, hy296⟩ : ∃ y_ : List (S40), y_ = (([(⟨6, a0_1, wrap64 (a0_2 + a1_2)⟩ : S40)] : List (S40))) := ⟨_, rfl⟩; (first | replace H := hs hy296 H | rw [← hy296] at H)
              have Ny296 := Aside0.mk hy296; clear hy296; simp only [Option.some.injEq, Prod.mk.injEq] at H; obtain ⟨rfl, rfl, rfl⟩ := H
              go_wp2_with (first | ((with_reducible refine gate_dst (N := 84) rfl ?_); refine Kd.R_lit k40 _ 40 ?hg (N := 84) ?hd (xs := ([(⟨6, a0_1, wrap64 (a0_2 + a1_2)⟩ : S40)] : List (S40))) (inner := [.int .i64 6, .int .i64 a0_1, .int .i64 (wrap64 (a0_2 + a1_2))]) (ok := fun _ => True) (okp := fun _ => True) ?hr ?hp (fun _ hk => hk) trivial (Below.refl _ _) (Nat.le_refl _) (by simp) ?_; (case hd => rfl); (case hg => rfl); (case hr => first | (go_simp; done) | (go_simp; rfl)); (case hp => exact (Reps.c3 (show Kd.M k40 _ _ _ (⟨6, a0_1, wrap64 (a0_2 + a1_2)⟩ : S40) [.int .i64 6, .int .i64 a0_1, .int .i64 (wrap64 (a0_2 + a1_2))] from (k40_mkM _ _ _ (⟨6, a0_1, wrap64 (a0_2 + a1_2)⟩ : S40) )) (Reps.none _ _))); intro v297 w72 ho73 hb hg_ hnew_; clear hg_ hnew_; (first | rw [← Ny296.out] at ho73 | (simp only [Int.reduceToNat] at ho73; rw [← Ny296.out] at ho73)); have n_ := an5 (Kd.R_lower (Kd.R_newB (Kd.R_newB ho73 (g := gb290) (o := .cells #[.int .i64 a0_0, .int .i64 a0_1, .int .i64 a0_2] 40 (0, 0)) bk) (g := gb291) (o := .cells #[.int .i64 a1_0, .int .i64 a1_1, .int .i64 a1_2] 40 (0, 0)) bk) (below_size bl)) (bu BK290.out hb) (bu BK291.out hb) (bu BK292.out hb) (below_step bl hb); clear BK290 BK291 BK292 HB; obtain ⟨HO298, BK290, BK291, BK292, HB⟩ := n_; clear hb ho73; obtain ⟨Ao74, co74, eo74⟩ := Kd.R_slice HO298.out; subst eo74; obtain ⟨hcz75_0, hcz75_1, hcz75_2⟩ := bd3 BK292.out; have hfz75_0 := blk_frozen BK292.out 0; have hfz75_1 := blk_frozen BK292.out 1; have hfz75_2 := blk_frozen BK292.out 2))
              refine bodyPost_ret (results_cell_row rfl _ _ gb292 64 #[.int .i64 12, .int .i64 2, .slice Ao74 y296.length co74] (0, 0) _ rfl (by exact bp3 (bq BK292.out)) Tryd.underlying64 rfl (by kernel_rfl)) rfl ?_
              exact ⟨_, pe, by (with_reducible repeat (first | apply Kd.R_alloc | apply Kd.R_drewN | apply Kd.R_drew)); exact Kd.R_mono (rf3 (g := gb292) (Kd.R_types HO298.out BK292.out (by decide)) (fun _ hk => hk.2)) (fun _ hk => trivial), bl⟩
             ·rw [if_neg c66] at H; have c66b0 := decide_eq_false c66; clear c66; simp only [Option.some.injEq, Prod.mk.injEq] at H; obtain ⟨rfl, rfl, rfl⟩ := H; obtain ⟨hcz81_0, hcz81_1, hcz81_2, hfz81_0, hfz81_1, hfz81_2⟩ := bc3 BK292.out; go_wp2
              refine bodyPost_ret (results_cell_row rfl _ _ gb292 64 #[.int .i64 0, .int .i64 0, .slice none 0 0] (0, 0) _ rfl (by exact bp3 (bq BK292.out)) Tryd.underlying64 rfl (by kernel_rfl)) rfl ?_
              exact ⟨_, pe, pn, bl⟩
            ·rw [if_neg c65] at H; obtain ⟨c65b0, c65b1⟩ := eqf c65; simp only [Option.some.injEq, Prod.mk.injEq] at H; obtain ⟨rfl, rfl, rfl⟩ := H; obtain ⟨hcz87_0, hcz87_1, hcz87_2, hfz87_0, hfz87_1, hfz87_2⟩ := bc3 BK292.out; go_wp2
             refine bodyPost_ret (results_cell_row rfl _ _ gb292 64 #[.int .i64 0, .int .i64 0, .slice none 0 0] (0, 0) _ rfl (by exact bp3 (bq BK292.out)) Tryd.underlying64 rfl (by kernel_rfl)) rfl ?_
             exact ⟨_, pe, pn, bl⟩
           ·rw [if_neg c64] at H; obtain ⟨c64b0, c64b1⟩ := eqf c64; simp only [Option.some.injEq, Prod.mk.injEq] at H; obtain ⟨rfl, rfl, rfl⟩ := H; obtain ⟨hcz93_0, hcz93_1, hcz93_2, hfz93_0, hfz93_1, hfz93_2⟩ := bc3 BK292.out; go_wp2
            refine bodyPost_ret (results_cell_row rfl _ _ gb292 64 #[.int .i64 0, .int .i64 0, .slice none 0 0] (0, 0) _ rfl (by exact bp3 (bq BK292.out)) Tryd.underlying64 rfl (by kernel_rfl)) rfl ?_
            exact ⟨_, pe, pn, bl⟩
          ·rw [if_neg c63] at H; obtain ⟨c63b0, c63b1⟩ := eqf c63; simp only [Option.some.injEq, Prod.mk.injEq] at H; obtain ⟨rfl, rfl, rfl⟩ := H; have hnb97 := NB292_291.out; have hnc97 := NB291_292.out; obtain ⟨hcz98_0, hcz98_1, hcz98_2, hfz98_0, hfz98_1, hfz98_2⟩ := bc3 BK292.out; go_wp2
           refine bodyPost_ret (results_cell_row rfl _ _ gb292 64 #[.int .i64 0, .int .i64 0, .slice none 0 0] (0, 0) _ rfl (by exact bp3 (bq BK292.out)) Tryd.underlying64 rfl (by kernel_rfl)) rfl ?_
           exact ⟨_, pe, pn, bl⟩

end Go.Proofs.YtmbjogpphegoaaaDoor.P
