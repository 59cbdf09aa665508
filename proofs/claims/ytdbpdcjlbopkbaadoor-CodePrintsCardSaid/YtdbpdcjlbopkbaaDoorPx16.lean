-- Written by a program of this session (its own turn of the print: wip/patch_print.py), not by hand. Lean checks it.
import Derived.Test.YtdbpdcjlbopkbaaDoorPx0
import Derived.Test.YtdbpdcjlbopkbaaDoorPx11
import Derived.Test.YtdbpdcjlbopkbaaDoorPx12
namespace Go.Proofs.YtdbpdcjlbopkbaaDoor.P
open Go.RowKit Go.Proofs.YtdbpdcjlbopkbaaDoorW.PrintWords Go.Proofs.YtdbpdcjlbopkbaaDoorW.PrintLast Go.Proofs.YtdbpdcjlbopkbaaDoorW.PrintMore
attribute [local go_sem] max2_int min2_int max_two min_two max_three min_three max_four min_four   -- for this text's walks alone
set_option linter.unusedVariables false
set_option linter.unusedSimpArgs false

/-! ### parallaxref08_Print: function 16 -/
def parallaxref08_Print.l0 : Nat → ByteArray → Int → List (S23) → Int → Int → Bool → Option (ByteArray)
 | 0, _, _, _, _, _, _ => none
 | k + 1, x3, x4, x342000, x342001, x342002, x342003 => if x4 < (x342000.length : Int) then (if 0 ≤ x4 then ((parallaxref08_Text.f k ((rd_T23 x342000 x4).f0) ((rd_T23 x342000 x4).f1) ((rd_T23 x342000 x4).f2)).bind fun bt343 => (if bt343.2 = 0 then ((parallaxref01_Text.f k x4).bind fun t345 => (if x3.size + t345.size ≤ 9223372036854775807 then (if (x3 ++ t345).size + 1 ≤ 9223372036854775807 then (if ((x3 ++ t345) ++ (⟨#[32]⟩ : ByteArray)).size + bt343.1.size ≤ 9223372036854775807 then (if (((x3 ++ t345) ++ (⟨#[32]⟩ : ByteArray)) ++ bt343.1).size + 1 ≤ 9223372036854775807 then (parallaxref08_Print.l0 k ((((x3 ++ t345) ++ (⟨#[32]⟩ : ByteArray)) ++ bt343.1) ++ (⟨#[10]⟩ : ByteArray)) (wrap64 (x4 + 1)) x342000 x342001 x342002 x342003) else (none)) else (none)) else (none)) else (none))) else ((parallaxref01_Text.f k x4).bind fun t346 => (if x3.size + t346.size ≤ 9223372036854775807 then (if (x3 ++ t346).size + 1 ≤ 9223372036854775807 then (if ((x3 ++ t346) ++ (⟨#[32]⟩ : ByteArray)).size + 1 ≤ 9223372036854775807 then (if (((x3 ++ t346) ++ (⟨#[32]⟩ : ByteArray)) ++ (⟨#[63]⟩ : ByteArray)).size + 1 ≤ 9223372036854775807 then (parallaxref08_Print.l0 k ((((x3 ++ t346) ++ (⟨#[32]⟩ : ByteArray)) ++ (⟨#[63]⟩ : ByteArray)) ++ (⟨#[10]⟩ : ByteArray)) (wrap64 (x4 + 1)) x342000 x342001 x342002 x342003) else (none)) else (none)) else (none)) else (none))))) else (none)) else (some x3)
def parallaxref08_Print.f (k : Nat) (l0_0 : List (S23)) (a0_1 : Int) (a0_2 : Int) (a0_3 : Bool) : Option (ByteArray) := parallaxref08_Print.l0 k (⟨#[]⟩ : ByteArray) 0 l0_0 a0_1 a0_2 a0_3
theorem parallaxref08_Print.mono_l : ∀ k, (∀ y0 y1 y2 y3 y4 y5, LeO (parallaxref08_Print.l0 k y0 y1 y2 y3 y4 y5) (parallaxref08_Print.l0 (k + 1) y0 y1 y2 y3 y4 y5))
 | 0 => fun _ _ _ _ _ _ r h => by simp [parallaxref08_Print.l0] at h
 | k + 1 => by
  have ih0 := parallaxref08_Print.mono_l k
  ·intro y0 y1 y2 y3 y4 y5
   unfold parallaxref08_Print.l0
   repeat' first
   | (with_reducible exact ih0 _ _ _ _ _ _)
   | (with_reducible exact parallaxref01_Text.mono _ _)
   | (with_reducible exact parallaxref08_Text.mono _ _ _ _)
   | (with_reducible exact LeO.refl _)
   | (with_reducible exact LeO.none _)
   | (with_reducible refine LeO.ite ?_ ?_)
   | (with_reducible refine LeO.bind ?_ (fun _ => ?_))
   | exact ih0 _ _ _ _ _ _
   | exact parallaxref01_Text.mono _ _
   | exact parallaxref08_Text.mono _ _ _ _
   | exact LeO.none _
   | refine LeO.ite ?_ ?_
   | refine LeO.bind ?_ (fun _ => ?_)
theorem parallaxref08_Print.mono : ∀ a0 a1 a2 a3 k, LeO (parallaxref08_Print.f k a0 a1 a2 a3) (parallaxref08_Print.f (k + 1) a0 a1 a2 a3) := by
 intro a0 a1 a2 a3 k
 have ih0 := parallaxref08_Print.mono_l k
 unfold parallaxref08_Print.f
 repeat' first
   | (with_reducible exact ih0 _ _ _ _ _ _)
   | (with_reducible exact parallaxref01_Text.mono _ _)
   | (with_reducible exact parallaxref08_Text.mono _ _ _ _)
   | (with_reducible exact LeO.refl _)
   | (with_reducible exact LeO.none _)
   | (with_reducible refine LeO.ite ?_ ?_)
   | (with_reducible refine LeO.bind ?_ (fun _ => ?_))
   | exact ih0 _ _ _ _ _ _
   | exact parallaxref01_Text.mono _ _
   | exact parallaxref08_Text.mono _ _ _ _
   | exact LeO.none _
   | refine LeO.ite ?_ ?_
   | refine LeO.bind ?_ (fun _ => ?_)
set_option maxHeartbeats 8000000 in
set_option maxRecDepth 100000 in
theorem parallaxref08_Print.calls (k : Nat) (A0_0 : Option Addr) (c0_0 : Nat) (l0_0 : List (S23)) (a0_1 : Int) (a0_2 : Int) (a0_3 : Bool) (r : ByteArray) (w : World) (hr0_0 : Kd.C k23 w A0_0 l0_0.length l0_0) (hc0_0 : l0_0.length ≤ c0_0) (h : parallaxref08_Print.f k l0_0 a0_1 a0_2 a0_3 = some r) :
  Calls Tryd.prog 16 #[.agg #[.slice A0_0 l0_0.length c0_0, .int .i64 a0_1, .int .i64 a0_2, .bool a0_3]] w fun e w' => e = .returned (.string r) ∧ Below w.heap.size w w' := by
 have hu33 := Tryd.underlying33; have hu23 := Tryd.underlying23; have HR0_0 := Aside0.mk hr0_0; have HC0_0 := Aside0.mk hc0_0; clear hr0_0 hc0_0; have HB := Aside0.mk (Below.refl w.heap.size w); have H : (parallaxref08_Print.l0 k (⟨#[]⟩ : ByteArray) 0 l0_0 a0_1 a0_2 a0_3) = some r := h; clear h; have H' := Aside0.mk H; clear H; go_enter Tryd.func16, Tryd.ntmps16
 go_wp2_with (first | ((with_reducible refine gate_dst (N := 1) rfl ?_); refine box_event ?hg (N := 1) ?hd (cs := #[.slice A0_0 l0_0.length c0_0, .int .i64 a0_1, .int .i64 a0_2, .bool a0_3]) (t := 33) ?hr ?_; (case hd => rfl); (case hg => rfl); (case hr => first | (go_simp; done) | (go_simp; rfl)); intro gb341 hg w2 hbox hb; have n0_ := Aside0.mk (below_step (by repeat (first | (with_reducible first | exact HB.out | apply below_alloc | apply pw_below_drewN | apply below_drew1) | exact HB.out)) hb); have n1_ := Aside0.mk (hbox); have n2_ := Aside0.mk ((by rw [hg]; exact (below_size (by repeat (first | (with_reducible first | exact HB.out | apply below_alloc | apply pw_below_drewN | apply below_drew1) | exact HB.out))) : w.heap.size ≤ gb341)); have n3_ := Aside0.mk ((by rw [hg]; exact (below_size (by repeat (first | (with_reducible first | exact HB.out | apply below_alloc | apply pw_below_drewN | apply below_drew1) | exact HB.out))) : w.heap.size ≤ gb341)); clear HB; have HB := n0_; have BK341 := n1_; have GW341 := n2_; have GE341 := n3_; clear n0_ n1_ n2_ n3_; clear hb hbox hg))
 go_loopg [3, 4] k (fun kq v3 v4 w' => ∃ (x3_1 : ByteArray) (x4_1 : Int), v3 = .string x3_1 ∧ v4 = .int .i64 x4_1 ∧ Aside0 (parallaxref08_Print.l0 kq x3_1 x4_1 l0_0 a0_1 a0_2 a0_3 = some r) ∧ Aside0 (kq ≤ k) ∧ Aside0 (w'.heap[gb341]? = some (.cells #[(.slice A0_0 l0_0.length c0_0), .int .i64 a0_1, .int .i64 a0_2, .bool a0_3] 33 (0, 0))) ∧ Aside0 (Below w.heap.size w w'))
 case atStart => exact ⟨((⟨#[]⟩ : ByteArray)), (0), (by first | rfl | (simp; done) | (simp [*]; done)), (by first | rfl | (simp; done) | (simp [*]; done)), H', ⟨Nat.le_refl _⟩, ⟨by (with_reducible repeat (first | refine blk_drewN ?_ _ | refine blk_drew ?_ | refine blk_alloc ?_ _)); exact BK341.out⟩, ⟨by repeat (first | (with_reducible first | exact HB.out | apply below_alloc | apply pw_below_drewN | apply below_drew1 | refine below_set ?_ GE341.out) | exact HB.out)⟩⟩
 case round =>
  clear H'; (try clear c1); (try clear p2); obtain ⟨x3_1, x4_1, rfl, rfl, HA, HK1, BK341, HB⟩ := hrel
  cases gk with
  | zero => exact absurd HA.out (by simp [parallaxref08_Print.l0])
  | succ k1 =>
   have H := HA.out; clear HA; simp only [parallaxref08_Print.l0] at H
   by_cases c3 : x4_1 < (l0_0.length : Int)
   ·rw [if_pos c3] at H; have c3b0 : decide (x4_1 < (l0_0.length : Int)) = true := decide_eq_true c3; clear c3
    by_cases c4 : 0 ≤ x4_1
    ·rw [if_pos c4] at H; have c4b0 : decide (0 ≤ x4_1) = true := decide_eq_true c4; clear c4; replace H := Option.bind_eq_some_iff.mp H; obtain ⟨⟨t343, t344⟩, A50, H⟩ := H; replace H : (if t344 = 0 then ((parallaxref01_Text.f k1 x4_1).bind fun t345 => (if x3_1.size + t345.size ≤ 9223372036854775807 then (if (x3_1 ++ t345).size + 1 ≤ 9223372036854775807 then (if ((x3_1 ++ t345) ++ (⟨#[32]⟩ : ByteArray)).size + t343.size ≤ 9223372036854775807 then (if (((x3_1 ++ t345) ++ (⟨#[32]⟩ : ByteArray)) ++ t343).size + 1 ≤ 9223372036854775807 then (parallaxref08_Print.l0 k1 ((((x3_1 ++ t345) ++ (⟨#[32]⟩ : ByteArray)) ++ t343) ++ (⟨#[10]⟩ : ByteArray)) (wrap64 (x4_1 + 1)) l0_0 a0_1 a0_2 a0_3) else (none)) else (none)) else (none)) else (none))) else ((parallaxref01_Text.f k1 x4_1).bind fun t346 => (if x3_1.size + t346.size ≤ 9223372036854775807 then (if (x3_1 ++ t346).size + 1 ≤ 9223372036854775807 then (if ((x3_1 ++ t346) ++ (⟨#[32]⟩ : ByteArray)).size + 1 ≤ 9223372036854775807 then (if (((x3_1 ++ t346) ++ (⟨#[32]⟩ : ByteArray)) ++ (⟨#[63]⟩ : ByteArray)).size + 1 ≤ 9223372036854775807 then (parallaxref08_Print.l0 k1 ((((x3_1 ++ t346) ++ (⟨#[32]⟩ : ByteArray)) ++ (⟨#[63]⟩ : ByteArray)) ++ (⟨#[10]⟩ : ByteArray)) (wrap64 (x4_1 + 1)) l0_0 a0_1 a0_2 a0_3) else (none)) else (none)) else (none)) else (none)))) = some r := H; have A5 := Aside0.mk A50; clear A50
     by_cases c6 : t344 = 0
     ·rw [if_pos c6] at H; have c6b0 : (t344 == 0) = true := beq_iff_eq.mpr c6; have c6b1 : (t344 != 0) = false := bne_eq_false_iff_eq.mpr c6; clear c6; replace H := Option.bind_eq_some_iff.mp H; obtain ⟨t345, A70, H⟩ := H; replace H : (if x3_1.size + t345.size ≤ 9223372036854775807 then (if (x3_1 ++ t345).size + 1 ≤ 9223372036854775807 then (if ((x3_1 ++ t345) ++ (⟨#[32]⟩ : ByteArray)).size + t343.size ≤ 9223372036854775807 then (if (((x3_1 ++ t345) ++ (⟨#[32]⟩ : ByteArray)) ++ t343).size + 1 ≤ 9223372036854775807 then (parallaxref08_Print.l0 k1 ((((x3_1 ++ t345) ++ (⟨#[32]⟩ : ByteArray)) ++ t343) ++ (⟨#[10]⟩ : ByteArray)) (wrap64 (x4_1 + 1)) l0_0 a0_1 a0_2 a0_3) else (none)) else (none)) else (none)) else (none)) = some r := H; have A7 := Aside0.mk A70; clear A70
      by_cases c8 : x3_1.size + t345.size ≤ 9223372036854775807
      ·rw [if_pos c8] at H; have c8b0 := eq_true c8; have c8b1 : decide (x3_1.size + t345.size ≤ 9223372036854775807) = true := decide_eq_true c8
       try have c8b2 : (9223372036854775807 < x3_1.size + t345.size) = False := eq_false (Nat.not_lt.2 c8)
       by_cases c9 : (x3_1 ++ t345).size + 1 ≤ 9223372036854775807
       ·rw [if_pos c9] at H; have c9b0 := eq_true c9; have c9b1 : decide ((x3_1 ++ t345).size + 1 ≤ 9223372036854775807) = true := decide_eq_true c9
        try have c9b2 : (9223372036854775807 < (x3_1 ++ t345).size + 1) = False := eq_false (Nat.not_lt.2 c9)
        try have c9b3 : (9223372036854775807 < x3_1.size + t345.size + 1) = False := eq_false (Nat.not_lt.2 (show x3_1.size + t345.size + 1 ≤ 9223372036854775807 from by have h_ := c9; simp only [ByteArray.size_append] at h_; exact h_))
        by_cases c10 : ((x3_1 ++ t345) ++ (⟨#[32]⟩ : ByteArray)).size + t343.size ≤ 9223372036854775807
        ·rw [if_pos c10] at H; have c10b0 := eq_true c10; have c10b1 : decide (((x3_1 ++ t345) ++ (⟨#[32]⟩ : ByteArray)).size + t343.size ≤ 9223372036854775807) = true := decide_eq_true c10
         try have c10b2 : (9223372036854775807 < ((x3_1 ++ t345) ++ (⟨#[32]⟩ : ByteArray)).size + t343.size) = False := eq_false (Nat.not_lt.2 c10)
         try have c10b3 : (9223372036854775807 < x3_1.size + t345.size + 1 + t343.size) = False := eq_false (Nat.not_lt.2 (show x3_1.size + t345.size + 1 + t343.size ≤ 9223372036854775807 from by have h_ := c10; simp only [ByteArray.size_append] at h_; exact h_))
         by_cases c11 : (((x3_1 ++ t345) ++ (⟨#[32]⟩ : ByteArray)) ++ t343).size + 1 ≤ 9223372036854775807
         ·rw [if_pos c11] at H; have c11b0 := eq_true c11; have c11b1 : decide ((((x3_1 ++ t345) ++ (⟨#[32]⟩ : ByteArray)) ++ t343).size + 1 ≤ 9223372036854775807) = true := decide_eq_true c11
          try have c11b2 : (9223372036854775807 < (((x3_1 ++ t345) ++ (⟨#[32]⟩ : ByteArray)) ++ t343).size + 1) = False := eq_false (Nat.not_lt.2 c11)
          try have c11b3 : (9223372036854775807 < x3_1.size + t345.size + 1 + t343.size + 1) = False := eq_false (Nat.not_lt.2 (show x3_1.size + t345.size + 1 + t343.size + 1 ≤ 9223372036854775807 from by have h_ := c11; simp only [ByteArray.size_append] at h_; exact h_))
          have H' := Aside0.mk H; clear H; have hcz12_0 : wr.cell? ⟨gb341, 0, none⟩ = some (.slice A0_0 l0_0.length c0_0) := (blk_cell BK341.out 0).trans rfl; have hcz12_1 : wr.cell? ⟨gb341, 1, none⟩ = some (.int .i64 a0_1) := (blk_cell BK341.out 1).trans rfl; have hcz12_2 : wr.cell? ⟨gb341, 2, none⟩ = some (.int .i64 a0_2) := (blk_cell BK341.out 2).trans rfl; have hcz12_3 : wr.cell? ⟨gb341, 3, none⟩ = some (.bool a0_3) := (blk_cell BK341.out 3).trans rfl; have hfz12_0 := blk_frozen BK341.out 0; have hfz12_1 := blk_frozen BK341.out 1; have hfz12_2 := blk_frozen BK341.out 2; have hfz12_3 := blk_frozen BK341.out 3
          have p342 : 0 ≤ (x4_1 : Int) := of_decide_eq_true (by first | (with_reducible assumption) | assumption)
          have q342 : x4_1 < (l0_0.length : Int) := of_decide_eq_true (by first | (with_reducible assumption) | assumption)
          obtain ⟨ad342, e342, hx342_0, hx342_1, hx342_2⟩ := at_T23 HR0_0.out x4_1 p342 q342
          cases e342
          replace hx342_0 := (HB.out.cell (World.block_lt_of_cell? w _ hx342_0)).trans hx342_0; replace hx342_1 := (HB.out.cell (World.block_lt_of_cell? w _ hx342_1)).trans hx342_1; replace hx342_2 := (HB.out.cell (World.block_lt_of_cell? w _ hx342_2)).trans hx342_2; replace p342 := eq_true p342; replace q342 := eq_true q342
          go_wp2_with (first | ((with_reducible refine gate_callee (f := 12) rfl ?_); refine goesL_ (some 20) rfl rfl Tryd.func12 (by kernel_rfl) rfl #[.agg #[.int .i64 ((rd_T23 l0_0 x4_1).f0), .int .i64 ((rd_T23 l0_0 x4_1).f1), .int .i64 ((rd_T23 l0_0 x4_1).f2)]] rfl (by (try simp only [List.map_toArray, List.map_cons, List.map_nil]); first | done | rfl | (simp only [List.length_drop, List.length_take]; rfl)) ?_; (with_reducible refine (parallaxref08_Text.calls k1 ((rd_T23 l0_0 x4_1).f0) ((rd_T23 l0_0 x4_1).f1) ((rd_T23 l0_0 x4_1).f2) t343 t344 _ A5.out).mono ?_); rintro e w13 ⟨rfl, hb⟩; refine ⟨_, rfl, ?_⟩; have n0_ := Aside0.mk (blk_below (g := gb341) (o := .cells #[.slice (some ad342) l0_0.length c0_0, .int .i64 a0_1, .int .i64 a0_2, .bool a0_3] 33 (0, 0)) (by (with_reducible repeat (first | refine blk_drewN ?_ _ | refine blk_drew ?_ | refine blk_alloc ?_ _)); exact BK341.out) hb); have n1_ := Aside0.mk (below_step (by repeat (first | (with_reducible first | exact HB.out | apply below_alloc | apply pw_below_drewN | apply below_drew1 | refine below_set ?_ GE341.out) | exact HB.out)) hb); clear BK341; clear HB; have BK341 := n0_; have HB := n1_; clear n0_ n1_; (try clear hb); (try clear hb2); (try clear hk); (try clear hi)) | ((with_reducible refine gate_callee (f := 28) rfl ?_); refine goesL_ (some 27) rfl rfl Tryd.func28 (by kernel_rfl) rfl #[.int .i64 x4_1] rfl (by (try simp only [List.map_toArray, List.map_cons, List.map_nil]); first | done | rfl | (simp only [List.length_drop, List.length_take]; rfl)) ?_; (with_reducible refine (parallaxref01_Text.calls k1 x4_1 t345 _ A7.out).mono ?_); rintro e w14 ⟨rfl, hb⟩; refine ⟨_, rfl, ?_⟩; have n0_ := Aside0.mk (blk_below (g := gb341) (o := .cells #[.slice (some ad342) l0_0.length c0_0, .int .i64 a0_1, .int .i64 a0_2, .bool a0_3] 33 (0, 0)) (by (with_reducible repeat (first | refine blk_drewN ?_ _ | refine blk_drew ?_ | refine blk_alloc ?_ _)); exact BK341.out) hb); have n1_ := Aside0.mk (below_step (by repeat (first | (with_reducible first | exact HB.out | apply below_alloc | apply pw_below_drewN | apply below_drew1 | refine below_set ?_ GE341.out) | exact HB.out)) hb); clear BK341; clear HB; have BK341 := n0_; have HB := n1_; clear n0_ n1_; (try clear hb); (try clear hb2); (try clear hk); (try clear hi)))
          go_roundg k1
          case measure => have := HK1.out; omega
          case rel => exact ⟨((((x3_1 ++ t345) ++ (⟨#[32]⟩ : ByteArray)) ++ t343) ++ (⟨#[10]⟩ : ByteArray)), (wrap64 (x4_1 + 1)), (by first | rfl | (simp; done) | (simp [*]; done)), (by first | rfl | (simp; done) | (simp [*]; done)), H', ⟨by have := HK1.out; omega⟩, ⟨by (with_reducible repeat (first | refine blk_drewN ?_ _ | refine blk_drew ?_ | refine blk_alloc ?_ _)); exact BK341.out⟩, ⟨by repeat (first | (with_reducible first | exact HB.out | apply below_alloc | apply pw_below_drewN | apply below_drew1 | refine below_set ?_ GE341.out) | exact HB.out)⟩⟩
         ·rw [if_neg c11] at H; exact absurd H (by simp)
        ·rw [if_neg c10] at H; exact absurd H (by simp)
       ·rw [if_neg c9] at H; exact absurd H (by simp)
      ·rw [if_neg c8] at H; exact absurd H (by simp)
     ·rw [if_neg c6] at H; have c6b0 : (t344 == 0) = false := beq_eq_false_iff_ne.mpr c6; have c6b1 : (t344 != 0) = true := bne_iff_ne.mpr c6; replace H := Option.bind_eq_some_iff.mp H; obtain ⟨t346, A150, H⟩ := H; replace H : (if x3_1.size + t346.size ≤ 9223372036854775807 then (if (x3_1 ++ t346).size + 1 ≤ 9223372036854775807 then (if ((x3_1 ++ t346) ++ (⟨#[32]⟩ : ByteArray)).size + 1 ≤ 9223372036854775807 then (if (((x3_1 ++ t346) ++ (⟨#[32]⟩ : ByteArray)) ++ (⟨#[63]⟩ : ByteArray)).size + 1 ≤ 9223372036854775807 then (parallaxref08_Print.l0 k1 ((((x3_1 ++ t346) ++ (⟨#[32]⟩ : ByteArray)) ++ (⟨#[63]⟩ : ByteArray)) ++ (⟨#[10]⟩ : ByteArray)) (wrap64 (x4_1 + 1)) l0_0 a0_1 a0_2 a0_3) else (none)) else (none)) else (none)) else (none)) = some r := H; have A15 := Aside0.mk A150; clear A150
      by_cases c16 : x3_1.size + t346.size ≤ 9223372036854775807
      ·rw [if_pos c16] at H; have c16b0 := eq_true c16; have c16b1 : decide (x3_1.size + t346.size ≤ 9223372036854775807) = true := decide_eq_true c16
       try have c16b2 : (9223372036854775807 < x3_1.size + t346.size) = False := eq_false (Nat.not_lt.2 c16)
       by_cases c17 : (x3_1 ++ t346).size + 1 ≤ 9223372036854775807
       ·rw [if_pos c17] at H; have c17b0 := eq_true c17; have c17b1 : decide ((x3_1 ++ t346).size + 1 ≤ 9223372036854775807) = true := decide_eq_true c17
        try have c17b2 : (9223372036854775807 < (x3_1 ++ t346).size + 1) = False := eq_false (Nat.not_lt.2 c17)
        try have c17b3 : (9223372036854775807 < x3_1.size + t346.size + 1) = False := eq_false (Nat.not_lt.2 (show x3_1.size + t346.size + 1 ≤ 9223372036854775807 from by have h_ := c17; simp only [ByteArray.size_append] at h_; exact h_))
        by_cases c18 : ((x3_1 ++ t346) ++ (⟨#[32]⟩ : ByteArray)).size + 1 ≤ 9223372036854775807
        ·rw [if_pos c18] at H; have c18b0 := eq_true c18; have c18b1 : decide (((x3_1 ++ t346) ++ (⟨#[32]⟩ : ByteArray)).size + 1 ≤ 9223372036854775807) = true := decide_eq_true c18
         try have c18b2 : (9223372036854775807 < ((x3_1 ++ t346) ++ (⟨#[32]⟩ : ByteArray)).size + 1) = False := eq_false (Nat.not_lt.2 c18)
         try have c18b3 : (9223372036854775807 < x3_1.size + t346.size + 1 + 1) = False := eq_false (Nat.not_lt.2 (show x3_1.size + t346.size + 1 + 1 ≤ 9223372036854775807 from by have h_ := c18; simp only [ByteArray.size_append] at h_; exact h_))
         by_cases c19 : (((x3_1 ++ t346) ++ (⟨#[32]⟩ : ByteArray)) ++ (⟨#[63]⟩ : ByteArray)).size + 1 ≤ 9223372036854775807
         ·rw [if_pos c19] at H; have c19b0 := eq_true c19; have c19b1 : decide ((((x3_1 ++ t346) ++ (⟨#[32]⟩ : ByteArray)) ++ (⟨#[63]⟩ : ByteArray)).size + 1 ≤ 9223372036854775807) = true := decide_eq_true c19
          try have c19b2 : (9223372036854775807 < (((x3_1 ++ t346) ++ (⟨#[32]⟩ : ByteArray)) ++ (⟨#[63]⟩ : ByteArray)).size + 1) = False := eq_false (Nat.not_lt.2 c19)
          try have c19b3 : (9223372036854775807 < x3_1.size + t346.size + 1 + 1 + 1) = False := eq_false (Nat.not_lt.2 (show x3_1.size + t346.size + 1 + 1 + 1 ≤ 9223372036854775807 from by have h_ := c19; simp only [ByteArray.size_append] at h_; exact h_))
          have H' := Aside0.mk H; clear H; have hcz20_0 : wr.cell? ⟨gb341, 0, none⟩ = some (.slice A0_0 l0_0.length c0_0) := (blk_cell BK341.out 0).trans rfl; have hcz20_1 : wr.cell? ⟨gb341, 1, none⟩ = some (.int .i64 a0_1) := (blk_cell BK341.out 1).trans rfl; have hcz20_2 : wr.cell? ⟨gb341, 2, none⟩ = some (.int .i64 a0_2) := (blk_cell BK341.out 2).trans rfl; have hcz20_3 : wr.cell? ⟨gb341, 3, none⟩ = some (.bool a0_3) := (blk_cell BK341.out 3).trans rfl; have hfz20_0 := blk_frozen BK341.out 0; have hfz20_1 := blk_frozen BK341.out 1; have hfz20_2 := blk_frozen BK341.out 2; have hfz20_3 := blk_frozen BK341.out 3
          have p342 : 0 ≤ (x4_1 : Int) := of_decide_eq_true (by first | (with_reducible assumption) | assumption)
          have q342 : x4_1 < (l0_0.length : Int) := of_decide_eq_true (by first | (with_reducible assumption) | assumption)
          obtain ⟨ad342, e342, hx342_0, hx342_1, hx342_2⟩ := at_T23 HR0_0.out x4_1 p342 q342
          cases e342
          replace hx342_0 := (HB.out.cell (World.block_lt_of_cell? w _ hx342_0)).trans hx342_0; replace hx342_1 := (HB.out.cell (World.block_lt_of_cell? w _ hx342_1)).trans hx342_1; replace hx342_2 := (HB.out.cell (World.block_lt_of_cell? w _ hx342_2)).trans hx342_2; replace p342 := eq_true p342; replace q342 := eq_true q342
          go_wp2_with (first | ((with_reducible refine gate_callee (f := 12) rfl ?_); refine goesL_ (some 20) rfl rfl Tryd.func12 (by kernel_rfl) rfl #[.agg #[.int .i64 ((rd_T23 l0_0 x4_1).f0), .int .i64 ((rd_T23 l0_0 x4_1).f1), .int .i64 ((rd_T23 l0_0 x4_1).f2)]] rfl (by (try simp only [List.map_toArray, List.map_cons, List.map_nil]); first | done | rfl | (simp only [List.length_drop, List.length_take]; rfl)) ?_; (with_reducible refine (parallaxref08_Text.calls k1 ((rd_T23 l0_0 x4_1).f0) ((rd_T23 l0_0 x4_1).f1) ((rd_T23 l0_0 x4_1).f2) t343 t344 _ A5.out).mono ?_); rintro e w21 ⟨rfl, hb⟩; refine ⟨_, rfl, ?_⟩; have n0_ := Aside0.mk (blk_below (g := gb341) (o := .cells #[.slice (some ad342) l0_0.length c0_0, .int .i64 a0_1, .int .i64 a0_2, .bool a0_3] 33 (0, 0)) (by (with_reducible repeat (first | refine blk_drewN ?_ _ | refine blk_drew ?_ | refine blk_alloc ?_ _)); exact BK341.out) hb); have n1_ := Aside0.mk (below_step (by repeat (first | (with_reducible first | exact HB.out | apply below_alloc | apply pw_below_drewN | apply below_drew1 | refine below_set ?_ GE341.out) | exact HB.out)) hb); clear BK341; clear HB; have BK341 := n0_; have HB := n1_; clear n0_ n1_; (try clear hb); (try clear hb2); (try clear hk); (try clear hi)) | ((with_reducible refine gate_callee (f := 28) rfl ?_); refine goesL_ (some 27) rfl rfl Tryd.func28 (by kernel_rfl) rfl #[.int .i64 x4_1] rfl (by (try simp only [List.map_toArray, List.map_cons, List.map_nil]); first | done | rfl | (simp only [List.length_drop, List.length_take]; rfl)) ?_; (with_reducible refine (parallaxref01_Text.calls k1 x4_1 t346 _ A15.out).mono ?_); rintro e w22 ⟨rfl, hb⟩; refine ⟨_, rfl, ?_⟩; have n0_ := Aside0.mk (blk_below (g := gb341) (o := .cells #[.slice (some ad342) l0_0.length c0_0, .int .i64 a0_1, .int .i64 a0_2, .bool a0_3] 33 (0, 0)) (by (with_reducible repeat (first | refine blk_drewN ?_ _ | refine blk_drew ?_ | refine blk_alloc ?_ _)); exact BK341.out) hb); have n1_ := Aside0.mk (below_step (by repeat (first | (with_reducible first | exact HB.out | apply below_alloc | apply pw_below_drewN | apply below_drew1 | refine below_set ?_ GE341.out) | exact HB.out)) hb); clear BK341; clear HB; have BK341 := n0_; have HB := n1_; clear n0_ n1_; (try clear hb); (try clear hb2); (try clear hk); (try clear hi)))
          go_roundg k1
          case measure => have := HK1.out; omega
          case rel => exact ⟨((((x3_1 ++ t346) ++ (⟨#[32]⟩ : ByteArray)) ++ (⟨#[63]⟩ : ByteArray)) ++ (⟨#[10]⟩ : ByteArray)), (wrap64 (x4_1 + 1)), (by first | rfl | (simp; done) | (simp [*]; done)), (by first | rfl | (simp; done) | (simp [*]; done)), H', ⟨by have := HK1.out; omega⟩, ⟨by (with_reducible repeat (first | refine blk_drewN ?_ _ | refine blk_drew ?_ | refine blk_alloc ?_ _)); exact BK341.out⟩, ⟨by repeat (first | (with_reducible first | exact HB.out | apply below_alloc | apply pw_below_drewN | apply below_drew1 | refine below_set ?_ GE341.out) | exact HB.out)⟩⟩
         ·rw [if_neg c19] at H; exact absurd H (by simp)
        ·rw [if_neg c18] at H; exact absurd H (by simp)
       ·rw [if_neg c17] at H; exact absurd H (by simp)
      ·rw [if_neg c16] at H; exact absurd H (by simp)
    ·rw [if_neg c4] at H; exact absurd H (by simp)
   ·rw [if_neg c3] at H; have c3b0 : decide (x4_1 < (l0_0.length : Int)) = false := decide_eq_false c3; clear c3; obtain rfl := Option.some.inj H; have hcz23_0 : wr.cell? ⟨gb341, 0, none⟩ = some (.slice A0_0 l0_0.length c0_0) := (blk_cell BK341.out 0).trans rfl; have hcz23_1 : wr.cell? ⟨gb341, 1, none⟩ = some (.int .i64 a0_1) := (blk_cell BK341.out 1).trans rfl; have hcz23_2 : wr.cell? ⟨gb341, 2, none⟩ = some (.int .i64 a0_2) := (blk_cell BK341.out 2).trans rfl; have hcz23_3 : wr.cell? ⟨gb341, 3, none⟩ = some (.bool a0_3) := (blk_cell BK341.out 3).trans rfl; have hfz23_0 := blk_frozen BK341.out 0; have hfz23_1 := blk_frozen BK341.out 1; have hfz23_2 := blk_frozen BK341.out 2; have hfz23_3 := blk_frozen BK341.out 3; go_wp2; go_ret; exact ⟨by first | rfl | (simp [errW_none, errW_some] <;> rfl) | (simp [*, errW_none, errW_some] <;> rfl), by repeat (first | (with_reducible first | exact HB.out | apply below_alloc | apply pw_below_drewN | apply below_drew1 | refine below_set ?_ GE341.out) | exact HB.out)⟩

end Go.Proofs.YtdbpdcjlbopkbaaDoor.P
