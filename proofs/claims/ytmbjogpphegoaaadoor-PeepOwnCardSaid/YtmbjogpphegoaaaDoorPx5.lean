-- Written by a program of this session (its own turn of the print: wip/patch_print.py), not by hand. Lean checks it.
import Derived.Test.YtmbjogpphegoaaaDoorWZip3
import Derived.Test.YtmbjogpphegoaaaDoorPx0
import Derived.Test.YtmbjogpphegoaaaDoorPx3
namespace Go.Proofs.YtmbjogpphegoaaaDoor.P
open Go.RowKit Go.Proofs.YtmbjogpphegoaaaDoorW.PrintWords Go.Proofs.YtmbjogpphegoaaaDoorW.PrintLast Go.Proofs.YtmbjogpphegoaaaDoorW.PrintMore
attribute [local go_sem] max2_int min2_int max_two min_two max_three min_three max_four min_four
set_option linter.unusedVariables false
set_option linter.unusedSimpArgs false

/-! ### code_checker_moves: function 98 -/
def code_checker_moves.f (l : List S35) (a1_0 : Int) (a1_1 : Int) (a1_2 : Int) : Option (Int × Int) := if a1_0 = 19 then (if 0 ≤ a1_1 then (if a1_1 < (l.length : Int) then (if (rd_T35 l a1_1).f3 = true then some (a1_2, 1) else some (a1_2, 0)) else none) else none) else (if a1_0 = 20 then some (a1_1, 0) else (if a1_0 < 26 then (if 0 ≤ a1_0 then some (rd code_STACK (a1_0 * 2), rd code_STACK (a1_0 * 2 + 1)) else none) else some (0, 0)))
def code_checker_moves.T3 : Bool × List (List Nat × List Nat) := (true, [([], []), ([0], [0]), ([1], [1]), ([2], [2]), ([], []), ([4], [4]), ([3, 5], [3, 5]), ([6], [6]), ([7], [7])])
def code_checker_moves.B3 : List Nat := [0, 1, 3, 7, 0, 16, 63, 127, 255]
theorem code_checker_moves.tab3 : rtab .any (opsOf Tryd.f98 3) = code_checker_moves.T3 := by kernel_rfl
theorem code_checker_moves.bits3 : waitsOk code_checker_moves.T3.2 code_checker_moves.B3 = true := by kernel_rfl
def code_checker_moves.T9 : Bool × List (List Nat × List Nat) := (true, [([], []), ([0], [0]), ([1], [1]), ([2], [2]), ([3], [3]), ([], []), ([5], [5]), ([6], [6]), ([7], [7]), ([8], [8]), ([4, 0, 1, 2, 3, 4], [4]), ([9, 10, 0, 1, 2, 3, 4, 5, 6, 7, 8, 9, 10], [9])])
def code_checker_moves.B9 : List Nat := [0, 1, 3, 7, 15, 0, 32, 96, 224, 480, 31, 2047]
theorem code_checker_moves.tab9 : rtab .any (opsOf Tryd.f98 9) = code_checker_moves.T9 := by kernel_rfl
theorem code_checker_moves.bits9 : waitsOk code_checker_moves.T9.2 code_checker_moves.B9 = true := by kernel_rfl
theorem STACKAT {w : World} (h : Laid w) (i : Int) (h0 : 0 ≤ i) (h1 : i < 26) : w.cell? ⟨1, i.toNat * 2, none⟩ = some (.int .i64 (rd code_STACK (i * 2))) ∧ w.cell? ⟨1, i.toNat * 2 + 1, none⟩ = some (.int .i64 (rd code_STACK (i * 2 + 1))) := by
  have h1 := h.stack (i.toNat * 2) (by omega)
  have h2 := h.stack (i.toNat * 2 + 1) (by omega)
  rw [show ((i.toNat * 2 : Nat) : Int) = i * 2 by omega] at h1
  rw [show ((i.toNat * 2 + 1 : Nat) : Int) = i * 2 + 1 by omega] at h2
  exact ⟨h1, h2⟩
set_option maxHeartbeats 8000000 in
set_option maxRecDepth 100000 in
theorem code_checker_moves.calls (g : Nat) (A0 : Option Addr) (c0 : Nat) (l : List S35) (v1 v2 v3 v4 v5 : Value) (a1_0 : Int) (a1_1 : Int) (a1_2 : Int) (r1 : Int) (r2 : Int) (w : World) (hg : w.heap[g]? = some (.cells #[.slice A0 l.length c0, v1, v2, v3, v4, v5] 105 (0, 0))) (hr : Kd.C k35 w A0 l.length l) (hLd : Laid w) (h : code_checker_moves.f l a1_0 a1_1 a1_2 = some (r1, r2)) :
  Calls Tryd.prog 98 #[.pointer (some ⟨g, 0, none⟩), .agg #[.int .i64 a1_0, .int .i64 a1_1, .int .i64 a1_2]] w fun e w' => e = .returned (.tuple #[.int .i64 r1, .int .i64 r2]) ∧ Below w.heap.size w w' := by
 have hu23 := Tryd.underlying40; have hu33 := Tryd.underlying35; have hu64 := Tryd.underlying105; have HG := Aside0.mk hg; have HR := Aside0.mk hr; have HLd := Aside0.mk hLd; clear hg hr hLd; have H := h; clear h
 unfold code_checker_moves.f at H
 by_cases c1 : a1_0 = 19
 ·rw [if_pos c1] at H; have c1b : (a1_0 == 19) = true := beq_iff_eq.mpr c1
  by_cases c2 : 0 ≤ a1_1
  rotate_left
  ·rw [if_neg c2] at H; exact absurd H (by simp)
  rw [if_pos c2] at H
  by_cases c3 : a1_1 < (l.length : Int)
  rotate_left
  ·rw [if_neg c3] at H; exact absurd H (by simp)
  rw [if_pos c3] at H; obtain ⟨ad, Ae, ce, e0, he0, he1, he2, he3, hel, hec⟩ := at_T35 HR.out a1_1 c2 c3
  cases e0
  clear he0 he1 he2 hel hec; have p2 := eq_true c2; have p3 := eq_true c3; have p2b : decide (0 ≤ a1_1) = true := decide_eq_true c2; have p3b : decide (a1_1 < (l.length : Int)) = true := decide_eq_true c3; clear c2 c3; go_enter Tryd.func98, Tryd.ntmps98
  go_wp2_with (first | ((with_reducible refine gate_dst (N := 3) rfl ?_); (try (refine gate_guard (by rfl) ?_; dsimp only)); refine bx 3 #[.int .i64 a1_0, .int .i64 a1_1, .int .i64 a1_2] 40 ?_; intro gi hgi w1 hbx hbb; clear hgi; have HX := Aside0.mk hbx; have HB := Aside0.mk hbb; clear hbx hbb; have hx0 : w1.cell? ⟨gi, 0, none⟩ = some (.int .i64 a1_0) := (blk_cell HX.out 0).trans rfl; have hx1 : w1.cell? ⟨gi, 1, none⟩ = some (.int .i64 a1_1) := (blk_cell HX.out 1).trans rfl; have hx2 : w1.cell? ⟨gi, 2, none⟩ = some (.int .i64 a1_2) := (blk_cell HX.out 2).trans rfl))
  have HX := Aside0.mk (blk_below HX.out (below_drew (Below.refl _ _))); have HB := Aside0.mk (below_drew1 HB.out); refine start_ (n := 9) (S := fun w' => w'.cell? ⟨g, 0, none⟩ = some (.slice (some ad) l.length c0) ∧ w'.cell? ⟨gi, 1, none⟩ = some (.int .i64 a1_1) ∧ w'.cell? ⟨(ad.add (a1_1.toNat * 4)).block, (ad.add (a1_1.toNat * 4)).off + 3, none⟩ = some (.bool (rd_T35 l a1_1).f3)) (ds := []) #[false, false, false, false, false, false, false, false, false] (by kernel_rfl) rfl rfl ⟨(blk_cell (blk_below HG.out HB.out) 0).trans rfl, (blk_cell HX.out 1).trans rfl, (HB.out.cell (World.block_lt_of_cell? w _ he3)).trans he3⟩ (fun hHeld => ?_); refine with_tabW code_checker_moves.tab3 code_checker_moves.bits3 (fun HT_ HW_ => ?_); generalize w1.drew = w5 at HX HB hHeld ⊢; refine pz 0 (some 10) #[true, false, false, false, false, false, false, false, false] ?_
  refine pz 1 (some 11) #[true, true, false, false, false, false, false, false, false] ?_
  refine pz 2 (some 12) #[true, true, true, false, false, false, false, false, false] ?_
  refine tz 3 (some 13) #[true, true, true, true, false, false, false, false, false] ?_
  refine pz 4 (some 14) #[true, true, true, true, true, false, false, false, false] ?_
  refine tz 5 (some 15) #[true, true, true, true, true, true, false, false, false] ?_
  refine pz 6 (some 16) #[true, true, true, true, true, true, true, false, false] ?_
  refine pz 7 (some 17) #[true, true, true, true, true, true, true, true, false] ?_
  refine tz 8 (some 18) #[true, true, true, true, true, true, true, true, true] ?_
  refine done_ (done_of HT_.out (by kernel_rfl)) ?_; have hx2 : w5.cell? ⟨gi, 2, none⟩ = some (.int .i64 a1_2) := (blk_cell HX.out 2).trans rfl
  cases hb3 : (rd_T35 l a1_1).f3
  ·rw [hb3, if_neg (by decide)] at H; obtain ⟨rfl, rfl⟩ : a1_2 = r1 ∧ (0 : Int) = r2 := by injection H with H; injection H with h1_ h2_; exact ⟨h1_, h2_⟩
   clear H; (try go_wp2); go_ret2; exact ⟨by first | rfl | (simp; done), HB.out⟩
  ·rw [hb3, if_pos rfl] at H; obtain ⟨rfl, rfl⟩ : a1_2 = r1 ∧ (1 : Int) = r2 := by injection H with H; injection H with h1_ h2_; exact ⟨h1_, h2_⟩
   clear H; (try go_wp2); go_ret2; exact ⟨by first | rfl | (simp; done), HB.out⟩
 ·rw [if_neg c1] at H; have c1b : (a1_0 == 19) = false := beq_eq_false_iff_ne.mpr c1
  by_cases c4 : a1_0 = 20
  ·rw [if_pos c4] at H; have c4b : (a1_0 == 20) = true := beq_iff_eq.mpr c4; obtain ⟨rfl, rfl⟩ : a1_1 = r1 ∧ (0 : Int) = r2 := by injection H with H; injection H with h1_ h2_; exact ⟨h1_, h2_⟩
   clear H; go_enter Tryd.func98, Tryd.ntmps98
   go_wp2_with (first | ((with_reducible refine gate_dst (N := 3) rfl ?_); (try (refine gate_guard (by rfl) ?_; dsimp only)); refine bx 3 #[.int .i64 a1_0, .int .i64 a1_1, .int .i64 a1_2] 40 ?_; intro gi hgi w1 hbx hbb; clear hgi; have HX := Aside0.mk hbx; have HB := Aside0.mk hbb; clear hbx hbb; have hx0 : w1.cell? ⟨gi, 0, none⟩ = some (.int .i64 a1_0) := (blk_cell HX.out 0).trans rfl; have hx1 : w1.cell? ⟨gi, 1, none⟩ = some (.int .i64 a1_1) := (blk_cell HX.out 1).trans rfl; have hx2 : w1.cell? ⟨gi, 2, none⟩ = some (.int .i64 a1_2) := (blk_cell HX.out 2).trans rfl))
   go_ret2; exact ⟨by first | rfl | (simp; done), HB.out⟩
  rw [if_neg c4] at H; have c4b : (a1_0 == 20) = false := beq_eq_false_iff_ne.mpr c4
  by_cases c5 : a1_0 < 26
  rotate_left
  ·rw [if_neg c5] at H; have c5b : decide (a1_0 < 26) = false := decide_eq_false c5; obtain ⟨rfl, rfl⟩ : (0 : Int) = r1 ∧ (0 : Int) = r2 := by injection H with H; injection H with h1_ h2_; exact ⟨h1_, h2_⟩
   clear H; go_enter Tryd.func98, Tryd.ntmps98
   go_wp2_with (first | ((with_reducible refine gate_dst (N := 3) rfl ?_); (try (refine gate_guard (by rfl) ?_; dsimp only)); refine bx 3 #[.int .i64 a1_0, .int .i64 a1_1, .int .i64 a1_2] 40 ?_; intro gi hgi w1 hbx hbb; clear hgi; have HX := Aside0.mk hbx; have HB := Aside0.mk hbb; clear hbx hbb; have hx0 : w1.cell? ⟨gi, 0, none⟩ = some (.int .i64 a1_0) := (blk_cell HX.out 0).trans rfl; have hx1 : w1.cell? ⟨gi, 1, none⟩ = some (.int .i64 a1_1) := (blk_cell HX.out 1).trans rfl; have hx2 : w1.cell? ⟨gi, 2, none⟩ = some (.int .i64 a1_2) := (blk_cell HX.out 2).trans rfl))
   go_ret2; exact ⟨by first | rfl | (simp; done), HB.out⟩
  rw [if_pos c5] at H; have c5b : decide (a1_0 < 26) = true := decide_eq_true c5
  by_cases c6 : 0 ≤ a1_0
  rotate_left
  ·rw [if_neg c6] at H; exact absurd H (by simp)
  rw [if_pos c6] at H; obtain ⟨rfl, rfl⟩ : rd code_STACK (a1_0 * 2) = r1 ∧ (rd code_STACK (a1_0 * 2 + 1) : Int) = r2 := by injection H with H; injection H with h1_ h2_; exact ⟨h1_, h2_⟩
  clear H; have p5 := eq_true c5; have p6 := eq_true c6; have p6b : decide (0 ≤ a1_0) = true := decide_eq_true c6; go_enter Tryd.func98, Tryd.ntmps98
  go_wp2_with (first | ((with_reducible refine gate_dst (N := 3) rfl ?_); (try (refine gate_guard (by rfl) ?_; dsimp only)); refine bx 3 #[.int .i64 a1_0, .int .i64 a1_1, .int .i64 a1_2] 40 ?_; intro gi hgi w1 hbx hbb; clear hgi; have HX := Aside0.mk hbx; have HB := Aside0.mk hbb; clear hbx hbb; have hx0 : w1.cell? ⟨gi, 0, none⟩ = some (.int .i64 a1_0) := (blk_cell HX.out 0).trans rfl; have hx1 : w1.cell? ⟨gi, 1, none⟩ = some (.int .i64 a1_1) := (blk_cell HX.out 1).trans rfl; have hx2 : w1.cell? ⟨gi, 2, none⟩ = some (.int .i64 a1_2) := (blk_cell HX.out 2).trans rfl))
  have HX := Aside0.mk (blk_below HX.out (below_drew (Below.refl _ _))); have HB := Aside0.mk (below_drew1 HB.out); have hst := STACKAT (Laid.below HLd.out HB.out) a1_0 c6 c5; refine start_ (n := 12) (S := fun w' => w'.cell? ⟨gi, 0, none⟩ = some (.int .i64 a1_0) ∧ w'.cell? ⟨1, a1_0.toNat * 2, none⟩ = some (.int .i64 (rd code_STACK (a1_0 * 2))) ∧ w'.cell? ⟨1, a1_0.toNat * 2 + 1, none⟩ = some (.int .i64 (rd code_STACK (a1_0 * 2 + 1)))) (ds := []) #[false, false, false, false, false, false, false, false, false, false, false, false] (by kernel_rfl) rfl rfl ⟨(blk_cell HX.out 0).trans rfl, hst.1, hst.2⟩ (fun hHeld => ?_); refine with_tabW code_checker_moves.tab9 code_checker_moves.bits9 (fun HT_ HW_ => ?_); generalize w1.drew = w5 at HX HB hst hHeld ⊢; refine pz 0 (some 30) #[true, false, false, false, false, false, false, false, false, false, false, false] ?_
  refine tz 1 (some 31) #[true, true, false, false, false, false, false, false, false, false, false, false] ?_
  refine pz 2 (some 32) #[true, true, true, false, false, false, false, false, false, false, false, false] ?_
  refine pz 3 (some 33) #[true, true, true, true, false, false, false, false, false, false, false, false] ?_
  refine tz 4 (some 34) #[true, true, true, true, true, false, false, false, false, false, false, false] ?_
  refine pz 5 (some 35) #[true, true, true, true, true, true, false, false, false, false, false, false] ?_
  refine tz 6 (some 36) #[true, true, true, true, true, true, true, false, false, false, false, false] ?_
  refine pz 7 (some 37) #[true, true, true, true, true, true, true, true, false, false, false, false] ?_
  refine pz 8 (some 38) #[true, true, true, true, true, true, true, true, true, false, false, false] ?_
  refine tz 9 (some 39) #[true, true, true, true, true, true, true, true, true, true, false, false] ?_
  refine pz 10 (some 4) #[true, true, true, true, true, true, true, true, true, true, true, false] ?_
  refine pz 11 (some 5) #[true, true, true, true, true, true, true, true, true, true, true, true] ?_
  refine done_ (done_of HT_.out (by kernel_rfl)) ?_; (try go_wp2); go_ret2; exact ⟨by first | rfl | (simp; done), HB.out⟩

/-! ### code_next: function 99 -/
def code_next.f (a0_0 : Int) (a0_1 : Int) (a0_2 : Int) (a1 : Int) : Option (List Int) := if a0_0 = 17 then (some (([a0_1] : List Int))) else (if a0_0 = 18 then (some (([wrap64 (a1 + 1), a0_1] : List Int))) else (if a0_0 = 20 then (some ([] : List Int)) else (some (([wrap64 (a1 + 1)] : List Int)))))
set_option maxHeartbeats 8000000 in
set_option maxRecDepth 100000 in
theorem code_next.calls (a0_0 : Int) (a0_1 : Int) (a0_2 : Int) (a1 : Int) (r : List Int) (w : World) (h : code_next.f a0_0 a0_1 a0_2 a1 = some r) :
  Calls Tryd.prog 99 #[.agg #[.int .i64 a0_0, .int .i64 a0_1, .int .i64 a0_2], .int .i64 a1] w fun e w' => ∃ v0_ : Value, e = .returned (v0_) ∧ Kd.R (Kd.int .i64) 3 w' w.heap.size (fun _ => True) v0_ r ∧ Below w.heap.size w w' := by
 have hu40 := Tryd.underlying40; have HB := Aside0.mk (Below.refl w.heap.size w); have H : (if a0_0 = 17 then (some (([a0_1] : List Int))) else (if a0_0 = 18 then (some (([wrap64 (a1 + 1), a0_1] : List Int))) else (if a0_0 = 20 then (some ([] : List Int)) else (some (([wrap64 (a1 + 1)] : List Int)))))) = some r := h; clear h; have HH_ := Aside0.mk H; clear H; go_enter Tryd.func99, Tryd.ntmps99
 go_wp2_with (first | ((with_reducible refine gate_dst (N := 2) rfl ?_); refine bx 2 #[.int .i64 a0_0, .int .i64 a0_1, .int .i64 a0_2] 40 ?_; intro gb123 hg w4 hbox hb; have n_ := an4 (below_step bl hb) (hbox) (bg hg) (bg hg); clear HB; obtain ⟨HB, BK123, GW123, GE123⟩ := n_; clear hb hbox hg; obtain ⟨hcz5_0, hcz5_1, hcz5_2, hfz5_0, hfz5_1, hfz5_2⟩ := bc3 BK123.out; refine ?roundEnd))
 case roundEnd =>
  have H := HH_.out; clear HH_
  by_cases c3 : a0_0 = 17
  ·rw [if_pos c3] at H; obtain ⟨c3b0, c3b1⟩ := eqs c3; clear c3; obtain ⟨y124, hy124⟩ : ∃ y_ : List Int, y_ = (([a0_1] : List Int)) := ⟨_, rfl⟩; (first | replace H := hs hy124 H | rw [← hy124] at H)
   have Ny124 := Aside0.mk hy124; clear hy124; obtain rfl := Option.some.inj H
   go_wp2_with (first | ((with_reducible refine gate_dst (N := 11) rfl ?_); refine Kd.R_lit (Kd.int .i64) _ 3 ?hg (N := 11) ?hd (xs := ([a0_1] : List Int)) (inner := [.int .i64 a0_1]) (ok := fun _ => True) (okp := fun _ => True) ?hr ?hp (fun _ hk => hk) trivial (Below.refl _ _) (Nat.le_refl _) (by simp) ?_; (case hd => rfl); (case hg => rfl); (case hr => first | (go_simp; done) | (go_simp; rfl)); (case hp => exact (Reps.one (show Kd.M (Kd.int .i64) _ _ _ a0_1 [.int .i64 a0_1] from rfl) (Reps.none _ _))); intro v125 w6 ho7 hb hg_ hnew_; clear hg_ hnew_; (first | rw [← Ny124.out] at ho7 | (simp only [Int.reduceToNat] at ho7; rw [← Ny124.out] at ho7)); have n_ := an3 (Kd.R_lower ho7 (below_size bl)) (bu BK123.out hb) (below_step bl hb); clear BK123 HB; obtain ⟨HO126, BK123, HB⟩ := n_; clear hb ho7))
   go_ret; exact ⟨_, pe, by (with_reducible repeat (first | apply Kd.R_alloc | apply Kd.R_drewN | apply Kd.R_drew)); exact HO126.out, bl⟩
  ·rw [if_neg c3] at H; obtain ⟨c3b0, c3b1⟩ := eqf c3; have HH_ := Aside0.mk H; clear H; refine ?roundEnd; go_wp2
   case roundEnd =>
    have H := HH_.out; clear HH_
    by_cases c8 : a0_0 = 18
    ·rw [if_pos c8] at H; obtain ⟨c8b0, c8b1⟩ := eqs c8; clear c8; obtain ⟨y127, hy127⟩ : ∃ y_ : List Int, y_ = (([wrap64 (a1 + 1), a0_1] : List Int)) := ⟨_, rfl⟩; (first | replace H := hs hy127 H | rw [← hy127] at H)
     have Ny127 := Aside0.mk hy127; clear hy127; obtain rfl := Option.some.inj H
     go_wp2_with (first | ((with_reducible refine gate_dst (N := 18) rfl ?_); refine Kd.R_lit (Kd.int .i64) _ 3 ?hg (N := 18) ?hd (xs := ([wrap64 (a1 + 1), a0_1] : List Int)) (inner := [.int .i64 (wrap64 (a1 + 1)), .int .i64 a0_1]) (ok := fun _ => True) (okp := fun _ => True) ?hr ?hp (fun _ hk => hk) trivial (Below.refl _ _) (Nat.le_refl _) (by simp) ?_; (case hd => rfl); (case hg => rfl); (case hr => first | (go_simp; done) | (go_simp; rfl)); (case hp => exact (Reps.one (show Kd.M (Kd.int .i64) _ _ _ (wrap64 (a1 + 1)) [.int .i64 (wrap64 (a1 + 1))] from rfl) (Reps.one (show Kd.M (Kd.int .i64) _ _ _ a0_1 [.int .i64 a0_1] from rfl) (Reps.none _ _)))); intro v128 w11 ho12 hb hg_ hnew_; clear hg_ hnew_; (first | rw [← Ny127.out] at ho12 | (simp only [Int.reduceToNat] at ho12; rw [← Ny127.out] at ho12)); have n_ := an3 (Kd.R_lower ho12 (below_size bl)) (bu BK123.out hb) (below_step bl hb); clear BK123 HB; obtain ⟨HO129, BK123, HB⟩ := n_; clear hb ho12))
     go_ret; exact ⟨_, pe, by (with_reducible repeat (first | apply Kd.R_alloc | apply Kd.R_drewN | apply Kd.R_drew)); exact HO129.out, bl⟩
    ·rw [if_neg c8] at H; obtain ⟨c8b0, c8b1⟩ := eqf c8; have HH_ := Aside0.mk H; clear H; refine ?roundEnd; go_wp2
     case roundEnd =>
      have H := HH_.out; clear HH_
      by_cases c13 : a0_0 = 20
      ·rw [if_pos c13] at H; obtain ⟨c13b0, c13b1⟩ := eqs c13; clear c13; obtain rfl := Option.some.inj H; go_wp2; go_ret; exact ⟨_, pe, pn, bl⟩
      ·rw [if_neg c13] at H; obtain ⟨c13b0, c13b1⟩ := eqf c13; obtain ⟨y130, hy130⟩ : ∃ y_ : List Int, y_ = (([wrap64 (a1 + 1)] : List Int)) := ⟨_, rfl⟩; (first | replace H := hs hy130 H | rw [← hy130] at H)
       have Ny130 := Aside0.mk hy130; clear hy130; obtain rfl := Option.some.inj H
       go_wp2_with (first | ((with_reducible refine gate_dst (N := 23) rfl ?_); refine Kd.R_lit (Kd.int .i64) _ 3 ?hg (N := 23) ?hd (xs := ([wrap64 (a1 + 1)] : List Int)) (inner := [.int .i64 (wrap64 (a1 + 1))]) (ok := fun _ => True) (okp := fun _ => True) ?hr ?hp (fun _ hk => hk) trivial (Below.refl _ _) (Nat.le_refl _) (by simp) ?_; (case hd => rfl); (case hg => rfl); (case hr => first | (go_simp; done) | (go_simp; rfl)); (case hp => exact (Reps.one (show Kd.M (Kd.int .i64) _ _ _ (wrap64 (a1 + 1)) [.int .i64 (wrap64 (a1 + 1))] from rfl) (Reps.none _ _))); intro v131 w18 ho19 hb hg_ hnew_; clear hg_ hnew_; (first | rw [← Ny130.out] at ho19 | (simp only [Int.reduceToNat] at ho19; rw [← Ny130.out] at ho19)); have n_ := an3 (Kd.R_lower ho19 (below_size bl)) (bu BK123.out hb) (below_step bl hb); clear BK123 HB; obtain ⟨HO132, BK123, HB⟩ := n_; clear hb ho19))
       go_ret; exact ⟨_, pe, by (with_reducible repeat (first | apply Kd.R_alloc | apply Kd.R_drewN | apply Kd.R_drew)); exact HO132.out, bl⟩

end Go.Proofs.YtmbjogpphegoaaaDoor.P
