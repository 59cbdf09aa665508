import Derived.Test.YthckiolgpgplpaaDoorPx2
namespace Go.Proofs.YthckiolgpgplpaaDoor.YD
set_option maxHeartbeats 8000000
set_option maxRecDepth 100000
open Go.RowKit YC YA YB
attribute [local go_sem] eF eD fD fE dS dU eG eO
set_option linter.unusedVariables false
set_option linter.unusedSimpArgs false
def aZ.f (l : List S46) (a1_0 : Int) (a1_1 : Int) (a1_2 : Int) : Option (Int × Int) := if a1_0 = 19 then (if 0 ≤ a1_1 then (if a1_1 < (l.length : Int) then (if (au l a1_1).f3 = true then some (a1_2, 1) else some (a1_2, 0)) else none) else none) else (if a1_0 = 20 then some (a1_1, 0) else (if a1_0 < 26 then (if 0 ≤ a1_0 then some (rd aN (a1_0 * 2), rd aN (a1_0 * 2 + 1)) else none) else some (0, 0)))
def aZ.T3 : Bool × List (List Nat × List Nat) := (true, [([], []), ([0], [0]), ([1], [1]), ([2], [2]), ([], []), ([4], [4]), ([3, 5], [3, 5]), ([6], [6]), ([7], [7])])
def aZ.B3 : List Nat := [0, 1, 3, 7, 0, 16, 63, 127, 255]
theorem aZ.tab3 : jb .any (opsOf Tryd.f85 3) = aZ.T3 := by kernel_rfl
theorem aZ.bits3 : iW aZ.T3.2 aZ.B3 = true := by kernel_rfl
def aZ.T9 : Bool × List (List Nat × List Nat) := (true, [([], []), ([0], [0]), ([1], [1]), ([2], [2]), ([3], [3]), ([], []), ([5], [5]), ([6], [6]), ([7], [7]), ([8], [8]), ([4, 0, 1, 2, 3, 4], [4]), ([9, 10, 0, 1, 2, 3, 4, 5, 6, 7, 8, 9, 10], [9])])
def aZ.B9 : List Nat := [0, 1, 3, 7, 15, 0, 32, 96, 224, 480, 31, 2047]
theorem aZ.tab9 : jb .any (opsOf Tryd.f85 9) = aZ.T9 := by kernel_rfl
theorem aZ.bits9 : iW aZ.T9.2 aZ.B9 = true := by kernel_rfl
theorem STACKAT {w : World} (h : Laid w) (i : Int) (h0 : 0 ≤ i) (h1 : i < 26) : w.cell? ⟨1, i.toNat * 2, none⟩ = some (.int .i64 (rd aN (i * 2))) ∧ w.cell? ⟨1, i.toNat * 2 + 1, none⟩ = some (.int .i64 (rd aN (i * 2 + 1))) := by
  have h1 := h.stack (i.toNat * 2) (by omega)
  have h2 := h.stack (i.toNat * 2 + 1) (by omega)
  rw [show ((i.toNat * 2 : Nat) : Int) = i * 2 by omega] at h1
  rw [show ((i.toNat * 2 + 1 : Nat) : Int) = i * 2 + 1 by omega] at h2
  exact ⟨h1, h2⟩
theorem aZ.calls (g : Nat) (A0 : Option Addr) (c0 : Nat) (l : List S46) (v1 v2 v3 v4 v5 : Value) (a1_0 : Int) (a1_1 : Int) (a1_2 : Int) (r1 : Int) (r2 : Int) (w : World) (hg : w.heap[g]? = some (.cells #[.slice A0 l.length c0, v1, v2, v3, v4, v5] 101 (0, 0))) (hr : Kd.C k46 w A0 l.length l) (hLd : Laid w) (h : aZ.f l a1_0 a1_1 a1_2 = some (r1, r2)) :
  Calls Tryd.prog 85 #[.pointer (some ⟨g, 0, none⟩), .agg #[.int .i64 a1_0, .int .i64 a1_1, .int .i64 a1_2]] w fun e w' => e = .returned (.tuple #[.int .i64 r1, .int .i64 r2]) ∧ Below w.heap.size w w' := by
 have hu23 := Tryd.underlying43; have hu33 := Tryd.underlying46; have hu64 := Tryd.underlying101; have HG := aa.mk hg; have HR := aa.mk hr; have HLd := aa.mk hLd; clear hg hr hLd; have H := h; clear h
 unfold aZ.f at H
 by_cases c1 : a1_0 = 19
 ·rw [if_pos c1] at H; have c1b : (a1_0 == 19) = true := beq_iff_eq.mpr c1
  by_cases c2 : 0 ≤ a1_1
  rotate_left
  ·rw [if_neg c2] at H; exact absurd H (by simp)
  rw [if_pos c2] at H
  by_cases c3 : a1_1 < (l.length : Int)
  rotate_left
  ·rw [if_neg c3] at H; exact absurd H (by simp)
  rw [if_pos c3] at H; obtain ⟨ad, Ae, ce, e0, he0, he1, he2, he3, hel, hec⟩ := eZ HR.out a1_1 c2 c3
  cases e0
  clear he0 he1 he2 hel hec; have p2 := eq_true c2; have p3 := eq_true c3; have p2b : decide (0 ≤ a1_1) = true := Za c2; have p3b : decide (a1_1 < (l.length : Int)) = true := Za c3; clear c2 c3; go_enter Tryd.func85, Tryd.ntmps85
  go_wp2_with (first | ((with_reducible refine aY (N := 3) rfl ?_); (try (refine aH (by rfl) ?_; dsimp only)); refine bx 3 #[.int .i64 a1_0, .int .i64 a1_1, .int .i64 a1_2] 43 ?_; intro gi hgi w1 hbx hbb; clear hgi; have HX := aa.mk hbx; have HB := aa.mk hbb; clear hbx hbb; have hx0 : w1.cell? ⟨gi, 0, none⟩ = some (.int .i64 a1_0) := (ae HX.out 0).trans rfl; have hx1 : w1.cell? ⟨gi, 1, none⟩ = some (.int .i64 a1_1) := (ae HX.out 1).trans rfl; have hx2 : w1.cell? ⟨gi, 2, none⟩ = some (.int .i64 a1_2) := (ae HX.out 2).trans rfl))
  have HX := aa.mk (cB HX.out (iF (Below.refl _ _))); have HB := aa.mk (dm HB.out); refine lu (n := 9) (S := fun w' => w'.cell? ⟨g, 0, none⟩ = some (.slice (some ad) l.length c0) ∧ w'.cell? ⟨gi, 1, none⟩ = some (.int .i64 a1_1) ∧ w'.cell? ⟨(ad.add (a1_1.toNat * 4)).block, (ad.add (a1_1.toNat * 4)).off + 3, none⟩ = some (.bool (au l a1_1).f3)) (ds := []) #[false, false, false, false, false, false, false, false, false] (by kernel_rfl) rfl rfl ⟨(ae (cB HG.out HB.out) 0).trans rfl, (ae HX.out 1).trans rfl, (HB.out.cell (World.block_lt_of_cell? w _ he3)).trans he3⟩ (fun hHeld => ?_); refine iR aZ.tab3 aZ.bits3 (fun HT_ HW_ => ?_); generalize w1.drew = w5 at HX HB hHeld ⊢; refine pz 0 (some 10) #[true, false, false, false, false, false, false, false, false] ?_
  refine pz 1 (some 11) #[true, true, false, false, false, false, false, false, false] ?_
  refine pz 2 (some 12) #[true, true, true, false, false, false, false, false, false] ?_
  refine tz 3 (some 13) #[true, true, true, true, false, false, false, false, false] ?_
  refine pz 4 (some 14) #[true, true, true, true, true, false, false, false, false] ?_
  refine tz 5 (some 15) #[true, true, true, true, true, true, false, false, false] ?_
  refine pz 6 (some 16) #[true, true, true, true, true, true, true, false, false] ?_
  refine pz 7 (some 17) #[true, true, true, true, true, true, true, true, false] ?_
  refine tz 8 (some 18) #[true, true, true, true, true, true, true, true, true] ?_
  refine mW (jF HT_.out (by kernel_rfl)) ?_; have hx2 : w5.cell? ⟨gi, 2, none⟩ = some (.int .i64 a1_2) := (ae HX.out 2).trans rfl
  cases hb3 : (au l a1_1).f3
  ·rw [hb3, if_neg (by decide)] at H; obtain ⟨rfl, rfl⟩ : a1_2 = r1 ∧ (0 : Int) = r2 := by injection H with H; injection H with h1_ h2_; exact ⟨h1_, h2_⟩
   clear H; (try go_wp2); go_ret2; exact ⟨by first | rfl | (simp; done), HB.out⟩
  ·rw [hb3, if_pos rfl] at H; obtain ⟨rfl, rfl⟩ : a1_2 = r1 ∧ (1 : Int) = r2 := by injection H with H; injection H with h1_ h2_; exact ⟨h1_, h2_⟩
   clear H; (try go_wp2); go_ret2; exact ⟨by first | rfl | (simp; done), HB.out⟩
 ·rw [if_neg c1] at H; have c1b : (a1_0 == 19) = false := Zh c1
  by_cases c4 : a1_0 = 20
  ·rw [if_pos c4] at H; have c4b : (a1_0 == 20) = true := beq_iff_eq.mpr c4; obtain ⟨rfl, rfl⟩ : a1_1 = r1 ∧ (0 : Int) = r2 := by injection H with H; injection H with h1_ h2_; exact ⟨h1_, h2_⟩
   clear H; go_enter Tryd.func85, Tryd.ntmps85
   go_wp2_with (first | ((with_reducible refine aY (N := 3) rfl ?_); (try (refine aH (by rfl) ?_; dsimp only)); refine bx 3 #[.int .i64 a1_0, .int .i64 a1_1, .int .i64 a1_2] 43 ?_; intro gi hgi w1 hbx hbb; clear hgi; have HX := aa.mk hbx; have HB := aa.mk hbb; clear hbx hbb; have hx0 : w1.cell? ⟨gi, 0, none⟩ = some (.int .i64 a1_0) := (ae HX.out 0).trans rfl; have hx1 : w1.cell? ⟨gi, 1, none⟩ = some (.int .i64 a1_1) := (ae HX.out 1).trans rfl; have hx2 : w1.cell? ⟨gi, 2, none⟩ = some (.int .i64 a1_2) := (ae HX.out 2).trans rfl))
   go_ret2; exact ⟨by first | rfl | (simp; done), HB.out⟩
  rw [if_neg c4] at H; have c4b : (a1_0 == 20) = false := Zh c4
  by_cases c5 : a1_0 < 26
  rotate_left
  ·rw [if_neg c5] at H; have c5b : decide (a1_0 < 26) = false := Zb c5; obtain ⟨rfl, rfl⟩ : (0 : Int) = r1 ∧ (0 : Int) = r2 := by injection H with H; injection H with h1_ h2_; exact ⟨h1_, h2_⟩
   clear H; go_enter Tryd.func85, Tryd.ntmps85
   go_wp2_with (first | ((with_reducible refine aY (N := 3) rfl ?_); (try (refine aH (by rfl) ?_; dsimp only)); refine bx 3 #[.int .i64 a1_0, .int .i64 a1_1, .int .i64 a1_2] 43 ?_; intro gi hgi w1 hbx hbb; clear hgi; have HX := aa.mk hbx; have HB := aa.mk hbb; clear hbx hbb; have hx0 : w1.cell? ⟨gi, 0, none⟩ = some (.int .i64 a1_0) := (ae HX.out 0).trans rfl; have hx1 : w1.cell? ⟨gi, 1, none⟩ = some (.int .i64 a1_1) := (ae HX.out 1).trans rfl; have hx2 : w1.cell? ⟨gi, 2, none⟩ = some (.int .i64 a1_2) := (ae HX.out 2).trans rfl))
   go_ret2; exact ⟨by first | rfl | (simp; done), HB.out⟩
  rw [if_pos c5] at H; have c5b : decide (a1_0 < 26) = true := Za c5
  by_cases c6 : 0 ≤ a1_0
  rotate_left
  ·rw [if_neg c6] at H; exact absurd H (by simp)
  rw [if_pos c6] at H; obtain ⟨rfl, rfl⟩ : rd aN (a1_0 * 2) = r1 ∧ (rd aN (a1_0 * 2 + 1) : Int) = r2 := by injection H with H; injection H with h1_ h2_; exact ⟨h1_, h2_⟩
  clear H; have p5 := eq_true c5; have p6 := eq_true c6; have p6b : decide (0 ≤ a1_0) = true := Za c6; go_enter Tryd.func85, Tryd.ntmps85
  go_wp2_with (first | ((with_reducible refine aY (N := 3) rfl ?_); (try (refine aH (by rfl) ?_; dsimp only)); refine bx 3 #[.int .i64 a1_0, .int .i64 a1_1, .int .i64 a1_2] 43 ?_; intro gi hgi w1 hbx hbb; clear hgi; have HX := aa.mk hbx; have HB := aa.mk hbb; clear hbx hbb; have hx0 : w1.cell? ⟨gi, 0, none⟩ = some (.int .i64 a1_0) := (ae HX.out 0).trans rfl; have hx1 : w1.cell? ⟨gi, 1, none⟩ = some (.int .i64 a1_1) := (ae HX.out 1).trans rfl; have hx2 : w1.cell? ⟨gi, 2, none⟩ = some (.int .i64 a1_2) := (ae HX.out 2).trans rfl))
  have HX := aa.mk (cB HX.out (iF (Below.refl _ _))); have HB := aa.mk (dm HB.out); have hst := STACKAT (Laid.below HLd.out HB.out) a1_0 c6 c5; refine lu (n := 12) (S := fun w' => w'.cell? ⟨gi, 0, none⟩ = some (.int .i64 a1_0) ∧ w'.cell? ⟨1, a1_0.toNat * 2, none⟩ = some (.int .i64 (rd aN (a1_0 * 2))) ∧ w'.cell? ⟨1, a1_0.toNat * 2 + 1, none⟩ = some (.int .i64 (rd aN (a1_0 * 2 + 1)))) (ds := []) #[false, false, false, false, false, false, false, false, false, false, false, false] (by kernel_rfl) rfl rfl ⟨(ae HX.out 0).trans rfl, hst.1, hst.2⟩ (fun hHeld => ?_); refine iR aZ.tab9 aZ.bits9 (fun HT_ HW_ => ?_); generalize w1.drew = w5 at HX HB hst hHeld ⊢; refine pz 0 (some 30) #[true, false, false, false, false, false, false, false, false, false, false, false] ?_
  refine tz 1 (some 31) #[true, true, false, false, false, false, false, false, false, false, false, false] ?_
  refine pz 2 (some 32) #[true, true, true, false, false, false, false, false, false, false, false, false] ?_
  refine pz 3 (some 33) #[true, true, true, true, false, false, false, false, false, false, false, false] ?_
  refine tz 4 (some 34) #[true, true, true, true, true, false, false, false, false, false, false, false] ?_
  refine pz 5 (some 35) #[true, true, true, true, true, true, false, false, false, false, false, false] ?_
  refine tz 6 (some 36) #[true, true, true, true, true, true, true, false, false, false, false, false] ?_
  refine pz 7 (some 37) #[true, true, true, true, true, true, true, true, false, false, false, false] ?_
  refine pz 8 (some 38) #[true, true, true, true, true, true, true, true, true, false, false, false] ?_
  refine tz 9 (some 39) #[true, true, true, true, true, true, true, true, true, true, false, false] ?_
  refine pz 10 (some 4) #[true, true, true, true, true, true, true, true, true, true, true, false] ?_
  refine pz 11 (some 5) #[true, true, true, true, true, true, true, true, true, true, true, true] ?_
  refine mW (jF HT_.out (by kernel_rfl)) ?_; (try go_wp2); go_ret2; exact ⟨by first | rfl | (simp; done), HB.out⟩
def jo.f (a0_0 : Int) (a0_1 : Int) (a0_2 : Int) (a1 : Int) : Option (List Int) := if a0_0 = 17 then (some (([a0_1] : List Int))) else (if a0_0 = 18 then (some (([wrap64 (a1 + 1), a0_1] : List Int))) else (if a0_0 = 20 then (some ([] : List Int)) else (some (([wrap64 (a1 + 1)] : List Int)))))
theorem jo.calls (a0_0 : Int) (a0_1 : Int) (a0_2 : Int) (a1 : Int) (r : List Int) (w : World) (h : jo.f a0_0 a0_1 a0_2 a1 = some r) :
  Calls Tryd.prog 86 #[.agg #[.int .i64 a0_0, .int .i64 a0_1, .int .i64 a0_2], .int .i64 a1] w fun e w' => ∃ v0_ : Value, e = .returned (v0_) ∧ Kd.R (Kd.int .i64) 3 w' w.heap.size (fun _ => True) v0_ r ∧ Below w.heap.size w w' := by
 have hu43 := Tryd.underlying43; have HB := aa.mk (Below.refl w.heap.size w); have H : (if a0_0 = 17 then (some (([a0_1] : List Int))) else (if a0_0 = 18 then (some (([wrap64 (a1 + 1), a0_1] : List Int))) else (if a0_0 = 20 then (some ([] : List Int)) else (some (([wrap64 (a1 + 1)] : List Int)))))) = some r := h; clear h; have HH_ := aa.mk H; clear H; go_enter Tryd.func86, Tryd.ntmps86
 go_wp2_with (first | ((with_reducible refine aY (N := 2) rfl ?_); refine bx 2 #[.int .i64 a0_0, .int .i64 a0_1, .int .i64 a0_2] 43 ?_; intro gb119 hg w4 hbox hb; have n_ := an4 (aj bl hb) (hbox) (bg hg) (bg hg); clear HB; obtain ⟨HB, BK119, GW119, GE119⟩ := n_; clear hb hbox hg; obtain ⟨hcz5_0, hcz5_1, hcz5_2, hfz5_0, hfz5_1, hfz5_2⟩ := bc3 BK119.out; refine ?roundEnd))
 case roundEnd =>
  have H := HH_.out; clear HH_
  by_cases c3 : a0_0 = 17
  ·rw [if_pos c3] at H; obtain ⟨c3b0, c3b1⟩ := eqs c3; clear c3; obtain ⟨y120, hy120⟩ : ∃ y_ : List Int, y_ = (([a0_1] : List Int)) := ⟨_, rfl⟩; (first | replace H := hs hy120 H | rw [← hy120] at H)
   have Ny120 := aa.mk hy120; clear hy120; obtain rfl := Zg H
   go_wp2_with (first | ((with_reducible refine aY (N := 11) rfl ?_); refine Kd.fJ (Kd.int .i64) _ 3 ?hg (N := 11) ?hd (xs := ([a0_1] : List Int)) (inner := [.int .i64 a0_1]) (ok := fun _ => True) (okp := fun _ => True) ?hr ?hp (fun _ hk => hk) trivial (Below.refl _ _) (Zd _) (by simp) ?_; (case hd => rfl); (case hg => rfl); (case hr => first | (go_simp; done) | (go_simp; rfl)); (case hp => exact (bJ.one (show Kd.M (Kd.int .i64) _ _ _ a0_1 [.int .i64 a0_1] from rfl) (bJ.none _ _))); intro v121 w6 ho7 hb hg_ hnew_; clear hg_ hnew_; (first | rw [← Ny120.out] at ho7 | (simp only [Int.reduceToNat] at ho7; rw [← Ny120.out] at ho7)); have n_ := an3 (Kd.bU ho7 (aK bl)) (bu BK119.out hb) (aj bl hb); clear BK119 HB; obtain ⟨HO122, BK119, HB⟩ := n_; clear hb ho7))
   go_ret; exact ⟨_, pe, bR HO122.out, bl⟩
  ·rw [if_neg c3] at H; obtain ⟨c3b0, c3b1⟩ := eqf c3; have HH_ := aa.mk H; clear H; refine ?roundEnd; go_wp2
   case roundEnd =>
    have H := HH_.out; clear HH_
    by_cases c8 : a0_0 = 18
    ·rw [if_pos c8] at H; obtain ⟨c8b0, c8b1⟩ := eqs c8; clear c8; obtain ⟨y123, hy123⟩ : ∃ y_ : List Int, y_ = (([wrap64 (a1 + 1), a0_1] : List Int)) := ⟨_, rfl⟩; (first | replace H := hs hy123 H | rw [← hy123] at H)
     have Ny123 := aa.mk hy123; clear hy123; obtain rfl := Zg H
     go_wp2_with (first | ((with_reducible refine aY (N := 18) rfl ?_); refine Kd.fJ (Kd.int .i64) _ 3 ?hg (N := 18) ?hd (xs := ([wrap64 (a1 + 1), a0_1] : List Int)) (inner := [.int .i64 (wrap64 (a1 + 1)), .int .i64 a0_1]) (ok := fun _ => True) (okp := fun _ => True) ?hr ?hp (fun _ hk => hk) trivial (Below.refl _ _) (Zd _) (by simp) ?_; (case hd => rfl); (case hg => rfl); (case hr => first | (go_simp; done) | (go_simp; rfl)); (case hp => exact (bJ.one (show Kd.M (Kd.int .i64) _ _ _ (wrap64 (a1 + 1)) [.int .i64 (wrap64 (a1 + 1))] from rfl) (bJ.one (show Kd.M (Kd.int .i64) _ _ _ a0_1 [.int .i64 a0_1] from rfl) (bJ.none _ _)))); intro v124 w11 ho12 hb hg_ hnew_; clear hg_ hnew_; (first | rw [← Ny123.out] at ho12 | (simp only [Int.reduceToNat] at ho12; rw [← Ny123.out] at ho12)); have n_ := an3 (Kd.bU ho12 (aK bl)) (bu BK119.out hb) (aj bl hb); clear BK119 HB; obtain ⟨HO125, BK119, HB⟩ := n_; clear hb ho12))
     go_ret; exact ⟨_, pe, bR HO125.out, bl⟩
    ·rw [if_neg c8] at H; obtain ⟨c8b0, c8b1⟩ := eqf c8; have HH_ := aa.mk H; clear H; refine ?roundEnd; go_wp2
     case roundEnd =>
      have H := HH_.out; clear HH_
      by_cases c13 : a0_0 = 20
      ·rw [if_pos c13] at H; obtain ⟨c13b0, c13b1⟩ := eqs c13; clear c13; obtain rfl := Zg H; go_wp2; go_ret; exact ⟨_, pe, pn, bl⟩
      ·rw [if_neg c13] at H; obtain ⟨c13b0, c13b1⟩ := eqf c13; obtain ⟨y126, hy126⟩ : ∃ y_ : List Int, y_ = (([wrap64 (a1 + 1)] : List Int)) := ⟨_, rfl⟩; (first | replace H := hs hy126 H | rw [← hy126] at H)
       have Ny126 := aa.mk hy126; clear hy126; obtain rfl := Zg H
       go_wp2_with (first | ((with_reducible refine aY (N := 23) rfl ?_); refine Kd.fJ (Kd.int .i64) _ 3 ?hg (N := 23) ?hd (xs := ([wrap64 (a1 + 1)] : List Int)) (inner := [.int .i64 (wrap64 (a1 + 1))]) (ok := fun _ => True) (okp := fun _ => True) ?hr ?hp (fun _ hk => hk) trivial (Below.refl _ _) (Zd _) (by simp) ?_; (case hd => rfl); (case hg => rfl); (case hr => first | (go_simp; done) | (go_simp; rfl)); (case hp => exact (bJ.one (show Kd.M (Kd.int .i64) _ _ _ (wrap64 (a1 + 1)) [.int .i64 (wrap64 (a1 + 1))] from rfl) (bJ.none _ _))); intro v127 w18 ho19 hb hg_ hnew_; clear hg_ hnew_; (first | rw [← Ny126.out] at ho19 | (simp only [Int.reduceToNat] at ho19; rw [← Ny126.out] at ho19)); have n_ := an3 (Kd.bU ho19 (aK bl)) (bu BK119.out hb) (aj bl hb); clear BK119 HB; obtain ⟨HO128, BK119, HB⟩ := n_; clear hb ho19))
       go_ret; exact ⟨_, pe, bR HO128.out, bl⟩
end Go.Proofs.YthckiolgpgplpaaDoor.YD
