import Derived.Test.YthckiolgpgplpaaDoorPx11
namespace Go.Proofs.YthckiolgpgplpaaDoor.YD
set_option maxHeartbeats 8000000
set_option maxRecDepth 100000
open Go.RowKit YC YA YB
attribute [local go_sem] eF eD fD fE dS dU eG eO
set_option linter.unusedVariables false
set_option linter.unusedSimpArgs false
mutual
def af.j0 : Nat → List (S46) → Int → Bool → Option (List Int × Bool)
 | 0, _, _, _ => none
 | k + 1, x0, x1, x32 => if x32 = true then (some (([] : List Int), false)) else (if 0 ≤ x1 then (if x1 < (x0.length : Int) then (af.l0 k x0 ([] : List Int) 0 ((au x0 x1).f0) ((au x0 x1).f1) ((au x0 x1).f2) ((au x0 x1).f3)) else (none)) else (none))
def af.l0 : Nat → List (S46) → List Int → Int → List (S43) → Int → Int → Bool → Option (List Int × Bool)
 | 0, _, _, _, _, _, _, _ => none
 | k + 1, x0, x7, x8, x293000, x293001, x293002, x293003 => if x8 < (x293000.length : Int) then (if x7.length < 17592186044416 then (af.l0 k x0 (x7 ++ [(-1)]) (wrap64 (x8 + 1)) x293000 x293001 x293002 x293003) else (none)) else (if 0 < (x7.length : Int) then (af.l1 k x0 (x7.set (0 : Int).toNat 0) true x293000 x293001 x293002 x293003) else (none))
def af.l1 : Nat → List (S46) → List Int → Bool → List (S43) → Int → Int → Bool → Option (List Int × Bool)
 | 0, _, _, _, _, _, _, _ => none
 | k + 1, x0, x7, x9, x293000, x293001, x293002, x293003 => if x9 = true then (af.l2 k x0 x7 false 0 x293000 x293001 x293002 x293003) else (some (x7, true))
def af.l2 : Nat → List (S46) → List Int → Bool → Int → List (S43) → Int → Int → Bool → Option (List Int × Bool)
 | 0, _, _, _, _, _, _, _, _ => none
 | k + 1, x0, x7, x9, x10, x293000, x293001, x293002, x293003 => if x10 < (x7.length : Int) then (if 0 ≤ x10 then (if (rd x7 x10) < 0 then (af.l2 k x0 x7 x9 (wrap64 (x10 + 1)) x293000 x293001 x293002 x293003) else (if x10 < (x293000.length : Int) then ((dM.f x0 ((az x293000 x10).f0) ((az x293000 x10).f1) ((az x293000 x10).f2)).bind fun bt300 => (if (rd x7 x10) < bt300.1 then (af.j4 k x0 x7 x9 x10 bt300.1 bt300.2 true x293000 x293001 x293002 x293003 ((az x293000 x10).f0) ((az x293000 x10).f1) ((az x293000 x10).f2)) else (if (rd x7 x10) > 4096 then (af.j4 k x0 x7 x9 x10 bt300.1 bt300.2 true x293000 x293001 x293002 x293003 ((az x293000 x10).f0) ((az x293000 x10).f1) ((az x293000 x10).f2)) else (if ((az x293000 x10).f0) = 24 then (if (rd x7 x10) = 0 then (if ((az x293000 x10).f0) = 20 then (af.j4 k x0 x7 x9 x10 bt300.1 bt300.2 ((rd x7 x10) != bt300.1) x293000 x293001 x293002 x293003 ((az x293000 x10).f0) ((az x293000 x10).f1) ((az x293000 x10).f2)) else (af.j4 k x0 x7 x9 x10 bt300.1 bt300.2 false x293000 x293001 x293002 x293003 ((az x293000 x10).f0) ((az x293000 x10).f1) ((az x293000 x10).f2))) else (af.j4 k x0 x7 x9 x10 bt300.1 bt300.2 true x293000 x293001 x293002 x293003 ((az x293000 x10).f0) ((az x293000 x10).f1) ((az x293000 x10).f2))) else (if ((az x293000 x10).f0) = 20 then (af.j4 k x0 x7 x9 x10 bt300.1 bt300.2 ((rd x7 x10) != bt300.1) x293000 x293001 x293002 x293003 ((az x293000 x10).f0) ((az x293000 x10).f1) ((az x293000 x10).f2)) else (af.j4 k x0 x7 x9 x10 bt300.1 bt300.2 false x293000 x293001 x293002 x293003 ((az x293000 x10).f0) ((az x293000 x10).f1) ((az x293000 x10).f2))))))) else (none))) else (none)) else (af.l1 k x0 x7 x9 x293000 x293001 x293002 x293003)
def af.j4 : Nat → List (S46) → List Int → Bool → Int → Int → Int → Bool → List (S43) → Int → Int → Bool → Int → Int → Int → Option (List Int × Bool)
 | 0, _, _, _, _, _, _, _, _, _, _, _, _, _, _ => none
 | k + 1, x0, x7, x9, x10, x12, x13, x109, x293000, x293001, x293002, x293003, x300000, x300001, x300002 => if x109 = true then (some (([] : List Int), false)) else ((dV.f x300000 x300001 x300002 x10).bind fun t307 => (af.l3 k x0 x7 x9 x10 x12 x13 t307 0 x293000 x293001 x293002 x293003))
def af.l3 : Nat → List (S46) → List Int → Bool → Int → Int → Int → List Int → Int → List (S43) → Int → Int → Bool → Option (List Int × Bool)
 | 0, _, _, _, _, _, _, _, _, _, _, _, _ => none
 | k + 1, x0, x7, x9, x10, x12, x13, x14, x15, x293000, x293001, x293002, x293003 => if x15 < (x14.length : Int) then (if 0 ≤ x15 then (if (rd x14 x15) ≥ (x7.length : Int) then (some (([] : List Int), false)) else (if 0 ≤ (rd x14 x15) then (if (rd x14 x15) < (x7.length : Int) then (if (rd x7 (rd x14 x15)) < 0 then (if 0 ≤ x10 then (if x10 < (x7.length : Int) then ((some (x7.set ((rd x14 x15) : Int).toNat (wrap64 ((wrap64 ((rd x7 x10) - x12)) + x13)) : List Int)).bind fun y315 => (if (rd y315 (rd x14 x15)) = (wrap64 ((wrap64 ((rd y315 x10) - x12)) + x13)) then (af.l3 k x0 y315 true x10 x12 x13 x14 (wrap64 (x15 + 1)) x293000 x293001 x293002 x293003) else (some (([] : List Int), false)))) else (none)) else (none)) else (if 0 ≤ x10 then (if x10 < (x7.length : Int) then (if (rd x7 (rd x14 x15)) = (wrap64 ((wrap64 ((rd x7 x10) - x12)) + x13)) then (af.l3 k x0 x7 x9 x10 x12 x13 x14 (wrap64 (x15 + 1)) x293000 x293001 x293002 x293003) else (some (([] : List Int), false))) else (none)) else (none))) else (none)) else (none))) else (none)) else (af.l2 k x0 x7 x9 (wrap64 (x10 + 1)) x293000 x293001 x293002 x293003)
end
def af.f (k : Nat) (l0 : List (S46)) (a1 : Int) : Option (List Int × Bool) := if a1 < 0 then (af.j0 k l0 a1 true) else (if a1 ≥ (l0.length : Int) then (af.j0 k l0 a1 true) else (if 0 ≤ a1 then (if a1 < (l0.length : Int) then ((aA.f k l0 ((au l0 a1).f0) ((au l0 a1).f1) ((au l0 a1).f2) ((au l0 a1).f3)).bind fun t290 => (af.j0 k l0 a1 (!t290))) else (none)) else (none)))
def af.T28 : Bool × List (List Nat × List Nat) := (true, [([], []), ([], []), ([], []), ([1, 2], [1, 2]), ([3], [3]), ([], []), ([], []), ([5, 6], [5, 6]), ([7], [7]), ([], []), ([8, 9], [8, 9]), ([], []), ([10, 11], [10, 11]), ([0, 4, 0, 1, 2, 3, 4, 5, 6, 7, 8, 9, 10, 11, 12], [0, 4]), ([13, 12, 0, 1, 2, 3, 4, 5, 6, 7, 8, 9, 10, 11, 12], [12, 13])])
def af.B28 : List Nat := [0, 0, 0, 6, 14, 0, 0, 96, 224, 0, 992, 0, 4064, 8191, 16383]
theorem af.tab28 : jb .any (opsOf Tryd.f57 28) = af.T28 := by kernel_rfl
theorem af.bits28 : iW af.T28.2 af.B28 = true := by kernel_rfl
def af.T30 : Bool × List (List Nat × List Nat) := (true, [([], []), ([], []), ([], []), ([1, 2], [1, 2]), ([3], [3]), ([0, 4], [0, 4]), ([5], [5]), ([], []), ([], []), ([7, 8], [7, 8]), ([9], [9]), ([], []), ([10, 11], [10, 11]), ([], []), ([12, 13], [12, 13]), ([6, 14], [6, 14])])
def af.B30 : List Nat := [0, 0, 0, 6, 14, 31, 63, 0, 0, 384, 896, 0, 3968, 0, 16256, 32767]
theorem af.tab30 : jb .any (opsOf Tryd.f57 30) = af.T30 := by kernel_rfl
theorem af.uN : iW af.T30.2 af.B30 = true := by kernel_rfl
theorem af.calls (k : Nat) (A0 : Option Addr) (c0 : Nat) (l0 : List (S46)) (a1 : Int) (r1 : List Int) (r2 : Bool) (w : World) (hr0 : Kd.C k46 w A0 l0.length l0) (hc0 : l0.length ≤ c0) (h : af.f k l0 a1 = some (r1, r2)) :
  Calls Tryd.prog 57 #[.slice A0 l0.length c0, .int .i64 a1] w fun e w' => ∃ v0_ : Value, e = .returned (.tuple #[v0_, .bool r2]) ∧ Kd.R (Kd.int .i64) 3 w' w.heap.size (fun _ => True) v0_ r1 ∧ Below w.heap.size w w' := by
 have hu46 := Tryd.underlying46; have hu43 := Tryd.underlying43; have HR0 := aa.mk hr0; have HC0 := aa.mk hc0; clear hr0 hc0; have HB := aa.mk (Below.refl w.heap.size w); have H : (if a1 < 0 then (af.j0 k l0 a1 true) else (if a1 ≥ (l0.length : Int) then (af.j0 k l0 a1 true) else (if 0 ≤ a1 then (if a1 < (l0.length : Int) then ((aA.f k l0 ((au l0 a1).f0) ((au l0 a1).f1) ((au l0 a1).f2) ((au l0 a1).f3)).bind fun t290 => (af.j0 k l0 a1 (!t290))) else (none)) else (none)))) = some (r1, r2) := h; clear h; have HC3 := aa.mk H; clear H; go_enter Tryd.func57, Tryd.ntmps57
 go_upto_region 1 with (fail)
 go_cut [32] (fun v32 wc => ∃ (kq : Nat) (x32_2 : Bool), v32 = .bool x32_2 ∧ aa (af.j0 kq l0 a1 x32_2 = some (r1, r2)) ∧ aa (kq ≤ k) ∧ aa (Below w.heap.size w wc))
 case first =>
  have H := HC3.out; clear HC3
  by_cases c4 : a1 < 0
  ·rw [if_pos c4] at H; have c4b0 := Za c4; clear c4; (first | rw [c4b0] | (simp only [dI, dK]; rw [c4b0]) | skip); have H' := aa.mk H; clear H; go_wp2; go_meet
   case rel => exact ⟨_, (true), pr, H', ⟨by first | omega | exact Zd _⟩, ⟨bl⟩⟩
  ·rw [if_neg c4] at H; have c4b0 := Zb c4; clear c4; (first | rw [c4b0] | (simp only [dI, dK]; rw [c4b0]) | skip)
   by_cases c5 : a1 ≥ (l0.length : Int)
   ·rw [if_pos c5] at H; have c5b0 : decide ((l0.length : Int) ≤ a1) = true := Za c5; clear c5; have H' := aa.mk H; clear H; go_wp2; go_meet
    case rel => exact ⟨_, (true), pr, H', ⟨by first | omega | exact Zd _⟩, ⟨bl⟩⟩
   ·rw [if_neg c5] at H; have c5b0 : decide ((l0.length : Int) ≤ a1) = false := Zb c5; clear c5
    replace H := it (c := 0 ≤ a1) H; obtain ⟨c6, H⟩ := H; have c6b0 := Za c6; clear c6
    replace H := it (c := a1 < (l0.length : Int)) H; obtain ⟨c7, H⟩ := H; have c7b0 := Za c7; clear c7; replace H := ob H; obtain ⟨t290, A8, H⟩ := H; have H' := aa.mk H; clear H
    have p289 : 0 ≤ (a1 : Int) := Zc pa
    have q289 : a1 < (l0.length : Int) := Zc pa
    obtain ⟨ad289, A289_0, c289_0, e289, hx289_0, hx289_1, hx289_2, hx289_3, hl289_0, hi289_0⟩ := eZ HR0.out a1 p289 q289
    cases e289
    replace hx289_0 := pc HB.out hx289_0; replace hx289_1 := pc HB.out hx289_1; replace hx289_2 := pc HB.out hx289_2; replace hx289_3 := pc HB.out hx289_3; have HR289_0 := aa.mk hi289_0; have HC289_0 := aa.mk hl289_0; clear hi289_0 hl289_0; replace p289 := eq_true p289; replace q289 := eq_true q289
    go_wp2_with (first | (go_at_call 71; (with_reducible refine (aA.calls k _ _ l0 _ _ ((au l0 a1).f0) ((au l0 a1).f1) ((au l0 a1).f2) ((au l0 a1).f3) t290 _ ?side1 ?side2 ?side3 ?side4 A8.out).mono ?_); (case side1 => exact cb HR0.out); (case side2 => exact HC0.out); (case side3 => exact cb HR289_0.out); (case side4 => exact HC289_0.out); rintro e w9 ⟨rfl, hb⟩; have n0_ := aa.mk (aj bl hb); clear HB; have HB := n0_; clear n0_; (try clear hb)))
    go_meet
    case rel => exact ⟨_, (!t290), pr, H', ⟨by first | omega | exact Zd _⟩, ⟨bl⟩⟩
 case rest =>
  clear HC3; obtain ⟨kq, x32_2, rfl, HA, HJ2, HB⟩ := hcut
  cases kq with
  | zero => exact absurd HA.out (by simp [af.j0])
  | succ kj2 =>
   have H := HA.out; clear HA; simp only [af.j0] at H
   by_cases c10 : x32_2 = true
   ·subst c10; rw [if_pos rfl] at H; simp only [Zl, Zm] at H; obtain ⟨rfl, rfl⟩ := H; go_wp2; go_ret2; exact ⟨_, pe, pn, bl⟩
   ·replace c10 := Zj c10; subst c10; rw [if_neg (show ¬ (false = true) by decide)] at H
    replace H := it (c := 0 ≤ a1) H; obtain ⟨c11, H⟩ := H; have c11b0 := Za c11; clear c11
    replace H := it (c := a1 < (l0.length : Int)) H; obtain ⟨c12, H⟩ := H; have c12b0 := Za c12; clear c12; have H' := aa.mk H; clear H
    have p291 : 0 ≤ (a1 : Int) := Zc pa
    have q291 : a1 < (l0.length : Int) := Zc pa
    obtain ⟨ad291, A291_0, c291_0, e291, hx291_0, hx291_1, hx291_2, hx291_3, hl291_0, hi291_0⟩ := eZ HR0.out a1 p291 q291
    cases e291
    replace hx291_0 := pc HB.out hx291_0; replace hx291_1 := pc HB.out hx291_1; replace hx291_2 := pc HB.out hx291_2; replace hx291_3 := pc HB.out hx291_3; have HR291_0 := aa.mk hi291_0; have HC291_0 := aa.mk hl291_0; clear hi291_0 hl291_0; replace p291 := eq_true p291; replace q291 := eq_true q291
    go_wp2_with (first | ((with_reducible refine aY (N := 6) rfl ?_); (try (refine aH (by rfl) ?_; dsimp only)); refine bx 6 #[.slice none 0 0, .int .i64 0, .int .i64 0, .bool false] 46 ?_; intro gb292 hg w13 hbox hb; have n_ := an4 (aj bl hb) (hbox) (bg hg) (bg hg); clear HB; obtain ⟨HB, BK292, GW292, GE292⟩ := n_; clear hb hbox hg; obtain ⟨hcz14_0, hcz14_1, hcz14_2, hcz14_3⟩ := bd4 BK292.out; have hfz14_0 := ai BK292.out 0; have hfz14_1 := ai BK292.out 1; have hfz14_2 := ai BK292.out 2; have hfz14_3 := ai BK292.out 3))
    go_loopg [7, 8] kj2 (fun kq v7 v8 w' => ∃ (x7_2 : List Int) (x8_2 : Int), v8 = .int .i64 x8_2 ∧ aa (af.l0 kq l0 x7_2 x8_2 ((au l0 a1).f0) ((au l0 a1).f1) ((au l0 a1).f2) ((au l0 a1).f3) = some (r1, r2)) ∧ aa (kq ≤ kj2) ∧ aa (Kd.R (Kd.int .i64) 3 w' w.heap.size (fun _ => True) v7 x7_2) ∧ aa (w'.heap[gb292]? = some (.cells #[(.slice A291_0 ((au l0 a1).f0).length c291_0), .int .i64 ((au l0 a1).f1), .int .i64 ((au l0 a1).f2), .bool ((au l0 a1).f3)] 46 (0, 0))) ∧ aa (Below w.heap.size w w'))
    case atStart => exact ⟨(([] : List Int)), (0), pr, H', ⟨Zd _⟩, ⟨pn⟩, ⟨by exact bp4 (bq BK292.out)⟩, ⟨bl⟩⟩
    case round =>
     clear H'; (try clear c11b0); (try clear c12b0); (try clear hcz14_0); (try clear hcz14_1); (try clear hcz14_2); (try clear hcz14_3); (try clear hfz14_0); (try clear hfz14_1); (try clear hfz14_2); (try clear hfz14_3); (try clear hx291_0); (try clear hx291_1); (try clear hx291_2); (try clear hx291_3); (try clear p291); (try clear q291); obtain ⟨x7_2, x8_2, rfl, HA, HK2, HO_7, BK292, HB⟩ := hrel
     cases gk with
     | zero => exact absurd HA.out (by simp [af.l0])
     | succ k2 =>
      have H := HA.out; clear HA; simp only [af.l0] at H; have HH_ := aa.mk H; clear H; obtain ⟨hcz17_0, hcz17_1, hcz17_2, hcz17_3, hfz17_0, hfz17_1, hfz17_2, hfz17_3⟩ := bc4 BK292.out; have H := HH_.out; clear HH_
      by_cases c15 : x8_2 < (((au l0 a1).f0).length : Int)
      ·rw [if_pos c15] at H; have c15b0 := Za c15; clear c15
       replace H := it (c := x7_2.length < 17592186044416) H; obtain ⟨c16, H⟩ := H; have LMc16 := aa.mk c16; clear c16; obtain ⟨y293, hy293⟩ : ∃ y_ : List Int, y_ = (x7_2 ++ [(-1)]) := ⟨_, rfl⟩; (first | replace H := hs hy293 H | rw [← hy293] at H)
       have Ny293 := aa.mk hy293; clear hy293; have H' := aa.mk H; clear H
       go_wp2_with (first | ((with_reducible refine di (b := .append) (xs := #[.tmp 44, .tmp 45]) rfl ?_); (try (refine aH (by rfl) ?_; dsimp only)); at_builtin; refine Kd.fQ (Kd.int .i64) (w0 := w) w.heap.size rfl (.tmp 44) (.tmp 45) 84 3 (.int .i64 0) 8 rfl Tryd.underlying84 info3 rfl (by decide) (by omega) u7 x7_2 (-1) [.int .i64 (-1)] (fun _ => True) (fun _ => False) rfl rfl ?aP (fun _ hk => hk.elim) ?aF ?aO ?aB ?aS ?aL ?_; (case aP => exact rfl); (case aB => exact bl); (case aF => exact (fun _ _ => trivial)); (case aO => exact (bR HO_7.out)); (case aS => exact (aK bl)); (case aL => have := LMc16.out; omega); intro v294 w18 ho hb hg hat; rw [← Ny293.out] at ho; have n_ := an3 (cZ (g := gb292) (o := .cells #[.slice A291_0 ((au l0 a1).f0).length c291_0, .int .i64 ((au l0 a1).f1), .int .i64 ((au l0 a1).f2), .bool ((au l0 a1).f3)] 46 (0, 0)) bk hg (Kd.kV HO_7.out BK292.out (by decide))) (hb) (ho); clear BK292 HB HO_7; obtain ⟨BK292, HB, HO295⟩ := n_; clear ho hb hg hat))
       go_roundg k2
       case measure => have := HJ2.out; have := HK2.out; omega
       case rel => exact ⟨(y293), (wrap64 (x8_2 + 1)), pr, H', ⟨by have := HJ2.out; have := HK2.out; omega⟩, ⟨bR HO295.out⟩, ⟨bk⟩, ⟨bl⟩⟩
      ·rw [if_neg c15] at H; have c15b0 := Zb c15; clear c15
       replace H := it (c := 0 < (x7_2.length : Int)) H; obtain ⟨c19, H⟩ := H; have c19b0 := Za c19; have c19b1 : decide (0 < x7_2.length) = true := Za (by omega); clear c19; obtain ⟨y296, hy296⟩ : ∃ y_ : List Int, y_ = (x7_2.set (0 : Int).toNat 0) := ⟨_, rfl⟩; (first | replace H := hs hy296 H | rw [← hy296] at H)
       have Ny296 := aa.mk hy296; clear hy296; have H' := aa.mk H; clear H; have p20 : 0 ≤ (0 : Int) := (by omega)
       have q20 : (0 : Int) < ((x7_2.length : Int) : Int) := Zc pa
       have qi20 : (0 < x7_2.length) = True := eq_true (by omega); obtain ⟨go20, co20, eo20, gb20, gl20, cl20, HG20⟩ := Kd.sD HO_7.out (by omega); (first | cases eo20 | (injection eo20 with ea_ en_ ec_; (first | subst ea_ | (injection ea_ with ea_; subst ea_)); subst ec_; clear en_)); have GB20 := aa.mk gb20; have GG20 := aa.mk HG20; clear gb20 gl20 HG20; obtain ⟨hx20_0, hf20_0⟩ := Kd.nG 0 HO_7.out (0 : Int) p20 q20; (try rw [show ((0 : Int)).toNat = 0 from rfl] at hx20_0); (try simp only [Nat.reduceMul, Nat.zero_mul, Nat.zero_add, Nat.reduceAdd] at hx20_0); (try rw [show ((0 : Int)).toNat = 0 from rfl] at hf20_0); (try simp only [Nat.reduceMul, Nat.zero_mul, Nat.zero_add, Nat.reduceAdd] at hf20_0); replace p20 := eq_true p20; replace q20 := eq_true q20; have HP22 := Kd.sK HO_7.out (0 : Int) 0
       go_wp2_with (first | ((with_reducible refine lv (t := 3) (p := 48) rfl ?_); refine kv (t := 3) (p := 48) (v := ?vo_w23) (w1 := (wr.setCell ⟨go20, (0 : Int).toNat, none⟩ (.int .i64 0))) ?hg ?ho ?hn ?hr ?_; (case ho => rfl); (case hg => rfl); (case hn => rfl); (case hr => first | (go_simp; done) | (go_simp; rfl)); intro w23 hw; have hg : wr.grownBy w23 (some go20) := (by rw [hw]; exact HP22.2); have hp_ : Kd.R (Kd.int .i64) 3 w23 w.heap.size (fun _ => True) (.slice (some ⟨go20, 0, none⟩) x7_2.length co20) y296 := (by rw [hw, Ny296.out]; exact HP22.1); clear HP22; have n_ := an3 (hp_) (cZ (g := gb292) (o := .cells #[.slice A291_0 ((au l0 a1).f0).length c291_0, .int .i64 ((au l0 a1).f1), .int .i64 ((au l0 a1).f2), .bool ((au l0 a1).f3)] 46 (0, 0)) bk hg (Kd.kV HO_7.out BK292.out (by decide))) ((by rw [hw]; exact gV (HB.out) GB20.out : Below w.heap.size w w23)); clear HO_7 BK292 HB; obtain ⟨HO_7, BK292, HB⟩ := n_; clear hg hw hp_))
       go_loopg [9] k2 (fun kq v9 w' => ∃ (x7_3 : List Int) (x9_3 : Bool), v9 = .bool x9_3 ∧ aa (af.l1 kq l0 x7_3 x9_3 ((au l0 a1).f0) ((au l0 a1).f1) ((au l0 a1).f2) ((au l0 a1).f3) = some (r1, r2)) ∧ aa (kq ≤ k2) ∧ aa (Kd.R (Kd.int .i64) 3 w' w.heap.size (fun _ => True) (.slice (some ⟨go20, 0, none⟩) x7_2.length co20) x7_3) ∧ aa (w'.heap[gb292]? = some (.cells #[(.slice A291_0 ((au l0 a1).f0).length c291_0), .int .i64 ((au l0 a1).f1), .int .i64 ((au l0 a1).f2), .bool ((au l0 a1).f3)] 46 (0, 0))) ∧ aa (Below w.heap.size w w'))
       case atStart => exact ⟨(y296), (true), pr, H', ⟨Zd _⟩, ⟨bR HO_7.out⟩, ⟨bk⟩, ⟨bl⟩⟩
       case round =>
        clear H'; (try clear c15b0); (try clear c19b0); (try clear c19b1); (try clear p20); (try clear q20); (try clear qi20); (try clear hcz17_0); (try clear hcz17_1); (try clear hcz17_2); (try clear hcz17_3); (try clear hfz17_0); (try clear hfz17_1); (try clear hfz17_2); (try clear hfz17_3); (try clear hx20_0); obtain ⟨x7_3, x9_3, rfl, HA, HK3, HO_7, BK292, HB⟩ := hrel; have hl7_3 := (Kd.aU HO_7.out).1; rw [hl7_3] at HO_7; (try simp only [hl7_3]); (try simp only [hl7_3] at BK292)
        cases gk with
        | zero => exact absurd HA.out (by simp [af.l1])
        | succ k3 =>
         have H := HA.out; clear HA; simp only [af.l1] at H
         by_cases c24 : x9_3 = true
         ·subst c24; rw [if_pos rfl] at H; have H' := aa.mk H; clear H; go_wp2
          go_loopg [9, 10] k3 (fun kq v9 v10 w' => ∃ (x7_4 : List Int) (x9_4 : Bool) (x10_4 : Int), v9 = .bool x9_4 ∧ v10 = .int .i64 x10_4 ∧ aa (af.l2 kq l0 x7_4 x9_4 x10_4 ((au l0 a1).f0) ((au l0 a1).f1) ((au l0 a1).f2) ((au l0 a1).f3) = some (r1, r2)) ∧ aa (kq ≤ k3) ∧ aa (Kd.R (Kd.int .i64) 3 w' w.heap.size (fun _ => True) (.slice (some ⟨go20, 0, none⟩) x7_3.length co20) x7_4) ∧ aa (w'.heap[gb292]? = some (.cells #[(.slice A291_0 ((au l0 a1).f0).length c291_0), .int .i64 ((au l0 a1).f1), .int .i64 ((au l0 a1).f2), .bool ((au l0 a1).f3)] 46 (0, 0))) ∧ aa (Below w.heap.size w w'))
          case atStart => exact ⟨(x7_3), (false), (0), pr, pr, H', ⟨Zd _⟩, ⟨by (try simp only [hl7_3]); (with_reducible repeat (first | apply Kd.bQ | apply Kd.bS | apply Kd.bX)); exact HO_7.out⟩, ⟨by (try simp only [hl7_3]); (with_reducible repeat (first | refine bI ?_ _ | refine bD ?_ | refine bv ?_ _)); exact BK292.out⟩, ⟨bl⟩⟩
          case round =>
           clear H'; obtain ⟨x7_4, x9_4, x10_4, rfl, rfl, HA, HK4, HO_7, BK292, HB⟩ := hrel; have hl7_4 := (Kd.aU HO_7.out).1; rw [hl7_4] at HO_7; (try simp only [hl7_4]); (try simp only [hl7_4] at BK292)
           cases gk with
           | zero => exact absurd HA.out (by simp [af.l2])
           | succ k4 =>
            have H := HA.out; clear HA; simp only [af.l2] at H
            by_cases c25 : x10_4 < (x7_4.length : Int)
            ·rw [if_pos c25] at H; have c25b0 := Za c25; clear c25
             replace H := it (c := 0 ≤ x10_4) H; obtain ⟨c26, H⟩ := H; have c26b0 := Za c26; clear c26; have HH_ := aa.mk H; clear H
             have p297 : 0 ≤ (x10_4 : Int) := Zc pa
             have q297 : x10_4 < (x7_4.length : Int) := Zc pa
             obtain ⟨ad297, e297, hx297_0⟩ := Kd.dG (Kd.aU HO_7.out).2.2 x10_4 p297 q297; obtain rfl : (⟨go20, 0, none⟩ : Addr) = ad297 := (by injection e297); (first | simp only [add_plain] at hx297_0 | simp only [fT] at hx297_0 | simp only [Addr.add, Nat.zero_add] at hx297_0 | skip); replace p297 := eq_true p297; replace q297 := eq_true q297; have H := HH_.out; clear HH_
             by_cases c27 : (rd x7_4 x10_4) < 0
             ·rw [if_pos c27] at H; have c27b0 := Za c27; clear c27; have H' := aa.mk H; clear H; go_wp2; (try simp only [← hl7_4])
              go_roundg k4
              case measure => have := HJ2.out; have := HK2.out; have := HK3.out; have := HK4.out; omega
              case rel => exact ⟨(x7_4), (x9_4), (wrap64 (x10_4 + 1)), pr, pr, H', ⟨by have := HJ2.out; have := HK2.out; have := HK3.out; have := HK4.out; omega⟩, ⟨by (try simp only [hl7_3]); (try simp only [hl7_4]); (with_reducible repeat (first | apply Kd.bQ | apply Kd.bS | apply Kd.bX)); exact HO_7.out⟩, ⟨by (try simp only [hl7_3]); (try simp only [hl7_4]); (with_reducible repeat (first | refine bI ?_ _ | refine bD ?_ | refine bv ?_ _)); exact BK292.out⟩, ⟨bl⟩⟩
             ·rw [if_neg c27] at H; have c27b0 := Zb c27; clear c27
              replace H := it (c := x10_4 < (((au l0 a1).f0).length : Int)) H; obtain ⟨c28, H⟩ := H; have c28b0 := Za c28; clear c28; replace H := ob H; obtain ⟨⟨t300, t301⟩, A29, H⟩ := H; have HC30 := aa.mk H; clear H; obtain ⟨hcz31_0, hcz31_1, hcz31_2, hcz31_3, hfz31_0, hfz31_1, hfz31_2, hfz31_3⟩ := bc4 BK292.out
              have p298 : 0 ≤ (x10_4 : Int) := Zc pa
              have q298 : x10_4 < (((au l0 a1).f0).length : Int) := Zc pa
              obtain ⟨ad298, e298, hx298_0, hx298_1, hx298_2⟩ := jW HR291_0.out x10_4 p298 q298
              cases e298
              replace hx298_0 := pc HB.out hx298_0; replace hx298_1 := pc HB.out hx298_1; replace hx298_2 := pc HB.out hx298_2; replace p298 := eq_true p298; replace q298 := eq_true q298
              go_upto_region 19 with (first | ((with_reducible refine aY (N := 11) rfl ?_); (try (refine aH (by rfl) ?_; dsimp only)); refine bx 11 #[.int .i64 0, .int .i64 0, .int .i64 0] 43 ?_; intro gb299 hg w32 hbox hb; have n_ := an8 (Kd.eT (bR HO_7.out) hb) (bu BK292.out hb) (aj bl hb) (hbox) (bg hg) (bg hg) ((by rw [hg]; exact Nat.ne_of_lt (bF (g := gb292) (o := .cells #[.slice (some ad298) ((au l0 a1).f0).length c291_0, .int .i64 ((au l0 a1).f1), .int .i64 ((au l0 a1).f2), .bool ((au l0 a1).f3)] 46 (0, 0)) bk) : gb292 ≠ gb299)) ((by rw [hg]; exact Nat.ne_of_gt (bF (g := gb292) (o := .cells #[.slice (some ad298) ((au l0 a1).f0).length c291_0, .int .i64 ((au l0 a1).f1), .int .i64 ((au l0 a1).f2), .bool ((au l0 a1).f3)] 46 (0, 0)) bk) : gb299 ≠ gb292)); clear HO_7 BK292 HB; obtain ⟨HO_7, BK292, HB, BK299, GW299, GE299, NB292_299, NB299_292⟩ := n_; clear hb hbox hg; have hnb33 := NB299_292.out; have hnc33 := NB292_299.out; obtain ⟨hcz34_0, hcz34_1, hcz34_2⟩ := bd3 BK299.out; have hfz34_0 := ai BK299.out 0; have hfz34_1 := ai BK299.out 1; have hfz34_2 := ai BK299.out 2) | ((with_reducible refine ah (f := 72) rfl ?_); refine gl 69 Tryd.func72 #[.slice (some ad291) l0.length c0, .agg #[.int .i64 ((az ((au l0 a1).f0) x10_4).f0), .int .i64 ((az ((au l0 a1).f0) x10_4).f1), .int .i64 ((az ((au l0 a1).f0) x10_4).f2)]] ?_; (with_reducible refine (dM.calls _ _ l0 ((az ((au l0 a1).f0) x10_4).f0) ((az ((au l0 a1).f0) x10_4).f1) ((az ((au l0 a1).f0) x10_4).f2) t300 t301 _ ?side1 ?side2 A29.out).mono ?_); (case side1 => exact Kd.dO HR0.out bl); (case side2 => exact HC0.out); rintro e w35 ⟨rfl, hb⟩; refine ⟨_, rfl, ?_⟩; have n_ := an4 (Kd.eT (by (with_reducible repeat (first | apply Kd.bQ | apply Kd.bS | apply Kd.bX)); exact (Kd.dB (rf3 (g := gb299) (Kd.lV HO_7.out BK299.out (by decide)) (fun _ hk => hk.2)) (fun _ h_ => h_.1))) hb) (cB (g := gb292) (o := .cells #[.slice (some ad298) ((au l0 a1).f0).length c291_0, .int .i64 ((au l0 a1).f1), .int .i64 ((au l0 a1).f2), .bool ((au l0 a1).f3)] 46 (0, 0)) (by exact bf3 (bq BK292.out) NB292_299.out) hb) (cB (g := gb299) (o := .cells #[.int .i64 ((az ((au l0 a1).f0) x10_4).f0), .int .i64 ((az ((au l0 a1).f0) x10_4).f1), .int .i64 ((az ((au l0 a1).f0) x10_4).f2)] 43 (0, 0)) (by exact bp3 (bq BK299.out)) hb) (aj bl hb); clear HO_7 BK292 BK299 HB; obtain ⟨HO_7, BK292, BK299, HB⟩ := n_; (try clear hb)))
              (try simp only [Act.put, List.setIfInBounds_toArray, List.set_cons_zero, List.set_cons_succ])
              go_cut [109] (fun v109 wc => ∃ (kq : Nat) (x109_29 : Bool), v109 = .bool x109_29 ∧ aa (af.j4 kq l0 x7_4 x9_4 x10_4 t300 t301 x109_29 ((au l0 a1).f0) ((au l0 a1).f1) ((au l0 a1).f2) ((au l0 a1).f3) ((az ((au l0 a1).f0) x10_4).f0) ((az ((au l0 a1).f0) x10_4).f1) ((az ((au l0 a1).f0) x10_4).f2) = some (r1, r2)) ∧ aa (kq ≤ k4) ∧ aa (Kd.R (Kd.int .i64) 3 wc w.heap.size (fun _ => True) (.slice (some ⟨go20, 0, none⟩) x7_4.length co20) x7_4) ∧ aa (wc.heap[gb292]? = some (.cells #[(.slice (some ad298) ((au l0 a1).f0).length c291_0), .int .i64 ((au l0 a1).f1), .int .i64 ((au l0 a1).f2), .bool ((au l0 a1).f3)] 46 (0, 0))) ∧ aa (wc.heap[gb299]? = some (.cells #[.int .i64 ((az ((au l0 a1).f0) x10_4).f0), .int .i64 ((az ((au l0 a1).f0) x10_4).f1), .int .i64 ((az ((au l0 a1).f0) x10_4).f2)] 43 (0, 0))) ∧ aa (Below w.heap.size w wc))
              case first =>
               have H := HC30.out; clear HC30
               by_cases c36 : (rd x7_4 x10_4) < t300
               ·rw [if_pos c36] at H; have c36b0 := Za c36; clear c36; (first | rw [c36b0] | (simp only [dI, dK]; rw [c36b0]) | skip); have H' := aa.mk H; clear H
                have p302 : 0 ≤ (x10_4 : Int) := Zc pa
                have q302 : x10_4 < (x7_4.length : Int) := Zc pa
                obtain ⟨ad302, e302, hx302_0⟩ := Kd.dG (Kd.aU HO_7.out).2.2 x10_4 p302 q302; obtain rfl : (⟨go20, 0, none⟩ : Addr) = ad302 := (by injection e302); (first | simp only [add_plain] at hx302_0 | simp only [fT] at hx302_0 | simp only [Addr.add, Nat.zero_add] at hx302_0 | skip); replace p302 := eq_true p302; replace q302 := eq_true q302; go_wp2; go_meet
                case rel => exact ⟨_, (true), pr, H', ⟨by have := HJ2.out; have := HK2.out; have := HK3.out; have := HK4.out; first | omega | exact Zd _⟩, ⟨by (try simp only [hl7_3]); (try simp only [hl7_4]); (with_reducible repeat (first | apply Kd.bQ | apply Kd.bS | apply Kd.bX)); exact HO_7.out⟩, ⟨by (try simp only [hl7_3]); (try simp only [hl7_4]); (with_reducible repeat (first | refine bI ?_ _ | refine bD ?_ | refine bv ?_ _)); exact BK292.out⟩, ⟨by (try simp only [hl7_3]); (try simp only [hl7_4]); (with_reducible repeat (first | refine bI ?_ _ | refine bD ?_ | refine bv ?_ _)); exact BK299.out⟩, ⟨bl⟩⟩
               ·rw [if_neg c36] at H; have c36b0 := Zb c36; clear c36; (first | rw [c36b0] | (simp only [dI, dK]; rw [c36b0]) | skip); have HH_ := aa.mk H; clear H
                have p302 : 0 ≤ (x10_4 : Int) := Zc pa
                have q302 : x10_4 < (x7_4.length : Int) := Zc pa
                obtain ⟨ad302, e302, hx302_0⟩ := Kd.dG (Kd.aU HO_7.out).2.2 x10_4 p302 q302; obtain rfl : (⟨go20, 0, none⟩ : Addr) = ad302 := (by injection e302); (first | simp only [add_plain] at hx302_0 | simp only [fT] at hx302_0 | simp only [Addr.add, Nat.zero_add] at hx302_0 | skip); replace p302 := eq_true p302; replace q302 := eq_true q302
                have p303 : 0 ≤ (x10_4 : Int) := Zc pa
                have q303 : x10_4 < (x7_4.length : Int) := Zc pa
                obtain ⟨ad303, e303, hx303_0⟩ := Kd.dG (Kd.aU HO_7.out).2.2 x10_4 p303 q303; obtain rfl : (⟨go20, 0, none⟩ : Addr) = ad303 := (by injection e303); (first | simp only [add_plain] at hx303_0 | simp only [fT] at hx303_0 | simp only [Addr.add, Nat.zero_add] at hx303_0 | skip); replace p303 := eq_true p303; replace q303 := eq_true q303; have H := HH_.out; clear HH_
                by_cases c37 : (rd x7_4 x10_4) > 4096
                ·rw [if_pos c37] at H; have c37b0 : decide (4096 < (rd x7_4 x10_4)) = true := Za c37; clear c37; have H' := aa.mk H; clear H; go_wp2; go_meet
                 case rel => exact ⟨_, (true), pr, H', ⟨by have := HJ2.out; have := HK2.out; have := HK3.out; have := HK4.out; first | omega | exact Zd _⟩, ⟨by (try simp only [hl7_3]); (try simp only [hl7_4]); (with_reducible repeat (first | apply Kd.bQ | apply Kd.bS | apply Kd.bX)); exact HO_7.out⟩, ⟨by (try simp only [hl7_3]); (try simp only [hl7_4]); (with_reducible repeat (first | refine bI ?_ _ | refine bD ?_ | refine bv ?_ _)); exact BK292.out⟩, ⟨by (try simp only [hl7_3]); (try simp only [hl7_4]); (with_reducible repeat (first | refine bI ?_ _ | refine bD ?_ | refine bv ?_ _)); exact BK299.out⟩, ⟨bl⟩⟩
                ·rw [if_neg c37] at H; have c37b0 : decide (4096 < (rd x7_4 x10_4)) = false := Zb c37; clear c37; have HH_ := aa.mk H; clear H; have hnb41 := NB299_292.out; have hnc41 := NB292_299.out; obtain ⟨hcz42_0, hcz42_1, hcz42_2, hfz42_0, hfz42_1, hfz42_2⟩ := bc3 BK299.out; have H := HH_.out; clear HH_
                 by_cases c38 : ((az ((au l0 a1).f0) x10_4).f0) = 24
                 ·rw [if_pos c38] at H; obtain ⟨c38b0, c38b1⟩ := eqs c38; clear c38; have HH_ := aa.mk H; clear H
                  have p304 : 0 ≤ (x10_4 : Int) := Zc pa
                  have q304 : x10_4 < (x7_4.length : Int) := Zc pa
                  obtain ⟨ad304, e304, hx304_0⟩ := Kd.dG (Kd.aU HO_7.out).2.2 x10_4 p304 q304; obtain rfl : (⟨go20, 0, none⟩ : Addr) = ad304 := (by injection e304); (first | simp only [add_plain] at hx304_0 | simp only [fT] at hx304_0 | simp only [Addr.add, Nat.zero_add] at hx304_0 | skip); replace p304 := eq_true p304; replace q304 := eq_true q304; have H := HH_.out; clear HH_
                  by_cases c39 : (rd x7_4 x10_4) = 0
                  ·rw [if_pos c39] at H; obtain ⟨c39b0, c39b1⟩ := eqs c39; clear c39; have HH_ := aa.mk H; clear H; have H := HH_.out; clear HH_
                   by_cases c40 : ((az ((au l0 a1).f0) x10_4).f0) = 20
                   ·rw [if_pos c40] at H; obtain ⟨c40b0, c40b1⟩ := eqs c40; clear c40; have H' := aa.mk H; clear H
                    have p305 : 0 ≤ (x10_4 : Int) := Zc pa
                    have q305 : x10_4 < (x7_4.length : Int) := Zc pa
                    obtain ⟨ad305, e305, hx305_0⟩ := Kd.dG (Kd.aU HO_7.out).2.2 x10_4 p305 q305; obtain rfl : (⟨go20, 0, none⟩ : Addr) = ad305 := (by injection e305); (first | simp only [add_plain] at hx305_0 | simp only [fT] at hx305_0 | simp only [Addr.add, Nat.zero_add] at hx305_0 | skip); replace p305 := eq_true p305; replace q305 := eq_true q305; go_wp2; go_meet
                    case rel => exact ⟨_, (((rd x7_4 x10_4) != t300)), pr, H', ⟨by have := HJ2.out; have := HK2.out; have := HK3.out; have := HK4.out; first | omega | exact Zd _⟩, ⟨by (try simp only [hl7_3]); (try simp only [hl7_4]); (with_reducible repeat (first | apply Kd.bQ | apply Kd.bS | apply Kd.bX)); exact HO_7.out⟩, ⟨by (try simp only [hl7_3]); (try simp only [hl7_4]); (with_reducible repeat (first | refine bI ?_ _ | refine bD ?_ | refine bv ?_ _)); exact BK292.out⟩, ⟨by (try simp only [hl7_3]); (try simp only [hl7_4]); (with_reducible repeat (first | refine bI ?_ _ | refine bD ?_ | refine bv ?_ _)); exact BK299.out⟩, ⟨bl⟩⟩
                   ·rw [if_neg c40] at H; obtain ⟨c40b0, c40b1⟩ := eqf c40; have H' := aa.mk H; clear H; go_wp2; go_meet
                    case rel => exact ⟨_, (false), pr, H', ⟨by have := HJ2.out; have := HK2.out; have := HK3.out; have := HK4.out; first | omega | exact Zd _⟩, ⟨by (try simp only [hl7_3]); (try simp only [hl7_4]); (with_reducible repeat (first | apply Kd.bQ | apply Kd.bS | apply Kd.bX)); exact HO_7.out⟩, ⟨by (try simp only [hl7_3]); (try simp only [hl7_4]); (with_reducible repeat (first | refine bI ?_ _ | refine bD ?_ | refine bv ?_ _)); exact BK292.out⟩, ⟨by (try simp only [hl7_3]); (try simp only [hl7_4]); (with_reducible repeat (first | refine bI ?_ _ | refine bD ?_ | refine bv ?_ _)); exact BK299.out⟩, ⟨bl⟩⟩
                  ·rw [if_neg c39] at H; obtain ⟨c39b0, c39b1⟩ := eqf c39; have H' := aa.mk H; clear H; go_wp2; go_meet
                   case rel => exact ⟨_, (true), pr, H', ⟨by have := HJ2.out; have := HK2.out; have := HK3.out; have := HK4.out; first | omega | exact Zd _⟩, ⟨by (try simp only [hl7_3]); (try simp only [hl7_4]); (with_reducible repeat (first | apply Kd.bQ | apply Kd.bS | apply Kd.bX)); exact HO_7.out⟩, ⟨by (try simp only [hl7_3]); (try simp only [hl7_4]); (with_reducible repeat (first | refine bI ?_ _ | refine bD ?_ | refine bv ?_ _)); exact BK292.out⟩, ⟨by (try simp only [hl7_3]); (try simp only [hl7_4]); (with_reducible repeat (first | refine bI ?_ _ | refine bD ?_ | refine bv ?_ _)); exact BK299.out⟩, ⟨bl⟩⟩
                 ·rw [if_neg c38] at H; obtain ⟨c38b0, c38b1⟩ := eqf c38; have HH_ := aa.mk H; clear H; have H := HH_.out; clear HH_
                  by_cases c47 : ((az ((au l0 a1).f0) x10_4).f0) = 20
                  ·rw [if_pos c47] at H; obtain ⟨c47b0, c47b1⟩ := eqs c47; clear c47; have H' := aa.mk H; clear H
                   have p306 : 0 ≤ (x10_4 : Int) := Zc pa
                   have q306 : x10_4 < (x7_4.length : Int) := Zc pa
                   obtain ⟨ad306, e306, hx306_0⟩ := Kd.dG (Kd.aU HO_7.out).2.2 x10_4 p306 q306; obtain rfl : (⟨go20, 0, none⟩ : Addr) = ad306 := (by injection e306); (first | simp only [add_plain] at hx306_0 | simp only [fT] at hx306_0 | simp only [Addr.add, Nat.zero_add] at hx306_0 | skip); replace p306 := eq_true p306; replace q306 := eq_true q306; go_wp2; go_meet
                   case rel => exact ⟨_, (((rd x7_4 x10_4) != t300)), pr, H', ⟨by have := HJ2.out; have := HK2.out; have := HK3.out; have := HK4.out; first | omega | exact Zd _⟩, ⟨by (try simp only [hl7_3]); (try simp only [hl7_4]); (with_reducible repeat (first | apply Kd.bQ | apply Kd.bS | apply Kd.bX)); exact HO_7.out⟩, ⟨by (try simp only [hl7_3]); (try simp only [hl7_4]); (with_reducible repeat (first | refine bI ?_ _ | refine bD ?_ | refine bv ?_ _)); exact BK292.out⟩, ⟨by (try simp only [hl7_3]); (try simp only [hl7_4]); (with_reducible repeat (first | refine bI ?_ _ | refine bD ?_ | refine bv ?_ _)); exact BK299.out⟩, ⟨bl⟩⟩
                  ·rw [if_neg c47] at H; obtain ⟨c47b0, c47b1⟩ := eqf c47; have H' := aa.mk H; clear H; go_wp2; go_meet
                   case rel => exact ⟨_, (false), pr, H', ⟨by have := HJ2.out; have := HK2.out; have := HK3.out; have := HK4.out; first | omega | exact Zd _⟩, ⟨by (try simp only [hl7_3]); (try simp only [hl7_4]); (with_reducible repeat (first | apply Kd.bQ | apply Kd.bS | apply Kd.bX)); exact HO_7.out⟩, ⟨by (try simp only [hl7_3]); (try simp only [hl7_4]); (with_reducible repeat (first | refine bI ?_ _ | refine bD ?_ | refine bv ?_ _)); exact BK292.out⟩, ⟨by (try simp only [hl7_3]); (try simp only [hl7_4]); (with_reducible repeat (first | refine bI ?_ _ | refine bD ?_ | refine bv ?_ _)); exact BK299.out⟩, ⟨bl⟩⟩
              case rest =>
               clear HC30; (try clear c25b0); (try clear c26b0); (try clear c27b0); (try clear c28b0); (try clear hcz31_0); (try clear hcz31_1); (try clear hcz31_2); (try clear hcz31_3); (try clear hcz34_0); (try clear hcz34_1); (try clear hcz34_2); (try clear hfz31_0); (try clear hfz31_1); (try clear hfz31_2); (try clear hfz31_3); (try clear hfz34_0); (try clear hfz34_1); (try clear hfz34_2); (try clear hx297_0); (try clear hx298_0); (try clear hx298_1); (try clear hx298_2); (try clear p297); (try clear p298); (try clear q297); (try clear q298); obtain ⟨kq, x109_29, rfl, HA, HJ29, HO_7, BK292, BK299, HB⟩ := hcut
               cases kq with
               | zero => exact absurd HA.out (by simp [af.j4])
               | succ kj29 =>
                have H := HA.out; clear HA; simp only [af.j4] at H
                by_cases c52 : x109_29 = true
                ·subst c52; rw [if_pos rfl] at H; simp only [Zl, Zm] at H; obtain ⟨rfl, rfl⟩ := H; go_wp2; go_ret2; exact ⟨_, pe, pn, bl⟩
                ·replace c52 := Zj c52; subst c52; rw [if_neg (show ¬ (false = true) by decide)] at H; replace H := ob H; obtain ⟨t307, A53, H⟩ := H; have H' := aa.mk H; clear H; have hnb54 := NB299_292.out; have hnc54 := NB292_299.out; obtain ⟨hcz55_0, hcz55_1, hcz55_2, hfz55_0, hfz55_1, hfz55_2⟩ := bc3 BK299.out
                 go_wp2_with (first | ((with_reducible refine ah (f := 73) rfl ?_); refine gl 112 Tryd.func73 #[.agg #[.int .i64 ((az ((au l0 a1).f0) x10_4).f0), .int .i64 ((az ((au l0 a1).f0) x10_4).f1), .int .i64 ((az ((au l0 a1).f0) x10_4).f2)], .int .i64 x10_4] ?_; (with_reducible refine (dV.calls ((az ((au l0 a1).f0) x10_4).f0) ((az ((au l0 a1).f0) x10_4).f1) ((az ((au l0 a1).f0) x10_4).f2) x10_4 t307 _ A53.out).mono ?_); rintro e w56 ⟨v308, rfl, ho0, hb⟩; refine ⟨_, rfl, ?_⟩; have n_ := an5 (Kd.dD (bR HO_7.out) (Kd.ed ho0) hb) (Kd.bU (Kd.eH ho0 (Kd.il (bR HO_7.out))) (aK bl)) (bu BK292.out hb) (bu BK299.out hb) (aj bl hb); clear HO_7 BK292 BK299 HB; obtain ⟨HO_7, HO309, BK292, BK299, HB⟩ := n_; (try clear hb); (try clear ho0)))
                 go_loopg [9, 15] kj29 (fun kq v9 v15 w' => ∃ (x7_6 : List Int) (x9_6 : Bool) (x15_6 : Int), v9 = .bool x9_6 ∧ v15 = .int .i64 x15_6 ∧ aa (af.l3 kq l0 x7_6 x9_6 x10_4 t300 t301 t307 x15_6 ((au l0 a1).f0) ((au l0 a1).f1) ((au l0 a1).f2) ((au l0 a1).f3) = some (r1, r2)) ∧ aa (kq ≤ kj29) ∧ aa (Kd.R (Kd.int .i64) 3 w' w.heap.size (fun k_ => some k_ ≠ (v308 : Value).ownBlock) (.slice (some ⟨go20, 0, none⟩) x7_4.length co20) x7_6) ∧ aa (Kd.R (Kd.int .i64) 3 w' w.heap.size (fun k_ => some k_ ≠ ((.slice (some ⟨go20, 0, none⟩) x7_4.length co20) : Value).ownBlock) v308 t307) ∧ aa (w'.heap[gb292]? = some (.cells #[(.slice (some ad298) ((au l0 a1).f0).length c291_0), .int .i64 ((au l0 a1).f1), .int .i64 ((au l0 a1).f2), .bool ((au l0 a1).f3)] 46 (0, 0))) ∧ aa (w'.heap[gb299]? = some (.cells #[.int .i64 ((az ((au l0 a1).f0) x10_4).f0), .int .i64 ((az ((au l0 a1).f0) x10_4).f1), .int .i64 ((az ((au l0 a1).f0) x10_4).f2)] 43 (0, 0))) ∧ aa (Below w.heap.size w w'))
                 case atStart => exact ⟨(x7_4), (x9_4), (0), pr, pr, H', ⟨Zd _⟩, ⟨by (try simp only [hl7_3]); (try simp only [hl7_4]); (with_reducible repeat (first | apply Kd.bQ | apply Kd.bS | apply Kd.bX)); exact Kd.dB HO_7.out (fun _ hk => hk.2)⟩, ⟨by (try simp only [hl7_3]); (try simp only [hl7_4]); (with_reducible repeat (first | apply Kd.bQ | apply Kd.bS | apply Kd.bX)); exact Kd.dB HO309.out (fun _ hk => hk.2)⟩, ⟨by (try simp only [hl7_3]); (try simp only [hl7_4]); (with_reducible repeat (first | refine bI ?_ _ | refine bD ?_ | refine bv ?_ _)); exact BK292.out⟩, ⟨by (try simp only [hl7_3]); (try simp only [hl7_4]); (with_reducible repeat (first | refine bI ?_ _ | refine bD ?_ | refine bv ?_ _)); exact BK299.out⟩, ⟨bl⟩⟩
                 case round =>
                  clear H'; (try clear hcz55_0); (try clear hcz55_1); (try clear hcz55_2); (try clear hfz55_0); (try clear hfz55_1); (try clear hfz55_2); obtain ⟨x7_6, x9_6, x15_6, rfl, rfl, HA, HK6, HO_7, HO_14, BK292, BK299, HB⟩ := hrel
                  have hl7_6 := (Kd.aU HO_7.out).1; rw [hl7_6] at HO_7; (try simp only [hl7_6]); (try simp only [hl7_6] at BK292); (try simp only [hl7_6] at BK299); (try simp only [hl7_6] at HO_14)
                  cases gk with
                  | zero => exact absurd HA.out (by simp [af.l3])
                  | succ k6 =>
                   have H := HA.out; clear HA; simp only [af.l3] at H
                   by_cases c57 : x15_6 < (t307.length : Int)
                   ·rw [if_pos c57] at H; have c57b0 := Za c57; clear c57
                    replace H := it (c := 0 ≤ x15_6) H; obtain ⟨c58, H⟩ := H; have c58b0 := Za c58; clear c58; have HH_ := aa.mk H; clear H; obtain ⟨Ao60, co60, eo60⟩ := Kd.dh HO_14.out; subst eo60
                    have p310 : 0 ≤ (x15_6 : Int) := Zc pa
                    have q310 : x15_6 < (t307.length : Int) := Zc pa
                    obtain ⟨ad310, e310, hx310_0⟩ := Kd.dG (Kd.aU HO_14.out).2.2 x15_6 p310 q310
                    cases e310
                    replace p310 := eq_true p310; replace q310 := eq_true q310; have H := HH_.out; clear HH_
                    by_cases c59 : (rd t307 x15_6) ≥ (x7_6.length : Int)
                    ·rw [if_pos c59] at H; have c59b0 : decide ((x7_6.length : Int) ≤ (rd t307 x15_6)) = true := Za c59; clear c59; simp only [Zl, Zm] at H; obtain ⟨rfl, rfl⟩ := H; go_wp2; go_ret2; exact ⟨_, pe, pn, bl⟩
                    ·rw [if_neg c59] at H; have c59b0 : decide ((x7_6.length : Int) ≤ (rd t307 x15_6)) = false := Zb c59; clear c59
                     replace H := it (c := 0 ≤ (rd t307 x15_6)) H; obtain ⟨c61, H⟩ := H; have c61b0 := Za c61; clear c61
                     replace H := it (c := (rd t307 x15_6) < (x7_6.length : Int)) H; obtain ⟨c62, H⟩ := H; have c62b0 := Za c62; clear c62; have HH_ := aa.mk H; clear H
                     have p311 : 0 ≤ (x15_6 : Int) := Zc pa
                     have q311 : x15_6 < (t307.length : Int) := Zc pa
                     obtain ⟨ad311, e311, hx311_0⟩ := Kd.dG (Kd.aU HO_14.out).2.2 x15_6 p311 q311; obtain rfl : ad310 = ad311 := (by injection e311); replace p311 := eq_true p311; replace q311 := eq_true q311
                     have p312 : 0 ≤ ((rd t307 x15_6) : Int) := Zc pa
                     have q312 : (rd t307 x15_6) < (x7_6.length : Int) := Zc pa
                     obtain ⟨ad312, e312, hx312_0⟩ := Kd.dG (Kd.aU HO_7.out).2.2 (rd t307 x15_6) p312 q312; obtain rfl : (⟨go20, 0, none⟩ : Addr) = ad312 := (by injection e312); (first | simp only [add_plain] at hx312_0 | simp only [fT] at hx312_0 | simp only [Addr.add, Nat.zero_add] at hx312_0 | skip); replace p312 := eq_true p312; replace q312 := eq_true q312; have H := HH_.out; clear HH_
                     by_cases c63 : (rd x7_6 (rd t307 x15_6)) < 0
                     ·rw [if_pos c63] at H; have c63b0 := Za c63; clear c63
                      replace H := it (c := 0 ≤ x10_4) H; obtain ⟨c64, H⟩ := H; have c64b0 := Za c64; clear c64
                      replace H := it (c := x10_4 < (x7_6.length : Int)) H; obtain ⟨c65, H⟩ := H; have c65b0 := Za c65; clear c65; obtain ⟨y315, hy315⟩ : ∃ y_ : List Int, y_ = (x7_6.set ((rd t307 x15_6) : Int).toNat (wrap64 ((wrap64 ((rd x7_6 x10_4) - t300)) + t301))) := ⟨_, rfl⟩; (first | replace H := hs hy315 H | rw [← hy315] at H)
                      have Ny315 := aa.mk hy315; clear hy315; have HH_ := aa.mk H; clear H; (try go_wp2); have n_ := an5 (Kd.bX HO_7.out) (Kd.bX HO_14.out) (bD BK292.out) (bD BK299.out) (dm HB.out); clear HO_7 HO_14 BK292 BK299 HB; obtain ⟨HO_7, HO_14, BK292, BK299, HB⟩ := n_
                      have p313 : 0 ≤ (x15_6 : Int) := Zc pa
                      have q313 : x15_6 < (t307.length : Int) := Zc pa
                      obtain ⟨ad313, e313, hx313_0⟩ := Kd.dG (Kd.aU HO_14.out).2.2 x15_6 p313 q313; obtain rfl : ad310 = ad313 := (by injection e313); replace p313 := eq_true p313; replace q313 := eq_true q313
                      have p314 : 0 ≤ (x10_4 : Int) := Zc pa
                      have q314 : x10_4 < (x7_6.length : Int) := Zc pa
                      obtain ⟨ad314, e314, hx314_0⟩ := Kd.dG (Kd.aU HO_7.out).2.2 x10_4 p314 q314; obtain rfl : (⟨go20, 0, none⟩ : Addr) = ad314 := (by injection e314); (first | simp only [add_plain] at hx314_0 | simp only [fT] at hx314_0 | simp only [Addr.add, Nat.zero_add] at hx314_0 | skip); replace p314 := eq_true p314; replace q314 := eq_true q314
                      have p66 : 0 ≤ ((rd t307 x15_6) : Int) := Zc pa
                      have q66 : ((rd t307 x15_6) : Int) < ((x7_6.length : Int) : Int) := Zc pa
                      obtain ⟨hx66_0, hf66_0⟩ := Kd.nG 0 HO_7.out ((rd t307 x15_6) : Int) p66 q66; replace p66 := eq_true p66; replace q66 := eq_true q66; have HP70 := Kd.R_putn HO_7.out ((rd t307 x15_6) : Int) (wrap64 ((wrap64 ((rd x7_6 x10_4) - t300)) + t301)); rw [← Ny315.out] at HP70; have HQ70 := aa.mk HP70; clear HP70; refine lu (n := 15) (S := fun w' => w'.cell? (ad310.add (x15_6).toNat) = some (.int .i64 (rd t307 x15_6)) ∧ w'.cell? ⟨go20, (x10_4).toNat, none⟩ = some (.int .i64 (rd x7_6 x10_4))) (ds := [14]) #[false, false, false, false, false, false, false, false, false, false, false, false, false, false, false] (by kernel_rfl) rfl rfl ⟨hx313_0, hx314_0⟩ (fun hHeld => ?_); refine iR af.tab28 af.bits28 (fun HT_ HW_ => ?_); generalize wr.drew = w69 at HO_7 HO_14 BK292 BK299 HB HQ70 hf66_0 hx313_0 hx314_0 hx66_0 hHeld ⊢; refine pz 0 (some 134) #[true, false, false, false, false, false, false, false, false, false, false, false, false, false, false] ?_
                      refine pz 1 (some 135) #[true, true, false, false, false, false, false, false, false, false, false, false, false, false, false] ?_
                      refine pz 2 (some 136) #[true, true, true, false, false, false, false, false, false, false, false, false, false, false, false] ?_
                      refine pz 3 (some 137) #[true, true, true, true, false, false, false, false, false, false, false, false, false, false, false] ?_
                      refine pz 5 (some 139) #[true, true, true, true, false, true, false, false, false, false, false, false, false, false, false] ?_
                      refine pz 6 (some 140) #[true, true, true, true, false, true, true, false, false, false, false, false, false, false, false] ?_
                      refine pz 7 (some 141) #[true, true, true, true, false, true, true, true, false, false, false, false, false, false, false] ?_
                      refine pz 9 (some 143) #[true, true, true, true, false, true, true, true, false, true, false, false, false, false, false] ?_
                      refine pz 11 (some 145) #[true, true, true, true, false, true, true, true, false, true, false, true, false, false, false] ?_
                      refine tz 4 (some 138) #[true, true, true, true, true, true, true, true, false, true, false, true, false, false, false] ?_
                      refine tz 8 (some 142) #[true, true, true, true, true, true, true, true, true, true, false, true, false, false, false] ?_
                      refine pz 10 (some 144) #[true, true, true, true, true, true, true, true, true, true, true, true, false, false, false] ?_
                      refine pz 12 (some 146) #[true, true, true, true, true, true, true, true, true, true, true, true, true, false, false] ?_
                      refine pz 13 (some 147) #[true, true, true, true, true, true, true, true, true, true, true, true, true, true, false] ?_
                      refine last_ (i := 14) (N := none) #[true, true, true, true, true, true, true, true, true, true, true, true, true, true, true] rfl rfl (qy HT_.out (by kernel_rfl)) (by decide) (fun K hK => ?_); refine vw (w1 := ?_) (by rfl) rfl ?_ ?_; rotate_left
                      ·go_simp; rfl
                      refine hK.out _ _ ?_; clear hK K; refine mW (jF HT_.out (by kernel_rfl)) ?_; (try go_wp2)
                      have n0_ : aa (Kd.R (Kd.int .i64) 3 (w69.setCell ⟨go20, ((rd t307 x15_6) : Int).toNat, none⟩ (.int .i64 (wrap64 ((wrap64 ((rd x7_6 x10_4) - t300)) + t301)))) w.heap.size (fun k_ => some k_ ≠ (.slice (some ad310) t307.length co60 : Value).ownBlock) (.slice (some ⟨go20, 0, none⟩) x7_6.length co20) y315) := ⟨bR HQ70.out⟩
                      have n1_ : aa (Kd.R (Kd.int .i64) 3 (w69.setCell ⟨go20, ((rd t307 x15_6) : Int).toNat, none⟩ (.int .i64 (wrap64 ((wrap64 ((rd x7_6 x10_4) - t300)) + t301)))) w.heap.size (fun k_ => some k_ ≠ (.slice (some ⟨go20, 0, none⟩) x7_6.length co20 : Value).ownBlock) (.slice (some ad310) t307.length co60) t307) := ⟨by (with_reducible repeat (first | apply Kd.bQ | apply Kd.bS | apply Kd.bX)); exact Kd.dB (Kd.lJ (p := ⟨go20, ((rd t307 x15_6) : Int).toNat, none⟩) (Kd.dB HO_14.out (fun k_ hk => (⟨hk, fun e_ => hk (by rw [e_]; rfl)⟩ : _ ∧ k_ ≠ go20))) (fun _ hk => hk.2) (.int .i64 (wrap64 ((wrap64 ((rd x7_6 x10_4) - t300)) + t301)))) (fun _ hk => hk.1)⟩
                      have n2_ : aa ((w69.setCell ⟨go20, ((rd t307 x15_6) : Int).toNat, none⟩ (.int .i64 (wrap64 ((wrap64 ((rd x7_6 x10_4) - t300)) + t301)))).heap[gb292]? = some (.cells #[.slice (some ad298) ((au l0 a1).f0).length c291_0, .int .i64 ((au l0 a1).f1), .int .i64 ((au l0 a1).f2), .bool ((au l0 a1).f3)] 46 (0, 0))) := ⟨by (with_reducible repeat (first | refine bI ?_ _ | refine bD ?_ | refine bv ?_ _)); refine dF ?_ (by have h_ := Kd.kV HO_7.out BK292.out (by decide); intro e_; exact h_ (by rw [e_]; rfl)) _; (with_reducible repeat (first | refine bI ?_ _ | refine bD ?_ | refine bv ?_ _)); exact BK292.out⟩
                      have n3_ : aa ((w69.setCell ⟨go20, ((rd t307 x15_6) : Int).toNat, none⟩ (.int .i64 (wrap64 ((wrap64 ((rd x7_6 x10_4) - t300)) + t301)))).heap[gb299]? = some (.cells #[.int .i64 ((az ((au l0 a1).f0) x10_4).f0), .int .i64 ((az ((au l0 a1).f0) x10_4).f1), .int .i64 ((az ((au l0 a1).f0) x10_4).f2)] 43 (0, 0))) := ⟨by (with_reducible repeat (first | refine bI ?_ _ | refine bD ?_ | refine bv ?_ _)); refine dF ?_ (by have h_ := Kd.kV HO_7.out BK299.out (by decide); intro e_; exact h_ (by rw [e_]; rfl)) _; (with_reducible repeat (first | refine bI ?_ _ | refine bD ?_ | refine bv ?_ _)); exact BK299.out⟩
                      have n4_ : aa (Below w.heap.size w (w69.setCell ⟨go20, ((rd t307 x15_6) : Int).toNat, none⟩ (.int .i64 (wrap64 ((wrap64 ((rd x7_6 x10_4) - t300)) + t301))))) := ⟨bl⟩
                      (try clear HO_7); (try clear HO_14); (try clear BK292); (try clear BK299); (try clear HB); generalize (w69.setCell ⟨go20, ((rd t307 x15_6) : Int).toNat, none⟩ (.int .i64 (wrap64 ((wrap64 ((rd x7_6 x10_4) - t300)) + t301)))) = w71 at n0_ n1_ n2_ n3_ n4_ ⊢; have HO_7 := n0_; have HO_14 := n1_; have BK292 := n2_; have BK299 := n3_; have HB := n4_; clear n0_ n1_ n2_ n3_ n4_; have n_ := an5 (Kd.bX HO_7.out) (Kd.bX HO_14.out) (bD BK292.out) (bD BK299.out) (dm HB.out); clear HO_7 HO_14 BK292 BK299 HB; obtain ⟨HO_7, HO_14, BK292, BK299, HB⟩ := n_
                      have p316 : 0 ≤ (x15_6 : Int) := Zc pa
                      have q316 : x15_6 < (t307.length : Int) := Zc pa
                      obtain ⟨ad316, e316, hx316_0⟩ := Kd.dG (Kd.aU HO_14.out).2.2 x15_6 p316 q316; obtain rfl : ad310 = ad316 := (by injection e316); replace p316 := eq_true p316; replace q316 := eq_true q316
                      have p317 : 0 ≤ ((rd t307 x15_6) : Int) := Zc pa
                      have q317 : (rd t307 x15_6) < (y315.length : Int) := (by have h_ : ((rd t307 x15_6) : Int) < ((x7_6.length : Int) : Int) := Zc pa; first | (have e_ := (Kd.aU HO_7.out).1; omega) | simpa only [Ny315.out, List.length_set] using h_)
                      have ql317 : (((rd t307 x15_6) : Int) < ((x7_6.length : Int) : Int)) = True := eq_true (Zc pa)
                      obtain ⟨ad317, e317, hx317_0⟩ := Kd.dG (Kd.aU HO_7.out).2.2 (rd t307 x15_6) p317 q317; obtain rfl : (⟨go20, 0, none⟩ : Addr) = ad317 := (by injection e317); (first | simp only [add_plain] at hx317_0 | simp only [fT] at hx317_0 | simp only [Addr.add, Nat.zero_add] at hx317_0 | skip); replace p317 := eq_true p317; replace q317 := eq_true q317
                      have p318 : 0 ≤ (x10_4 : Int) := Zc pa
                      have q318 : x10_4 < (y315.length : Int) := (by have h_ : (x10_4 : Int) < ((x7_6.length : Int) : Int) := Zc pa; first | (have e_ := (Kd.aU HO_7.out).1; omega) | simpa only [Ny315.out, List.length_set] using h_)
                      have ql318 : ((x10_4 : Int) < ((x7_6.length : Int) : Int)) = True := eq_true (Zc pa)
                      obtain ⟨ad318, e318, hx318_0⟩ := Kd.dG (Kd.aU HO_7.out).2.2 x10_4 p318 q318; obtain rfl : (⟨go20, 0, none⟩ : Addr) = ad318 := (by injection e318); (first | simp only [add_plain] at hx318_0 | simp only [fT] at hx318_0 | simp only [Addr.add, Nat.zero_add] at hx318_0 | skip); replace p318 := eq_true p318; replace q318 := eq_true q318; refine lu (n := 16) (S := fun w' => w'.cell? (ad310.add (x15_6).toNat) = some (.int .i64 (rd t307 x15_6)) ∧ w'.cell? ⟨go20, ((rd t307 x15_6)).toNat, none⟩ = some (.int .i64 (rd y315 (rd t307 x15_6))) ∧ w'.cell? ⟨go20, (x10_4).toNat, none⟩ = some (.int .i64 (rd y315 x10_4))) (ds := []) #[false, false, false, false, false, false, false, false, false, false, false, false, false, false, false, false] (by kernel_rfl) rfl rfl ⟨hx316_0, hx317_0, hx318_0⟩ (fun hHeld => ?_); refine iR af.tab30 af.uN (fun HT_ HW_ => ?_); generalize w71.drew = w72 at HO_7 HO_14 BK292 BK299 HB HQ70 hx316_0 hx317_0 hx318_0 hHeld ⊢; refine pz 0 (some 148) #[true, false, false, false, false, false, false, false, false, false, false, false, false, false, false, false] ?_
                      refine pz 1 (some 149) #[true, true, false, false, false, false, false, false, false, false, false, false, false, false, false, false] ?_
                      refine pz 2 (some 150) #[true, true, true, false, false, false, false, false, false, false, false, false, false, false, false, false] ?_
                      refine pz 3 (some 151) #[true, true, true, true, false, false, false, false, false, false, false, false, false, false, false, false] ?_
                      refine pz 7 (some 155) #[true, true, true, true, false, false, false, true, false, false, false, false, false, false, false, false] ?_
                      refine pz 8 (some 156) #[true, true, true, true, false, false, false, true, true, false, false, false, false, false, false, false] ?_
                      refine pz 9 (some 157) #[true, true, true, true, false, false, false, true, true, true, false, false, false, false, false, false] ?_
                      refine pz 11 (some 159) #[true, true, true, true, false, false, false, true, true, true, false, true, false, false, false, false] ?_
                      refine pz 13 (some 161) #[true, true, true, true, false, false, false, true, true, true, false, true, false, true, false, false] ?_
                      refine tz 4 (some 152) #[true, true, true, true, true, false, false, true, true, true, false, true, false, true, false, false] ?_
                      refine pz 5 (some 153) #[true, true, true, true, true, true, false, true, true, true, false, true, false, true, false, false] ?_
                      refine tz 6 (some 154) #[true, true, true, true, true, true, true, true, true, true, false, true, false, true, false, false] ?_
                      refine tz 10 (some 158) #[true, true, true, true, true, true, true, true, true, true, true, true, false, true, false, false] ?_
                      refine pz 12 (some 160) #[true, true, true, true, true, true, true, true, true, true, true, true, true, true, false, false] ?_
                      refine pz 14 (some 162) #[true, true, true, true, true, true, true, true, true, true, true, true, true, true, true, false] ?_
                      refine pz 15 (some 163) #[true, true, true, true, true, true, true, true, true, true, true, true, true, true, true, true] ?_
                      refine mW (jF HT_.out (by kernel_rfl)) ?_; have H := HH_.out; clear HH_
                      by_cases c67 : (rd y315 (rd t307 x15_6)) = (wrap64 ((wrap64 ((rd y315 x10_4) - t300)) + t301))
                      ·rw [if_pos c67] at H; obtain ⟨c67b0, c67b1⟩ := eqs c67; clear c67; have H' := aa.mk H; clear H; (try go_wp2); (try simp only [← hl7_6])
                       go_roundg k6
                       case measure => have := HJ2.out; have := HK2.out; have := HK3.out; have := HK4.out; have := HJ29.out; have := HK6.out; omega
                       case rel => exact ⟨(y315), (true), (wrap64 (x15_6 + 1)), pr, pr, H', ⟨by have := HJ2.out; have := HK2.out; have := HK3.out; have := HK4.out; have := HJ29.out; have := HK6.out; omega⟩, ⟨by (try simp only [hl7_3]); (try simp only [hl7_4]); (try simp only [hl7_6]); (with_reducible repeat (first | apply Kd.bQ | apply Kd.bS | apply Kd.bX)); exact HO_7.out⟩, ⟨by (try simp only [hl7_3]); (try simp only [hl7_4]); (try simp only [hl7_6]); (with_reducible repeat (first | apply Kd.bQ | apply Kd.bS | apply Kd.bX)); exact HO_14.out⟩, ⟨by (try simp only [hl7_3]); (try simp only [hl7_4]); (try simp only [hl7_6]); (with_reducible repeat (first | refine bI ?_ _ | refine bD ?_ | refine bv ?_ _)); exact BK292.out⟩, ⟨by (try simp only [hl7_3]); (try simp only [hl7_4]); (try simp only [hl7_6]); (with_reducible repeat (first | refine bI ?_ _ | refine bD ?_ | refine bv ?_ _)); exact BK299.out⟩, ⟨bl⟩⟩
                      ·rw [if_neg c67] at H; obtain ⟨c67b0, c67b1⟩ := eqf c67; simp only [Zl, Zm] at H; obtain ⟨rfl, rfl⟩ := H; (try go_wp2); go_ret2; exact ⟨_, pe, pn, bl⟩
                     ·rw [if_neg c63] at H; have c63b0 := Zb c63; clear c63
                      replace H := it (c := 0 ≤ x10_4) H; obtain ⟨c78, H⟩ := H; have c78b0 := Za c78; clear c78
                      replace H := it (c := x10_4 < (x7_6.length : Int)) H; obtain ⟨c79, H⟩ := H; have c79b0 := Za c79; clear c79; have HH_ := aa.mk H; clear H; (try go_wp2); have n_ := an5 (Kd.bX HO_7.out) (Kd.bX HO_14.out) (bD BK292.out) (bD BK299.out) (dm HB.out); clear HO_7 HO_14 BK292 BK299 HB; obtain ⟨HO_7, HO_14, BK292, BK299, HB⟩ := n_
                      have p319 : 0 ≤ (x15_6 : Int) := Zc pa
                      have q319 : x15_6 < (t307.length : Int) := Zc pa
                      obtain ⟨ad319, e319, hx319_0⟩ := Kd.dG (Kd.aU HO_14.out).2.2 x15_6 p319 q319; obtain rfl : ad310 = ad319 := (by injection e319); replace p319 := eq_true p319; replace q319 := eq_true q319
                      have p320 : 0 ≤ ((rd t307 x15_6) : Int) := Zc pa
                      have q320 : (rd t307 x15_6) < (x7_6.length : Int) := Zc pa
                      obtain ⟨ad320, e320, hx320_0⟩ := Kd.dG (Kd.aU HO_7.out).2.2 (rd t307 x15_6) p320 q320; obtain rfl : (⟨go20, 0, none⟩ : Addr) = ad320 := (by injection e320); (first | simp only [add_plain] at hx320_0 | simp only [fT] at hx320_0 | simp only [Addr.add, Nat.zero_add] at hx320_0 | skip); replace p320 := eq_true p320; replace q320 := eq_true q320
                      have p321 : 0 ≤ (x10_4 : Int) := Zc pa
                      have q321 : x10_4 < (x7_6.length : Int) := Zc pa
                      obtain ⟨ad321, e321, hx321_0⟩ := Kd.dG (Kd.aU HO_7.out).2.2 x10_4 p321 q321; obtain rfl : (⟨go20, 0, none⟩ : Addr) = ad321 := (by injection e321); (first | simp only [add_plain] at hx321_0 | simp only [fT] at hx321_0 | simp only [Addr.add, Nat.zero_add] at hx321_0 | skip); replace p321 := eq_true p321; replace q321 := eq_true q321; refine lu (n := 16) (S := fun w' => w'.cell? (ad310.add (x15_6).toNat) = some (.int .i64 (rd t307 x15_6)) ∧ w'.cell? ⟨go20, ((rd t307 x15_6)).toNat, none⟩ = some (.int .i64 (rd x7_6 (rd t307 x15_6))) ∧ w'.cell? ⟨go20, (x10_4).toNat, none⟩ = some (.int .i64 (rd x7_6 x10_4))) (ds := []) #[false, false, false, false, false, false, false, false, false, false, false, false, false, false, false, false] (by kernel_rfl) rfl rfl ⟨hx319_0, hx320_0, hx321_0⟩ (fun hHeld => ?_); refine iR af.tab30 af.uN (fun HT_ HW_ => ?_); generalize wr.drew = w82 at HO_7 HO_14 BK292 BK299 HB hx319_0 hx320_0 hx321_0 hHeld ⊢; refine pz 0 (some 148) #[true, false, false, false, false, false, false, false, false, false, false, false, false, false, false, false] ?_
                      refine pz 1 (some 149) #[true, true, false, false, false, false, false, false, false, false, false, false, false, false, false, false] ?_
                      refine pz 2 (some 150) #[true, true, true, false, false, false, false, false, false, false, false, false, false, false, false, false] ?_
                      refine pz 3 (some 151) #[true, true, true, true, false, false, false, false, false, false, false, false, false, false, false, false] ?_
                      refine pz 7 (some 155) #[true, true, true, true, false, false, false, true, false, false, false, false, false, false, false, false] ?_
                      refine pz 8 (some 156) #[true, true, true, true, false, false, false, true, true, false, false, false, false, false, false, false] ?_
                      refine pz 9 (some 157) #[true, true, true, true, false, false, false, true, true, true, false, false, false, false, false, false] ?_
                      refine pz 11 (some 159) #[true, true, true, true, false, false, false, true, true, true, false, true, false, false, false, false] ?_
                      refine pz 13 (some 161) #[true, true, true, true, false, false, false, true, true, true, false, true, false, true, false, false] ?_
                      refine tz 4 (some 152) #[true, true, true, true, true, false, false, true, true, true, false, true, false, true, false, false] ?_
                      refine pz 5 (some 153) #[true, true, true, true, true, true, false, true, true, true, false, true, false, true, false, false] ?_
                      refine tz 6 (some 154) #[true, true, true, true, true, true, true, true, true, true, false, true, false, true, false, false] ?_
                      refine tz 10 (some 158) #[true, true, true, true, true, true, true, true, true, true, true, true, false, true, false, false] ?_
                      refine pz 12 (some 160) #[true, true, true, true, true, true, true, true, true, true, true, true, true, true, false, false] ?_
                      refine pz 14 (some 162) #[true, true, true, true, true, true, true, true, true, true, true, true, true, true, true, false] ?_
                      refine pz 15 (some 163) #[true, true, true, true, true, true, true, true, true, true, true, true, true, true, true, true] ?_
                      refine mW (jF HT_.out (by kernel_rfl)) ?_; have H := HH_.out; clear HH_
                      by_cases c80 : (rd x7_6 (rd t307 x15_6)) = (wrap64 ((wrap64 ((rd x7_6 x10_4) - t300)) + t301))
                      ·rw [if_pos c80] at H; obtain ⟨c80b0, c80b1⟩ := eqs c80; clear c80; have H' := aa.mk H; clear H; (try go_wp2); (try simp only [← hl7_6])
                       go_roundg k6
                       case measure => have := HJ2.out; have := HK2.out; have := HK3.out; have := HK4.out; have := HJ29.out; have := HK6.out; omega
                       case rel => exact ⟨(x7_6), (x9_6), (wrap64 (x15_6 + 1)), pr, pr, H', ⟨by have := HJ2.out; have := HK2.out; have := HK3.out; have := HK4.out; have := HJ29.out; have := HK6.out; omega⟩, ⟨by (try simp only [hl7_3]); (try simp only [hl7_4]); (try simp only [hl7_6]); (with_reducible repeat (first | apply Kd.bQ | apply Kd.bS | apply Kd.bX)); exact HO_7.out⟩, ⟨by (try simp only [hl7_3]); (try simp only [hl7_4]); (try simp only [hl7_6]); (with_reducible repeat (first | apply Kd.bQ | apply Kd.bS | apply Kd.bX)); exact HO_14.out⟩, ⟨by (try simp only [hl7_3]); (try simp only [hl7_4]); (try simp only [hl7_6]); (with_reducible repeat (first | refine bI ?_ _ | refine bD ?_ | refine bv ?_ _)); exact BK292.out⟩, ⟨by (try simp only [hl7_3]); (try simp only [hl7_4]); (try simp only [hl7_6]); (with_reducible repeat (first | refine bI ?_ _ | refine bD ?_ | refine bv ?_ _)); exact BK299.out⟩, ⟨bl⟩⟩
                      ·rw [if_neg c80] at H; obtain ⟨c80b0, c80b1⟩ := eqf c80; simp only [Zl, Zm] at H; obtain ⟨rfl, rfl⟩ := H; (try go_wp2); go_ret2; exact ⟨_, pe, pn, bl⟩
                   ·rw [if_neg c57] at H; have c57b0 := Zb c57; clear c57; have H' := aa.mk H; clear H; obtain ⟨Ao85, co85, eo85⟩ := Kd.dh HO_14.out; subst eo85; go_wp2; (try simp only [← hl7_4, ← hl7_6])
                    go_roundg k6
                    case measure => have := HJ2.out; have := HK2.out; have := HK3.out; have := HK4.out; have := HJ29.out; have := HK6.out; omega
                    case rel => exact ⟨(x7_6), (x9_6), (wrap64 (x10_4 + 1)), pr, pr, H', ⟨by have := HJ2.out; have := HK2.out; have := HK3.out; have := HK4.out; have := HJ29.out; have := HK6.out; omega⟩, ⟨by (try simp only [hl7_3]); (try simp only [hl7_4]); (try simp only [hl7_6]); (with_reducible repeat (first | apply Kd.bQ | apply Kd.bS | apply Kd.bX)); exact Kd.dB HO_7.out (fun _ hk => trivial)⟩, ⟨by (try simp only [hl7_3]); (try simp only [hl7_4]); (try simp only [hl7_6]); (with_reducible repeat (first | refine bI ?_ _ | refine bD ?_ | refine bv ?_ _)); exact BK292.out⟩, ⟨bl⟩⟩
            ·rw [if_neg c25] at H; have c25b0 := Zb c25; clear c25; have H' := aa.mk H; clear H; go_wp2; (try simp only [← hl7_3, ← hl7_4])
             go_roundg k4
             case measure => have := HJ2.out; have := HK2.out; have := HK3.out; have := HK4.out; omega
             case rel => exact ⟨(x7_4), (x9_4), pr, H', ⟨by have := HJ2.out; have := HK2.out; have := HK3.out; have := HK4.out; omega⟩, ⟨by (try simp only [hl7_3]); (try simp only [hl7_4]); (with_reducible repeat (first | apply Kd.bQ | apply Kd.bS | apply Kd.bX)); exact HO_7.out⟩, ⟨by (try simp only [hl7_3]); (try simp only [hl7_4]); (with_reducible repeat (first | refine bI ?_ _ | refine bD ?_ | refine bv ?_ _)); exact BK292.out⟩, ⟨bl⟩⟩
         ·replace c24 := Zj c24; subst c24; rw [if_neg (show ¬ (false = true) by decide)] at H; simp only [Zl, Zm] at H; obtain ⟨rfl, rfl⟩ := H; go_wp2; go_ret2; exact ⟨_, pe, bR HO_7.out, bl⟩
end Go.Proofs.YthckiolgpgplpaaDoor.YD
