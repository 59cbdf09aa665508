import Derived.Test.YthckiolgpgplpaaDoorPx9
namespace Go.Proofs.YthckiolgpgplpaaDoor.YD
set_option maxHeartbeats 8000000
set_option maxRecDepth 100000
open Go.RowKit YC YA YB
attribute [local go_sem] eF eD fD fE dS dU eG eO
set_option linter.unusedVariables false
set_option linter.unusedSimpArgs false
def bL.l0 : Nat → List Int → List Int → Int → Option (Bool)
 | 0, _, _, _ => none
 | k + 1, x0, x1, x5 => if x5 < (x0.length : Int) then (if 0 ≤ x5 then (if x5 < (x1.length : Int) then (if (rd x0 x5) = (rd x1 x5) then (bL.l0 k x0 x1 (wrap64 (x5 + 1))) else (some false)) else (none)) else (none)) else (some true)
def bL.f (k : Nat) (l0 : List Int) (l1 : List Int) : Option (Bool) := if (l0.length : Int) = (l1.length : Int) then (bL.l0 k l0 l1 0) else (some false)
theorem bL.calls (k : Nat) (A0 : Option Addr) (c0 : Nat) (l0 : List Int) (A1 : Option Addr) (c1 : Nat) (l1 : List Int) (r : Bool) (w : World) (hr0 : Kd.C (Kd.int .i64) w A0 l0.length l0) (hc0 : l0.length ≤ c0) (hr1 : Kd.C (Kd.int .i64) w A1 l1.length l1) (hc1 : l1.length ≤ c1) (h : bL.f k l0 l1 = some r) :
  Calls Tryd.prog 42 #[.slice A0 l0.length c0, .slice A1 l1.length c1] w fun e w' => e = .returned (.bool r) ∧ aG w w' := by
 have HR0 := aa.mk hr0; have HC0 := aa.mk hc0; clear hr0 hc0; have HR1 := aa.mk hr1; have HC1 := aa.mk hc1; clear hr1 hc1; have H : (if (l0.length : Int) = (l1.length : Int) then (bL.l0 k l0 l1 0) else (some false)) = some r := h; clear h
 by_cases c3 : (l0.length : Int) = (l1.length : Int)
 ·rw [if_pos c3] at H; obtain ⟨c3b0, c3b1⟩ := eqs c3
  have c3b2 : (l0.length == l1.length) = true := by first | simpa using c3 | (simp at c3 ⊢; omega)
  clear c3; have H' := aa.mk H; clear H; go_enter Tryd.func42, Tryd.ntmps42; go_wp2
  repeat (go_quiet (fail); try go_wp2)
  go_loopg [5] k (fun kq v5 w' => ∃ (x5_1 : Int), v5 = .int .i64 x5_1 ∧ aa (bL.l0 kq l0 l1 x5_1 = some r) ∧ aa (kq ≤ k) ∧ aG w w')
  case atStart => exact ⟨(0), pr, H', ⟨Zd _⟩, by repeat (first | exact aG.refl _ | apply aG.step)⟩
  case round =>
   clear H'; (try clear c3b0); (try clear c3b1); (try clear c3b2); obtain ⟨x5_1, rfl, HA, HK1, ⟨m1, rfl⟩⟩ := hrel
   cases gk with
   | zero => exact absurd HA.out (by simp [bL.l0])
   | succ k1 =>
    have H := HA.out; clear HA; simp only [bL.l0] at H
    by_cases c4 : x5_1 < (l0.length : Int)
    ·rw [if_pos c4] at H; have c4b0 := Za c4; clear c4
     replace H := it (c := 0 ≤ x5_1) H; obtain ⟨c5, H⟩ := H; have c5b0 := Za c5; clear c5
     replace H := it (c := x5_1 < (l1.length : Int)) H; obtain ⟨c6, H⟩ := H; have c6b0 := Za c6; clear c6
     by_cases c7 : (rd l0 x5_1) = (rd l1 x5_1)
     ·rw [if_pos c7] at H; obtain ⟨c7b0, c7b1⟩ := eqs c7; clear c7; have H' := aa.mk H; clear H
      have p353 : 0 ≤ (x5_1 : Int) := Zc pa
      have q353 : x5_1 < (l0.length : Int) := Zc pa
      obtain ⟨ad353, e353, hx353_0⟩ := Kd.dG HR0.out x5_1 p353 q353
      cases e353
      replace p353 := eq_true p353; replace q353 := eq_true q353
      have p354 : 0 ≤ (x5_1 : Int) := Zc pa
      have q354 : x5_1 < (l1.length : Int) := Zc pa
      obtain ⟨ad354, e354, hx354_0⟩ := Kd.dG HR1.out x5_1 p354 q354
      cases e354
      replace p354 := eq_true p354; replace q354 := eq_true q354; go_wp2
      repeat (go_quiet (fail); try go_wp2)
      go_roundg k1
      case measure => have := HK1.out; omega
      case rel => exact ⟨(wrap64 (x5_1 + 1)), pr, H', ⟨by have := HK1.out; omega⟩, by repeat (first | exact aG.refl _ | apply aG.step)⟩
     ·rw [if_neg c7] at H; obtain ⟨c7b0, c7b1⟩ := eqf c7; obtain rfl := Zg H
      have p353 : 0 ≤ (x5_1 : Int) := Zc pa
      have q353 : x5_1 < (l0.length : Int) := Zc pa
      obtain ⟨ad353, e353, hx353_0⟩ := Kd.dG HR0.out x5_1 p353 q353
      cases e353
      replace p353 := eq_true p353; replace q353 := eq_true q353
      have p354 : 0 ≤ (x5_1 : Int) := Zc pa
      have q354 : x5_1 < (l1.length : Int) := Zc pa
      obtain ⟨ad354, e354, hx354_0⟩ := Kd.dG HR1.out x5_1 p354 q354
      cases e354
      replace p354 := eq_true p354; replace q354 := eq_true q354; go_wp2
      repeat (go_quiet (fail); try go_wp2)
      go_ret; exact ⟨by first | rfl | (simp; done) | (simp [*]; done), by repeat (first | exact aG.refl _ | apply aG.step)⟩
    ·rw [if_neg c4] at H; have c4b0 := Zb c4; clear c4; obtain rfl := Zg H; go_wp2
     repeat (go_quiet (fail); try go_wp2)
     go_ret; exact ⟨by first | rfl | (simp; done) | (simp [*]; done), by repeat (first | exact aG.refl _ | apply aG.step)⟩
 ·rw [if_neg c3] at H; obtain ⟨c3b0, c3b1⟩ := eqf c3
  have c3b2 : (l0.length == l1.length) = false := by first | simpa using c3 | (simp at c3 ⊢; omega)
  obtain rfl := Zg H; go_enter Tryd.func42, Tryd.ntmps42; go_wp2
  repeat (go_quiet (fail); try go_wp2)
  go_ret; exact ⟨by first | rfl | (simp; done) | (simp [*]; done), by repeat (first | exact aG.refl _ | apply aG.step)⟩
def fG.f (k : Nat) (a0 : Int) (a1 : Int) : Option (Int) := (aI.f k a0).bind fun t355 => ((aI.f k a1).bind fun t358 => ((bC.f k t355 t358 0).bind fun t361 => ((bE.f k t361).bind fun t364 => (some t364))))
theorem fG.calls (k : Nat) (a0 : Int) (a1 : Int) (r : Int) (w : World) (h : fG.f k a0 a1 = some r) :
  Calls Tryd.prog 64 #[.int .i64 a0, .int .i64 a1] w fun e w' => e = .returned (.int .i64 r) ∧ Below w.heap.size w w' := by
 have HB := aa.mk (Below.refl w.heap.size w); have H : ((aI.f k a0).bind fun t355 => ((aI.f k a1).bind fun t358 => ((bC.f k t355 t358 0).bind fun t361 => ((bE.f k t361).bind fun t364 => (some t364))))) = some r := h; clear h; replace H := ob H; obtain ⟨t355, A3, H⟩ := H; replace H := ob H; obtain ⟨t358, A4, H⟩ := H; replace H := ob H; obtain ⟨t361, A5, H⟩ := H; replace H := ob H; obtain ⟨t364, A6, H⟩ := H; obtain rfl := Zg H; go_enter Tryd.func64, Tryd.ntmps64
 go_wp2_with (first | ((with_reducible refine ah (f := 78) rfl ?_); refine gl 6 Tryd.func78 #[.int .i64 a0] ?_; (with_reducible refine (aI.calls k a0 t355 _ A3.out).mono ?_); rintro e w7 ⟨v356, rfl, ho0, hb⟩; refine ⟨_, rfl, ?_⟩; have n_ := an2 (Kd.bU ho0 (aK bl)) (aj bl hb); clear HB; obtain ⟨HO357, HB⟩ := n_; (try clear hb); (try clear ho0)) | ((with_reducible refine ah (f := 78) rfl ?_); refine gl 8 Tryd.func78 #[.int .i64 a1] ?_; (with_reducible refine (aI.calls k a1 t358 _ A4.out).mono ?_); rintro e w8 ⟨v359, rfl, ho0, hb⟩; refine ⟨_, rfl, ?_⟩; have n_ := an3 (Kd.dD (bR HO357.out) (Kd.ed ho0) hb) (Kd.bU (Kd.eH ho0 (Kd.il (bR HO357.out))) (aK bl)) (aj bl hb); clear HO357 HB; obtain ⟨HO357, HO360, HB⟩ := n_; (try clear hb); (try clear ho0); obtain ⟨Ao9, co9, eo9⟩ := Kd.dh HO357.out; subst eo9; obtain ⟨Ao10, co10, eo10⟩ := Kd.dh HO360.out; subst eo10) | ((with_reducible refine ah (f := 77) rfl ?_); refine gl 9 Tryd.func77 #[.slice Ao9 t355.length co9, .slice Ao10 t358.length co10, .int .i64 0] ?_; (with_reducible refine (bC.calls k _ _ t355 _ _ t358 0 t361 _ ?side1 ?side2 ?side3 ?side4 A5.out).mono ?_); (case side1 => repeat (first | exact (Kd.aU HO357.out).2.2 | (with_reducible refine Kd.fq ?_ _) | (with_reducible refine Kd.C_drewN ?_ _) | (with_reducible refine Kd.C_drew ?_))); (case side2 => exact (Kd.aU HO357.out).2.1); (case side3 => repeat (first | exact (Kd.aU HO360.out).2.2 | (with_reducible refine Kd.fq ?_ _) | (with_reducible refine Kd.C_drewN ?_ _) | (with_reducible refine Kd.C_drew ?_))); (case side4 => exact (Kd.aU HO360.out).2.1); rintro e w11 ⟨v362, rfl, ho0, hb⟩; refine ⟨_, rfl, ?_⟩; have n_ := an4 (Kd.dD (bR HO357.out) (Kd.ed ho0) hb) (Kd.dD (bR HO360.out) (Kd.ed ho0) hb) (Kd.bU (Kd.eH (Kd.eH ho0 (Kd.il (bR HO357.out))) (Kd.il (bR HO360.out))) (aK bl)) (aj bl hb); clear HO357 HO360 HB; obtain ⟨HO357, HO360, HO363, HB⟩ := n_; (try clear hb); (try clear ho0); obtain ⟨Ao12, co12, eo12⟩ := Kd.dh HO363.out; subst eo12) | ((with_reducible refine ah (f := 76) rfl ?_); refine gl 10 Tryd.func76 #[.slice Ao12 t361.length co12] ?_; (with_reducible refine (bE.calls k _ _ t361 t364 _ ?side1 ?side2 A6.out).mono ?_); (case side1 => repeat (first | exact (Kd.aU HO363.out).2.2 | (with_reducible refine Kd.fq ?_ _) | (with_reducible refine Kd.C_drewN ?_ _) | (with_reducible refine Kd.C_drew ?_))); (case side2 => exact (Kd.aU HO363.out).2.1); rintro e w' ⟨rfl, ⟨nd, rfl⟩⟩; refine ⟨_, rfl, ?_⟩))
 go_ret; exact ⟨pe, bl⟩
def bM.l0 : Nat → List Int → List Int → List Int → Int → Option (Int)
 | 0, _, _, _, _ => none
 | k + 1, x5, x6, x7, x8 => if x8 < 64 then (if 0 ≤ x8 then (if x8 < (x7.length : Int) then (if (rd x7 x8) = 1 then ((bC.f k x5 x6 0).bind fun t376 => ((bC.f k x6 x6 0).bind fun t379 => (bM.l0 k t376 t379 x7 (wrap64 (x8 + 1))))) else ((bC.f k x6 x6 0).bind fun t382 => (bM.l0 k x5 t382 x7 (wrap64 (x8 + 1))))) else (none)) else (none)) else ((bE.f k x5).bind fun t374 => (some t374))
def bM.f (k : Nat) (a0 : Int) (a1 : Int) : Option (Int) := (aI.f k 0).bind fun t365 => ((aI.f k a0).bind fun t368 => ((aI.f k a1).bind fun t371 => (bM.l0 k t365 t368 t371 0)))
theorem bM.calls (k : Nat) (a0 : Int) (a1 : Int) (r : Int) (w : World) (h : bM.f k a0 a1 = some r) :
  Calls Tryd.prog 66 #[.int .i64 a0, .int .i64 a1] w fun e w' => e = .returned (.int .i64 r) ∧ Below w.heap.size w w' := by
 have HB := aa.mk (Below.refl w.heap.size w); have H : ((aI.f k 0).bind fun t365 => ((aI.f k a0).bind fun t368 => ((aI.f k a1).bind fun t371 => (bM.l0 k t365 t368 t371 0)))) = some r := h; clear h; replace H := ob H; obtain ⟨t365, A3, H⟩ := H; replace H := ob H; obtain ⟨t368, A4, H⟩ := H; replace H := ob H; obtain ⟨t371, A5, H⟩ := H; have H' := aa.mk H; clear H; go_enter Tryd.func66, Tryd.ntmps66
 go_wp2_with (first | ((with_reducible refine ah (f := 78) rfl ?_); refine gl 9 Tryd.func78 #[.int .i64 0] ?_; (with_reducible refine (aI.calls k 0 t365 _ A3.out).mono ?_); rintro e w6 ⟨v366, rfl, ho0, hb⟩; refine ⟨_, rfl, ?_⟩; have n_ := an2 (Kd.bU ho0 (aK bl)) (aj bl hb); clear HB; obtain ⟨HO367, HB⟩ := n_; (try clear hb); (try clear ho0)) | ((with_reducible refine ah (f := 78) rfl ?_); refine gl 11 Tryd.func78 #[.int .i64 a0] ?_; (with_reducible refine (aI.calls k a0 t368 _ A4.out).mono ?_); rintro e w7 ⟨v369, rfl, ho0, hb⟩; refine ⟨_, rfl, ?_⟩; have n_ := an3 (Kd.dD (bR HO367.out) (Kd.ed ho0) hb) (Kd.bU (Kd.eH ho0 (Kd.il (bR HO367.out))) (aK bl)) (aj bl hb); clear HO367 HB; obtain ⟨HO367, HO370, HB⟩ := n_; (try clear hb); (try clear ho0)) | ((with_reducible refine ah (f := 78) rfl ?_); refine gl 13 Tryd.func78 #[.int .i64 a1] ?_; (with_reducible refine (aI.calls k a1 t371 _ A5.out).mono ?_); rintro e w8 ⟨v372, rfl, ho0, hb⟩; refine ⟨_, rfl, ?_⟩; have n_ := an4 (Kd.dD (bR HO367.out) (Kd.ed ho0) hb) (Kd.dD (bR HO370.out) (Kd.ed ho0) hb) (Kd.bU (Kd.eH (Kd.eH ho0 (Kd.il (bR HO367.out))) (Kd.il (bR HO370.out))) (aK bl)) (aj bl hb); clear HO367 HO370 HB; obtain ⟨HO367, HO370, HO373, HB⟩ := n_; (try clear hb); (try clear ho0)))
 go_loopg [5, 6, 8] k (fun kq v5 v6 v8 w' => ∃ (x5_1 : List Int) (x6_1 : List Int) (x8_1 : Int), v8 = .int .i64 x8_1 ∧ aa (bM.l0 kq x5_1 x6_1 t371 x8_1 = some r) ∧ aa (kq ≤ k) ∧ aa (Kd.R (Kd.int .i64) 3 w' w.heap.size (fun k_ => some k_ ≠ (v6 : Value).ownBlock ∧ some k_ ≠ (v372 : Value).ownBlock) v5 x5_1) ∧ aa (Kd.R (Kd.int .i64) 3 w' w.heap.size (fun k_ => some k_ ≠ (v5 : Value).ownBlock ∧ some k_ ≠ (v372 : Value).ownBlock) v6 x6_1) ∧ aa (Kd.R (Kd.int .i64) 3 w' w.heap.size (fun k_ => some k_ ≠ (v5 : Value).ownBlock ∧ some k_ ≠ (v6 : Value).ownBlock) v372 t371) ∧ aa (Below w.heap.size w w'))
 case atStart => exact ⟨(t365), (t368), (0), pr, H', ⟨Zd _⟩, ⟨by (with_reducible repeat (first | apply Kd.bQ | apply Kd.bS | apply Kd.bX)); exact Kd.dB HO367.out (fun _ hk => ⟨hk.1.2, hk.2⟩)⟩, ⟨by (with_reducible repeat (first | apply Kd.bQ | apply Kd.bS | apply Kd.bX)); exact Kd.dB HO370.out (fun _ hk => ⟨hk.1.2, hk.2⟩)⟩, ⟨by (with_reducible repeat (first | apply Kd.bQ | apply Kd.bS | apply Kd.bX)); exact Kd.dB HO373.out (fun _ hk => ⟨hk.1.2, hk.2⟩)⟩, ⟨bl⟩⟩
 case round =>
  clear H'; obtain ⟨x5_1, x6_1, x8_1, rfl, HA, HK1, HO_5, HO_6, HO_7, HB⟩ := hrel
  cases gk with
  | zero => exact absurd HA.out (by simp [bM.l0])
  | succ k1 =>
   have H := HA.out; clear HA; simp only [bM.l0] at H
   by_cases c9 : x8_1 < 64
   ·rw [if_pos c9] at H; have c9b0 := Za c9; clear c9
    replace H := it (c := 0 ≤ x8_1) H; obtain ⟨c10, H⟩ := H; have c10b0 := Za c10; clear c10
    replace H := it (c := x8_1 < (t371.length : Int)) H; obtain ⟨c11, H⟩ := H; have c11b0 := Za c11; clear c11
    by_cases c12 : (rd t371 x8_1) = 1
    ·rw [if_pos c12] at H; obtain ⟨c12b0, c12b1⟩ := eqs c12; clear c12; replace H := ob H; obtain ⟨t376, A13, H⟩ := H; replace H := ob H; obtain ⟨t379, A14, H⟩ := H; have H' := aa.mk H; clear H; obtain ⟨Ao15, co15, eo15⟩ := Kd.dh HO_7.out; subst eo15
     have p375 : 0 ≤ (x8_1 : Int) := Zc pa
     have q375 : x8_1 < (t371.length : Int) := Zc pa
     obtain ⟨ad375, e375, hx375_0⟩ := Kd.dG (Kd.aU HO_7.out).2.2 x8_1 p375 q375
     cases e375
     replace p375 := eq_true p375; replace q375 := eq_true q375; obtain ⟨Ao16, co16, eo16⟩ := Kd.dh HO_5.out; subst eo16; obtain ⟨Ao17, co17, eo17⟩ := Kd.dh HO_6.out; subst eo17
     go_wp2_with (first | ((with_reducible refine ah (f := 77) rfl ?_); refine gl 25 Tryd.func77 #[.slice Ao16 x5_1.length co16, .slice Ao17 x6_1.length co17, .int .i64 0] ?_; (with_reducible refine (bC.calls k1 _ _ x5_1 _ _ x6_1 0 t376 _ ?side1 ?side2 ?side3 ?side4 A13.out).mono ?_); (case side1 => repeat (first | exact (Kd.aU HO_5.out).2.2 | (with_reducible refine Kd.fq ?_ _) | (with_reducible refine Kd.C_drewN ?_ _) | (with_reducible refine Kd.C_drew ?_))); (case side2 => exact (Kd.aU HO_5.out).2.1); (case side3 => repeat (first | exact (Kd.aU HO_6.out).2.2 | (with_reducible refine Kd.fq ?_ _) | (with_reducible refine Kd.C_drewN ?_ _) | (with_reducible refine Kd.C_drew ?_))); (case side4 => exact (Kd.aU HO_6.out).2.1); rintro e w18 ⟨v377, rfl, ho0, hb⟩; refine ⟨_, rfl, ?_⟩; have n_ := an5 (Kd.dD (bR HO_5.out) (Kd.ed ho0) hb) (Kd.dD (bR HO_6.out) (Kd.ed ho0) hb) (Kd.dD (bR HO_7.out) (Kd.ed ho0) hb) (Kd.bU (Kd.eH (Kd.eH (Kd.eH ho0 (Kd.il (bR HO_5.out))) (Kd.il (bR HO_6.out))) (Kd.il (bR HO_7.out))) (aK bl)) (aj bl hb); clear HO_5 HO_6 HO_7 HB; obtain ⟨HO_5, HO_6, HO_7, HO378, HB⟩ := n_; (try clear hb); (try clear ho0)) | ((with_reducible refine ah (f := 77) rfl ?_); refine gl 28 Tryd.func77 #[.slice Ao17 x6_1.length co17, .slice Ao17 x6_1.length co17, .int .i64 0] ?_; (with_reducible refine (bC.calls k1 _ _ x6_1 _ _ x6_1 0 t379 _ ?side1 ?side2 ?side3 ?side4 A14.out).mono ?_); (case side1 => repeat (first | exact (Kd.aU HO_6.out).2.2 | (with_reducible refine Kd.fq ?_ _) | (with_reducible refine Kd.C_drewN ?_ _) | (with_reducible refine Kd.C_drew ?_))); (case side2 => exact (Kd.aU HO_6.out).2.1); (case side3 => repeat (first | exact (Kd.aU HO_6.out).2.2 | (with_reducible refine Kd.fq ?_ _) | (with_reducible refine Kd.C_drewN ?_ _) | (with_reducible refine Kd.C_drew ?_))); (case side4 => exact (Kd.aU HO_6.out).2.1); rintro e w19 ⟨v380, rfl, ho0, hb⟩; refine ⟨_, rfl, ?_⟩; have n_ := an6 (Kd.dD (bR HO_5.out) (Kd.ed ho0) hb) (Kd.dD (bR HO_6.out) (Kd.ed ho0) hb) (Kd.dD (bR HO_7.out) (Kd.ed ho0) hb) (Kd.dD (bR HO378.out) (Kd.ed ho0) hb) (Kd.bU (Kd.eH (Kd.eH (Kd.eH (Kd.eH ho0 (Kd.il (bR HO_5.out))) (Kd.il (bR HO_6.out))) (Kd.il (bR HO_7.out))) (Kd.il (bR HO378.out))) (aK bl)) (aj bl hb); clear HO_5 HO_6 HO_7 HO378 HB; obtain ⟨HO_5, HO_6, HO_7, HO378, HO381, HB⟩ := n_; (try clear hb); (try clear ho0)))
     go_roundg k1
     case measure => have := HK1.out; omega
     case rel => exact ⟨(t376), (t379), (wrap64 (x8_1 + 1)), pr, H', ⟨by have := HK1.out; omega⟩, ⟨by (with_reducible repeat (first | apply Kd.bQ | apply Kd.bS | apply Kd.bX)); exact Kd.dB HO378.out (fun _ hk => ⟨hk.2, hk.1.2⟩)⟩, ⟨by (with_reducible repeat (first | apply Kd.bQ | apply Kd.bS | apply Kd.bX)); exact Kd.dB HO381.out (fun _ hk => ⟨hk.2, hk.1.2⟩)⟩, ⟨by (with_reducible repeat (first | apply Kd.bQ | apply Kd.bS | apply Kd.bX)); exact Kd.dB HO_7.out (fun _ hk => ⟨hk.1.2, hk.2⟩)⟩, ⟨bl⟩⟩
    ·rw [if_neg c12] at H; obtain ⟨c12b0, c12b1⟩ := eqf c12; replace H := ob H; obtain ⟨t382, A20, H⟩ := H; have H' := aa.mk H; clear H; obtain ⟨Ao21, co21, eo21⟩ := Kd.dh HO_7.out; subst eo21
     have p375 : 0 ≤ (x8_1 : Int) := Zc pa
     have q375 : x8_1 < (t371.length : Int) := Zc pa
     obtain ⟨ad375, e375, hx375_0⟩ := Kd.dG (Kd.aU HO_7.out).2.2 x8_1 p375 q375
     cases e375
     replace p375 := eq_true p375; replace q375 := eq_true q375; obtain ⟨Ao22, co22, eo22⟩ := Kd.dh HO_6.out; subst eo22
     go_wp2_with (first | ((with_reducible refine ah (f := 77) rfl ?_); refine gl 28 Tryd.func77 #[.slice Ao22 x6_1.length co22, .slice Ao22 x6_1.length co22, .int .i64 0] ?_; (with_reducible refine (bC.calls k1 _ _ x6_1 _ _ x6_1 0 t382 _ ?side1 ?side2 ?side3 ?side4 A20.out).mono ?_); (case side1 => repeat (first | exact (Kd.aU HO_6.out).2.2 | (with_reducible refine Kd.fq ?_ _) | (with_reducible refine Kd.C_drewN ?_ _) | (with_reducible refine Kd.C_drew ?_))); (case side2 => exact (Kd.aU HO_6.out).2.1); (case side3 => repeat (first | exact (Kd.aU HO_6.out).2.2 | (with_reducible refine Kd.fq ?_ _) | (with_reducible refine Kd.C_drewN ?_ _) | (with_reducible refine Kd.C_drew ?_))); (case side4 => exact (Kd.aU HO_6.out).2.1); rintro e w23 ⟨v383, rfl, ho0, hb⟩; refine ⟨_, rfl, ?_⟩; have n_ := an5 (Kd.dD (bR HO_5.out) (Kd.ed ho0) hb) (Kd.dD (bR HO_6.out) (Kd.ed ho0) hb) (Kd.dD (bR HO_7.out) (Kd.ed ho0) hb) (Kd.bU (Kd.eH (Kd.eH (Kd.eH ho0 (Kd.il (bR HO_5.out))) (Kd.il (bR HO_6.out))) (Kd.il (bR HO_7.out))) (aK bl)) (aj bl hb); clear HO_5 HO_6 HO_7 HB; obtain ⟨HO_5, HO_6, HO_7, HO384, HB⟩ := n_; (try clear hb); (try clear ho0)))
     go_roundg k1
     case measure => have := HK1.out; omega
     case rel => exact ⟨(x5_1), (t382), (wrap64 (x8_1 + 1)), pr, H', ⟨by have := HK1.out; omega⟩, ⟨by (with_reducible repeat (first | apply Kd.bQ | apply Kd.bS | apply Kd.bX)); exact Kd.dB HO_5.out (fun _ hk => ⟨hk.2, hk.1.2⟩)⟩, ⟨by (with_reducible repeat (first | apply Kd.bQ | apply Kd.bS | apply Kd.bX)); exact Kd.dB HO384.out (fun _ hk => ⟨hk.1.1.2, hk.2⟩)⟩, ⟨by (with_reducible repeat (first | apply Kd.bQ | apply Kd.bS | apply Kd.bX)); exact Kd.dB HO_7.out (fun _ hk => ⟨hk.1.1, hk.2⟩)⟩, ⟨bl⟩⟩
   ·rw [if_neg c9] at H; have c9b0 := Zb c9; clear c9; replace H := ob H; obtain ⟨t374, A24, H⟩ := H; obtain rfl := Zg H; obtain ⟨Ao25, co25, eo25⟩ := Kd.dh HO_5.out; subst eo25
    go_wp2_with (first | ((with_reducible refine ah (f := 76) rfl ?_); refine gl 30 Tryd.func76 #[.slice Ao25 x5_1.length co25] ?_; (with_reducible refine (bE.calls k1 _ _ x5_1 t374 _ ?side1 ?side2 A24.out).mono ?_); (case side1 => repeat (first | exact (Kd.aU HO_5.out).2.2 | (with_reducible refine Kd.fq ?_ _) | (with_reducible refine Kd.C_drewN ?_ _) | (with_reducible refine Kd.C_drew ?_))); (case side2 => exact (Kd.aU HO_5.out).2.1); rintro e w' ⟨rfl, ⟨nd, rfl⟩⟩; refine ⟨_, rfl, ?_⟩))
    go_ret; exact ⟨pe, bl⟩
def aQ.l0 : Nat → Int → Int → Int → Int → Int → Option (Int × Int)
 | 0, _, _, _, _, _ => none
 | k + 1, x0, x1, x6, x7, x8 => if x8 ≥ 0 then (if 0 ≤ (IntKind.u64.wrap (x8)) then (if x7 ≥ 9223372036854775808 then (aQ.l0 k x0 x1 (IntKind.u64.wrap ((IntKind.u64.wrap (x6 * 2)) + 1)) (IntKind.u64.wrap ((IntKind.u64.wrap ((IntKind.u64.wrap (x7 * 2)) + (Int.tmod (shr .u64 x0 (IntKind.u64.wrap (x8))) 2))) - x1)) (wrap64 (x8 - 1))) else (if (IntKind.u64.wrap ((IntKind.u64.wrap (x7 * 2)) + (Int.tmod (shr .u64 x0 (IntKind.u64.wrap (x8))) 2))) ≥ x1 then (aQ.l0 k x0 x1 (IntKind.u64.wrap ((IntKind.u64.wrap (x6 * 2)) + 1)) (IntKind.u64.wrap ((IntKind.u64.wrap ((IntKind.u64.wrap (x7 * 2)) + (Int.tmod (shr .u64 x0 (IntKind.u64.wrap (x8))) 2))) - x1)) (wrap64 (x8 - 1))) else (aQ.l0 k x0 x1 (IntKind.u64.wrap (x6 * 2)) (IntKind.u64.wrap ((IntKind.u64.wrap (x7 * 2)) + (Int.tmod (shr .u64 x0 (IntKind.u64.wrap (x8))) 2))) (wrap64 (x8 - 1))))) else (none)) else (some (x6, x7))
def aQ.f (k : Nat) (a0 : Int) (a1 : Int) : Option (Int × Int) := aQ.l0 k a0 a1 0 0 63
theorem aQ.calls (k : Nat) (a0 : Int) (a1 : Int) (r1 : Int) (r2 : Int) (w : World) (h : aQ.f k a0 a1 = some (r1, r2)) :
  Calls Tryd.prog 80 #[.int .u64 a0, .int .u64 a1] w fun e w' => e = .returned (.tuple #[.int .u64 r1, .int .u64 r2]) ∧ aG w w' := by
 have H : (aQ.l0 k a0 a1 0 0 63) = some (r1, r2) := h; clear h; have H' := aa.mk H; clear H; go_enter Tryd.func80, Tryd.ntmps80; go_wp2
 go_loopg [6, 7, 8] k (fun kq v6 v7 v8 w' => ∃ (x6_1 : Int) (x7_1 : Int) (x8_1 : Int), v6 = .int .u64 x6_1 ∧ v7 = .int .u64 x7_1 ∧ v8 = .int .i64 x8_1 ∧ aa (aQ.l0 kq a0 a1 x6_1 x7_1 x8_1 = some (r1, r2)) ∧ aa (kq ≤ k) ∧ aG w w')
 case atStart => exact ⟨(0), (0), (63), pr, pr, pr, H', ⟨Zd _⟩, by repeat (first | exact aG.refl _ | apply aG.step)⟩
 case round =>
  clear H'; obtain ⟨x6_1, x7_1, x8_1, rfl, rfl, rfl, HA, HK1, ⟨m1, rfl⟩⟩ := hrel
  cases gk with
  | zero => exact absurd HA.out (by simp [aQ.l0])
  | succ k1 =>
   have H := HA.out; clear HA; simp only [aQ.l0] at H
   by_cases c3 : x8_1 ≥ 0
   ·rw [if_pos c3] at H; have c3b0 : decide (0 ≤ x8_1) = true := Za c3; clear c3; obtain ⟨ji4, hji4⟩ : ∃ j_ : Int, (IntKind.u64.wrap (x8_1)) = j_ := ⟨_, rfl⟩; replace H : (if 0 ≤ (ji4) then (if x7_1 ≥ 9223372036854775808 then (aQ.l0 k1 a0 a1 (IntKind.u64.wrap ((IntKind.u64.wrap (x6_1 * 2)) + 1)) (IntKind.u64.wrap ((IntKind.u64.wrap ((IntKind.u64.wrap (x7_1 * 2)) + (Int.tmod (shr .u64 a0 (ji4)) 2))) - a1)) (wrap64 (x8_1 - 1))) else (if (IntKind.u64.wrap ((IntKind.u64.wrap (x7_1 * 2)) + (Int.tmod (shr .u64 a0 (ji4)) 2))) ≥ a1 then (aQ.l0 k1 a0 a1 (IntKind.u64.wrap ((IntKind.u64.wrap (x6_1 * 2)) + 1)) (IntKind.u64.wrap ((IntKind.u64.wrap ((IntKind.u64.wrap (x7_1 * 2)) + (Int.tmod (shr .u64 a0 (ji4)) 2))) - a1)) (wrap64 (x8_1 - 1))) else (aQ.l0 k1 a0 a1 (IntKind.u64.wrap (x6_1 * 2)) (IntKind.u64.wrap ((IntKind.u64.wrap (x7_1 * 2)) + (Int.tmod (shr .u64 a0 (ji4)) 2))) (wrap64 (x8_1 - 1))))) else (none)) = some (r1, r2) := by first | (rw [hji4] at H; exact H) | (simp only [hji4] at H ⊢; exact H)
    replace H := it (c := 0 ≤ (ji4)) H; obtain ⟨c5, H⟩ := H; have c5b0 := eq_true c5; have c5b1 := Za c5; clear c5; obtain ⟨ji6, hji6⟩ : ∃ j_ : Int, (shr .u64 a0 (ji4)) = j_ := ⟨_, rfl⟩; replace H : (if x7_1 ≥ 9223372036854775808 then (aQ.l0 k1 a0 a1 (IntKind.u64.wrap ((IntKind.u64.wrap (x6_1 * 2)) + 1)) (IntKind.u64.wrap ((IntKind.u64.wrap ((IntKind.u64.wrap (x7_1 * 2)) + (Int.tmod (ji6) 2))) - a1)) (wrap64 (x8_1 - 1))) else (if (IntKind.u64.wrap ((IntKind.u64.wrap (x7_1 * 2)) + (Int.tmod (ji6) 2))) ≥ a1 then (aQ.l0 k1 a0 a1 (IntKind.u64.wrap ((IntKind.u64.wrap (x6_1 * 2)) + 1)) (IntKind.u64.wrap ((IntKind.u64.wrap ((IntKind.u64.wrap (x7_1 * 2)) + (Int.tmod (ji6) 2))) - a1)) (wrap64 (x8_1 - 1))) else (aQ.l0 k1 a0 a1 (IntKind.u64.wrap (x6_1 * 2)) (IntKind.u64.wrap ((IntKind.u64.wrap (x7_1 * 2)) + (Int.tmod (ji6) 2))) (wrap64 (x8_1 - 1))))) = some (r1, r2) := by first | (rw [hji6] at H; exact H) | (simp only [hji6] at H ⊢; exact H)
    have hji6_ : (a0 / 2 ^ min (ji4).toNat 64) = ji6 := hji6; have hji6z : (ji4) ≤ 64 → (a0 / 2 ^ (ji4).toNat) = ji6 := pK hji6
    by_cases c7 : x7_1 ≥ 9223372036854775808
    ·rw [if_pos c7] at H; have c7b0 : decide (9223372036854775808 ≤ x7_1) = true := Za c7; clear c7; have H' := aa.mk H; clear H; go_wp2
     go_roundg k1
     case measure => have := HK1.out; omega
     case rel => exact ⟨(IntKind.u64.wrap ((IntKind.u64.wrap (x6_1 * 2)) + 1)), (IntKind.u64.wrap ((IntKind.u64.wrap ((IntKind.u64.wrap (x7_1 * 2)) + (Int.tmod (ji6) 2))) - a1)), (wrap64 (x8_1 - 1)), pr, (by first | rfl | (simp; done) | (simp only [← hji6] <;> (first | rfl | simp)) | (simp [*]; done)), pr, H', ⟨by have := HK1.out; omega⟩, by repeat (first | exact aG.refl _ | apply aG.step)⟩
    ·rw [if_neg c7] at H; have c7b0 : decide (9223372036854775808 ≤ x7_1) = false := Zb c7; clear c7
     by_cases c8 : (IntKind.u64.wrap ((IntKind.u64.wrap (x7_1 * 2)) + (Int.tmod (ji6) 2))) ≥ a1
     ·rw [if_pos c8] at H; have c8b0 : decide (a1 ≤ (IntKind.u64.wrap ((IntKind.u64.wrap (x7_1 * 2)) + (Int.tmod (ji6) 2)))) = true := Za c8; clear c8; have H' := aa.mk H; clear H; go_wp2
      go_roundg k1
      case measure => have := HK1.out; omega
      case rel => exact ⟨(IntKind.u64.wrap ((IntKind.u64.wrap (x6_1 * 2)) + 1)), (IntKind.u64.wrap ((IntKind.u64.wrap ((IntKind.u64.wrap (x7_1 * 2)) + (Int.tmod (ji6) 2))) - a1)), (wrap64 (x8_1 - 1)), pr, (by first | rfl | (simp; done) | (simp only [← hji6] <;> (first | rfl | simp)) | (simp [*]; done)), pr, H', ⟨by have := HK1.out; omega⟩, by repeat (first | exact aG.refl _ | apply aG.step)⟩
     ·rw [if_neg c8] at H; have c8b0 : decide (a1 ≤ (IntKind.u64.wrap ((IntKind.u64.wrap (x7_1 * 2)) + (Int.tmod (ji6) 2)))) = false := Zb c8; clear c8; have H' := aa.mk H; clear H; go_wp2
      go_roundg k1
      case measure => have := HK1.out; omega
      case rel => exact ⟨(IntKind.u64.wrap (x6_1 * 2)), (IntKind.u64.wrap ((IntKind.u64.wrap (x7_1 * 2)) + (Int.tmod (ji6) 2))), (wrap64 (x8_1 - 1)), pr, (by first | rfl | (simp; done) | (simp only [← hji6] <;> (first | rfl | simp)) | (simp [*]; done)), pr, H', ⟨by have := HK1.out; omega⟩, by repeat (first | exact aG.refl _ | apply aG.step)⟩
   ·rw [if_neg c3] at H; have c3b0 : decide (0 ≤ x8_1) = false := Zb c3; clear c3; simp only [Zl, Zm] at H; obtain ⟨rfl, rfl⟩ := H; go_wp2; go_ret2; exact ⟨by first | rfl | (simp; done) | (simp [*]; done), by repeat (first | exact aG.refl _ | apply aG.step)⟩
def dw.f (k : Nat) (a0 : Int) (a1 : Int) : Option (Int × Int) := if a1 = 0 then (some (0, 11)) else ((bT.f k a0).bind fun t385 => ((bT.f k a1).bind fun t386 => ((aQ.f k t385 t386).bind fun bt387 => (if ((decide (a0 < 0)) != (decide (a1 < 0))) = true then ((dz.f k (wrap64 (bt387.1))).bind fun t389 => (some (t389, 0))) else (some (wrap64 (bt387.1), 0))))))
theorem dw.calls (k : Nat) (a0 : Int) (a1 : Int) (r1 : Int) (r2 : Int) (w : World) (h : dw.f k a0 a1 = some (r1, r2)) :
  Calls Tryd.prog 67 #[.int .i64 a0, .int .i64 a1] w fun e w' => e = .returned (.tuple #[.int .i64 r1, .int .i64 r2]) ∧ Below w.heap.size w w' := by
 have HB := aa.mk (Below.refl w.heap.size w); have H : (if a1 = 0 then (some (0, 11)) else ((bT.f k a0).bind fun t385 => ((bT.f k a1).bind fun t386 => ((aQ.f k t385 t386).bind fun bt387 => (if ((decide (a0 < 0)) != (decide (a1 < 0))) = true then ((dz.f k (wrap64 (bt387.1))).bind fun t389 => (some (t389, 0))) else (some (wrap64 (bt387.1), 0))))))) = some (r1, r2) := h; clear h
 by_cases c3 : a1 = 0
 ·rw [if_pos c3] at H; obtain ⟨c3b0, c3b1⟩ := eqs c3; clear c3; simp only [Zl, Zm] at H; obtain ⟨rfl, rfl⟩ := H; go_enter Tryd.func67, Tryd.ntmps67; go_wp2; go_ret2; exact ⟨pe, bl⟩
 ·rw [if_neg c3] at H; obtain ⟨c3b0, c3b1⟩ := eqf c3; replace H := ob H; obtain ⟨t385, A4, H⟩ := H; replace H := ob H; obtain ⟨t386, A5, H⟩ := H; replace H := ob H; obtain ⟨⟨t387, t388⟩, A6, H⟩ := H
  by_cases c7 : ((decide (a0 < 0)) != (decide (a1 < 0))) = true
  ·rw [if_pos c7] at H; have c7b0 : ((decide (a0 < 0)) != (decide (a1 < 0))) = true := c7; (try (have c7b1 : decide ((decide (a0 < 0)) = (decide (a1 < 0))) = false := by simpa using c7)); (try (have c7b2 : ((decide (a0 < 0)) == (decide (a1 < 0))) = false := by simpa using c7)); (try (have c7b3 : ¬ ((decide (a0 < 0)) = (decide (a1 < 0))) := by simpa using c7)); clear c7; replace H := ob H; obtain ⟨t389, A8, H⟩ := H; simp only [Zl, Zm] at H; obtain ⟨rfl, rfl⟩ := H; go_enter Tryd.func67, Tryd.ntmps67
   go_wp2_with (first | ((with_reducible refine ah (f := 81) rfl ?_); refine gl 12 Tryd.func81 #[.int .i64 a0] ?_; (with_reducible refine (bT.calls k a0 t385 _ A4.out).mono ?_); rintro e w9 ⟨rfl, hb⟩; refine ⟨_, rfl, ?_⟩; have n0_ := aa.mk (aj bl hb); clear HB; have HB := n0_; clear n0_; (try clear hb)) | ((with_reducible refine ah (f := 81) rfl ?_); refine gl 14 Tryd.func81 #[.int .i64 a1] ?_; (with_reducible refine (bT.calls k a1 t386 _ A5.out).mono ?_); rintro e w10 ⟨rfl, hb⟩; refine ⟨_, rfl, ?_⟩; have n0_ := aa.mk (aj bl hb); clear HB; have HB := n0_; clear n0_; (try clear hb)) | ((with_reducible refine ah (f := 80) rfl ?_); refine gl 15 Tryd.func80 #[.int .u64 t385, .int .u64 t386] ?_; (with_reducible refine (aQ.calls k t385 t386 t387 t388 _ A6.out).mono ?_); rintro e w' ⟨rfl, ⟨nd, rfl⟩⟩; refine ⟨_, rfl, ?_⟩) | ((with_reducible refine ah (f := 70) rfl ?_); refine gl 25 Tryd.func70 #[.int .i64 (wrap64 (t387))] ?_; (with_reducible refine (dz.calls k (wrap64 (t387)) t389 _ A8.out).mono ?_); rintro e w11 ⟨rfl, hb⟩; refine ⟨_, rfl, ?_⟩; have n0_ := aa.mk (aj bl hb); clear HB; have HB := n0_; clear n0_; (try clear hb)))
   go_ret2; exact ⟨pe, bl⟩
  ·rw [if_neg c7] at H; have c7b0 : ((decide (a0 < 0)) != (decide (a1 < 0))) = false := by simpa using c7
   (try (have c7b1 : decide ((decide (a0 < 0)) = (decide (a1 < 0))) = true := by simpa using c7)); (try (have c7b2 : ((decide (a0 < 0)) == (decide (a1 < 0))) = true := by simpa using c7)); clear c7; simp only [Zl, Zm] at H; obtain ⟨rfl, rfl⟩ := H; go_enter Tryd.func67, Tryd.ntmps67
   go_wp2_with (first | ((with_reducible refine ah (f := 81) rfl ?_); refine gl 12 Tryd.func81 #[.int .i64 a0] ?_; (with_reducible refine (bT.calls k a0 t385 _ A4.out).mono ?_); rintro e w12 ⟨rfl, hb⟩; refine ⟨_, rfl, ?_⟩; have n0_ := aa.mk (aj bl hb); clear HB; have HB := n0_; clear n0_; (try clear hb)) | ((with_reducible refine ah (f := 81) rfl ?_); refine gl 14 Tryd.func81 #[.int .i64 a1] ?_; (with_reducible refine (bT.calls k a1 t386 _ A5.out).mono ?_); rintro e w13 ⟨rfl, hb⟩; refine ⟨_, rfl, ?_⟩; have n0_ := aa.mk (aj bl hb); clear HB; have HB := n0_; clear n0_; (try clear hb)) | ((with_reducible refine ah (f := 80) rfl ?_); refine gl 15 Tryd.func80 #[.int .u64 t385, .int .u64 t386] ?_; (with_reducible refine (aQ.calls k t385 t386 t387 t388 _ A6.out).mono ?_); rintro e w' ⟨rfl, ⟨nd, rfl⟩⟩; refine ⟨_, rfl, ?_⟩))
   go_ret2; exact ⟨pe, bl⟩
def eP.f (k : Nat) (a0 : Int) (a1 : Int) : Option (Int × Int) := (dw.f k a0 a1).bind fun bt390 => (if bt390.2 = 0 then ((bM.f k bt390.1 a1).bind fun t392 => ((dA.f k a0 t392).bind fun t393 => (some (t393, 0)))) else (some (0, bt390.2)))
theorem eP.calls (k : Nat) (a0 : Int) (a1 : Int) (r1 : Int) (r2 : Int) (w : World) (h : eP.f k a0 a1 = some (r1, r2)) :
  Calls Tryd.prog 68 #[.int .i64 a0, .int .i64 a1] w fun e w' => e = .returned (.tuple #[.int .i64 r1, .int .i64 r2]) ∧ Below w.heap.size w w' := by
 have HB := aa.mk (Below.refl w.heap.size w); have H : ((dw.f k a0 a1).bind fun bt390 => (if bt390.2 = 0 then ((bM.f k bt390.1 a1).bind fun t392 => ((dA.f k a0 t392).bind fun t393 => (some (t393, 0)))) else (some (0, bt390.2)))) = some (r1, r2) := h; clear h; replace H := ob H; obtain ⟨⟨t390, t391⟩, A3, H⟩ := H
 by_cases c4 : t391 = 0
 ·rw [if_pos c4] at H; obtain ⟨c4b0, c4b1⟩ := eqs c4; clear c4; replace H := ob H; obtain ⟨t392, A5, H⟩ := H; replace H := ob H; obtain ⟨t393, A6, H⟩ := H; simp only [Zl, Zm] at H; obtain ⟨rfl, rfl⟩ := H; go_enter Tryd.func68, Tryd.ntmps68
  go_wp2_with (first | ((with_reducible refine ah (f := 67) rfl ?_); refine gl 11 Tryd.func67 #[.int .i64 a0, .int .i64 a1] ?_; (with_reducible refine (dw.calls k a0 a1 t390 t391 _ A3.out).mono ?_); rintro e w7 ⟨rfl, hb⟩; refine ⟨_, rfl, ?_⟩; have n0_ := aa.mk (aj bl hb); clear HB; have HB := n0_; clear n0_; (try clear hb)) | ((with_reducible refine ah (f := 66) rfl ?_); refine gl 20 Tryd.func66 #[.int .i64 t390, .int .i64 a1] ?_; (with_reducible refine (bM.calls k t390 a1 t392 _ A5.out).mono ?_); rintro e w8 ⟨rfl, hb⟩; refine ⟨_, rfl, ?_⟩; have n0_ := aa.mk (aj bl hb); clear HB; have HB := n0_; clear n0_; (try clear hb)) | ((with_reducible refine ah (f := 65) rfl ?_); refine gl 21 Tryd.func65 #[.int .i64 a0, .int .i64 t392] ?_; (with_reducible refine (dA.calls k a0 t392 t393 _ A6.out).mono ?_); rintro e w9 ⟨rfl, hb⟩; refine ⟨_, rfl, ?_⟩; have n0_ := aa.mk (aj bl hb); clear HB; have HB := n0_; clear n0_; (try clear hb)))
  go_ret2; exact ⟨pe, bl⟩
 ·rw [if_neg c4] at H; obtain ⟨c4b0, c4b1⟩ := eqf c4; simp only [Zl, Zm] at H; obtain ⟨rfl, rfl⟩ := H; go_enter Tryd.func68, Tryd.ntmps68
  go_wp2_with (first | ((with_reducible refine ah (f := 67) rfl ?_); refine gl 11 Tryd.func67 #[.int .i64 a0, .int .i64 a1] ?_; (with_reducible refine (dw.calls k a0 a1 t390 t391 _ A3.out).mono ?_); rintro e w10 ⟨rfl, hb⟩; refine ⟨_, rfl, ?_⟩; have n0_ := aa.mk (aj bl hb); clear HB; have HB := n0_; clear n0_; (try clear hb)))
  go_ret2; exact ⟨pe, bl⟩
def df.f (a0 : Bool) : Option (Int) := if a0 = true then (some 1) else (some 0)
theorem df.calls (a0 : Bool) (r : Int) (w : World) (h : df.f a0 = some r) :
  Calls Tryd.prog 69 #[.bool a0] w fun e w' => e = .returned (.int .i64 r) ∧ aG w w' := by
 have H : (if a0 = true then (some 1) else (some 0)) = some r := h; clear h
 by_cases c2 : a0 = true
 ·subst c2; rw [if_pos rfl] at H; obtain rfl := Zg H; go_enter Tryd.func69, Tryd.ntmps69; go_wp2; go_ret; exact ⟨by first | rfl | (simp; done) | (simp [*]; done), by repeat (first | exact aG.refl _ | apply aG.step)⟩
 ·replace c2 := Zj c2; subst c2; rw [if_neg (show ¬ (false = true) by decide)] at H; obtain rfl := Zg H; go_enter Tryd.func69, Tryd.ntmps69; go_wp2; go_ret; exact ⟨by first | rfl | (simp; done) | (simp [*]; done), by repeat (first | exact aG.refl _ | apply aG.step)⟩
end Go.Proofs.YthckiolgpgplpaaDoor.YD
