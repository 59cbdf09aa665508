import Derived.Test.YthckiolgpgplpaaDoorPx6
namespace Go.Proofs.YthckiolgpgplpaaDoor.YD
set_option maxHeartbeats 8000000
set_option maxRecDepth 100000
open Go.RowKit YC YA YB
attribute [local go_sem] eF eD fD fE dS dU eG eO
set_option linter.unusedVariables false
set_option linter.unusedSimpArgs false
mutual
def aJ.j0 : Nat → List (S46) → Bool → Option (Bool)
 | 0, _, _ => none
 | k + 1, x0, x40 => if x40 = true then (some false) else (aJ.l0 k x0 (x0.length : Int) 0)
def aJ.l0 : Nat → List (S46) → Int → Int → Option (Bool)
 | 0, _, _, _ => none
 | k + 1, x0, x42, x43 => if x43 < x42 then ((bK.f k x0 x43).bind fun bt173 => (if bt173.2 = true then (aJ.l0 k x0 x42 (wrap64 (x43 + 1))) else (some false))) else (some true)
end
def aJ.f (k : Nat) (l0 : List (S46)) (a1 : Int) : Option (Bool) := if (l0.length : Int) < 1 then (aJ.j0 k l0 true) else (if (l0.length : Int) > 40 then (aJ.j0 k l0 true) else (if a1 < 0 then (aJ.j0 k l0 true) else (if a1 ≥ (l0.length : Int) then (aJ.j0 k l0 true) else (if 0 ≤ a1 then (if a1 < (l0.length : Int) then (if ((au l0 a1).f2) = 0 then (aJ.j0 k l0 ((au l0 a1).f3)) else (aJ.j0 k l0 true)) else (none)) else (none)))))
theorem aJ.fP : ∀ k, (∀ y0 y1, LeO (aJ.j0 k y0 y1) (aJ.j0 (k + 1) y0 y1)) ∧ (∀ y0 y1 y2, LeO (aJ.l0 k y0 y1 y2) (aJ.l0 (k + 1) y0 y1 y2))
 | 0 => ⟨fun _ _ r h => by simp [aJ.j0] at h, fun _ _ _ r h => by simp [aJ.l0] at h⟩
 | k + 1 => by
  obtain ⟨ih0, ih1⟩ := aJ.fP k
  refine ⟨?_, ?_⟩
  ·intro y0 y1
   unfold aJ.j0
   repeat' (with_reducible first | apply ih0 | apply ih1 | apply bK.mono | exact LeO.refl _ | exact LeO.none _ | refine LeO.ite ?_ ?_ | refine LeO.bind ?_ (fun _ => ?_))
  ·intro y0 y1 y2
   unfold aJ.l0
   repeat' (with_reducible first | apply ih0 | apply ih1 | apply bK.mono | exact LeO.refl _ | exact LeO.none _ | refine LeO.ite ?_ ?_ | refine LeO.bind ?_ (fun _ => ?_))
theorem aJ.mono : ∀ a0 a1 k, LeO (aJ.f k a0 a1) (aJ.f (k + 1) a0 a1) := by
 intro a0 a1 k
 obtain ⟨ih0, ih1⟩ := aJ.fP k
 unfold aJ.f
 repeat' (with_reducible first | apply ih0 | apply ih1 | apply bK.mono | exact LeO.refl _ | exact LeO.none _ | refine LeO.ite ?_ ?_ | refine LeO.bind ?_ (fun _ => ?_))
theorem aJ.calls (k : Nat) (A0 : Option Addr) (c0 : Nat) (l0 : List (S46)) (a1 : Int) (r : Bool) (w : World) (hr0 : Kd.C k46 w A0 l0.length l0) (hc0 : l0.length ≤ c0) (hLd : Laid w) (h : aJ.f k l0 a1 = some r) :
  Calls Tryd.prog 32 #[.slice A0 l0.length c0, .int .i64 a1] w fun e w' => e = .returned (.bool r) ∧ Below w.heap.size w w' := by
 have HR0 := aa.mk hr0; have HC0 := aa.mk hc0; clear hr0 hc0; have HLd := aa.mk hLd; clear hLd; have HB := aa.mk (Below.refl w.heap.size w); have H : (if (l0.length : Int) < 1 then (aJ.j0 k l0 true) else (if (l0.length : Int) > 40 then (aJ.j0 k l0 true) else (if a1 < 0 then (aJ.j0 k l0 true) else (if a1 ≥ (l0.length : Int) then (aJ.j0 k l0 true) else (if 0 ≤ a1 then (if a1 < (l0.length : Int) then (if ((au l0 a1).f2) = 0 then (aJ.j0 k l0 ((au l0 a1).f3)) else (aJ.j0 k l0 true)) else (none)) else (none)))))) = some r := h; clear h; have HC3 := aa.mk H; clear H; go_enter Tryd.func32, Tryd.ntmps32
 go_upto_region 1 with (fail)
 go_cut [40] (fun v40 wc => ∃ (kq : Nat) (x40_2 : Bool), v40 = .bool x40_2 ∧ aa (aJ.j0 kq l0 x40_2 = some r) ∧ aa (kq ≤ k) ∧ aa (Below w.heap.size w wc))
 case first =>
  have H := HC3.out; clear HC3
  by_cases c4 : (l0.length : Int) < 1
  ·rw [if_pos c4] at H; have c4b0 := Za c4; have c4b1 : decide (l0.length < 1) = true := Za (by omega); clear c4; (first | rw [c4b0] | (simp only [dI, dK]; rw [c4b0]) | skip); have H' := aa.mk H; clear H; go_wp2; go_meet
   case rel => exact ⟨_, (true), pr, H', ⟨by first | omega | exact Zd _⟩, ⟨bl⟩⟩
  ·rw [if_neg c4] at H; have c4b0 := Zb c4; have c4b1 : decide (l0.length < 1) = false := Zb (by omega); clear c4; (first | rw [c4b0] | (simp only [dI, dK]; rw [c4b0]) | skip)
   by_cases c5 : (l0.length : Int) > 40
   ·rw [if_pos c5] at H; have c5b0 : decide (40 < (l0.length : Int)) = true := Za c5; have c5b1 : decide (40 < l0.length) = true := Za (by omega); clear c5; have H' := aa.mk H; clear H; go_wp2; go_meet
    case rel => exact ⟨_, (true), pr, H', ⟨by first | omega | exact Zd _⟩, ⟨bl⟩⟩
   ·rw [if_neg c5] at H; have c5b0 : decide (40 < (l0.length : Int)) = false := Zb c5; have c5b1 : decide (40 < l0.length) = false := Zb (by omega); clear c5
    by_cases c6 : a1 < 0
    ·rw [if_pos c6] at H; have c6b0 := Za c6; clear c6; have H' := aa.mk H; clear H; go_wp2; go_meet
     case rel => exact ⟨_, (true), pr, H', ⟨by first | omega | exact Zd _⟩, ⟨bl⟩⟩
    ·rw [if_neg c6] at H; have c6b0 := Zb c6; clear c6
     by_cases c7 : a1 ≥ (l0.length : Int)
     ·rw [if_pos c7] at H; have c7b0 : decide ((l0.length : Int) ≤ a1) = true := Za c7; clear c7; have H' := aa.mk H; clear H; go_wp2; go_meet
      case rel => exact ⟨_, (true), pr, H', ⟨by first | omega | exact Zd _⟩, ⟨bl⟩⟩
     ·rw [if_neg c7] at H; have c7b0 : decide ((l0.length : Int) ≤ a1) = false := Zb c7; clear c7
      replace H := it (c := 0 ≤ a1) H; obtain ⟨c8, H⟩ := H; have c8b0 := Za c8; clear c8
      replace H := it (c := a1 < (l0.length : Int)) H; obtain ⟨c9, H⟩ := H; have c9b0 := Za c9; clear c9; have HH_ := aa.mk H; clear H
      have p171 : 0 ≤ (a1 : Int) := Zc pa
      have q171 : a1 < (l0.length : Int) := Zc pa
      obtain ⟨ad171, A171_0, c171_0, e171, hx171_0, hx171_1, hx171_2, hx171_3, hl171_0, hi171_0⟩ := eZ HR0.out a1 p171 q171
      cases e171
      replace hx171_0 := pc HB.out hx171_0; replace hx171_1 := pc HB.out hx171_1; replace hx171_2 := pc HB.out hx171_2; replace hx171_3 := pc HB.out hx171_3; have HR171_0 := aa.mk hi171_0; have HC171_0 := aa.mk hl171_0; clear hi171_0 hl171_0; replace p171 := eq_true p171; replace q171 := eq_true q171; have H := HH_.out; clear HH_
      by_cases c10 : ((au l0 a1).f2) = 0
      ·rw [if_pos c10] at H; obtain ⟨c10b0, c10b1⟩ := eqs c10; clear c10; have H' := aa.mk H; clear H
       have p172 : 0 ≤ (a1 : Int) := Zc pa
       have q172 : a1 < (l0.length : Int) := Zc pa
       obtain ⟨ad172, A172_0, c172_0, e172, hx172_0, hx172_1, hx172_2, hx172_3, hl172_0, hi172_0⟩ := eZ HR0.out a1 p172 q172; obtain rfl : ad171 = ad172 := (by injection e172); replace hx172_0 := pc HB.out hx172_0; replace hx172_1 := pc HB.out hx172_1; replace hx172_2 := pc HB.out hx172_2; replace hx172_3 := pc HB.out hx172_3; have HR172_0 := aa.mk hi172_0; have HC172_0 := aa.mk hl172_0; clear hi172_0 hl172_0; replace p172 := eq_true p172; replace q172 := eq_true q172; have ea_ := Zg (hx171_0.symm.trans hx172_0)
       injection ea_ with ea_ en_ ec_
       subst ea_; subst ec_; clear en_; go_wp2; go_meet
       case rel => exact ⟨_, ((au l0 a1).f3), pr, H', ⟨by first | omega | exact Zd _⟩, ⟨bl⟩⟩
      ·rw [if_neg c10] at H; obtain ⟨c10b0, c10b1⟩ := eqf c10; have H' := aa.mk H; clear H; go_wp2; go_meet
       case rel => exact ⟨_, (true), pr, H', ⟨by first | omega | exact Zd _⟩, ⟨bl⟩⟩
 case rest =>
  clear HC3; obtain ⟨kq, x40_2, rfl, HA, HJ2, HB⟩ := hcut
  cases kq with
  | zero => exact absurd HA.out (by simp [aJ.j0])
  | succ kj2 =>
   have H := HA.out; clear HA; simp only [aJ.j0] at H
   by_cases c11 : x40_2 = true
   ·subst c11; rw [if_pos rfl] at H; obtain rfl := Zg H; go_wp2; go_ret; exact ⟨pe, bl⟩
   ·replace c11 := Zj c11; subst c11; rw [if_neg (show ¬ (false = true) by decide)] at H; have H' := aa.mk H; clear H; go_wp2
    go_loopg [43] kj2 (fun kq v43 w' => ∃ (x43_2 : Int), v43 = .int .i64 x43_2 ∧ aa (aJ.l0 kq l0 (l0.length : Int) x43_2 = some r) ∧ aa (kq ≤ kj2) ∧ aa (Below w.heap.size w w'))
    case atStart => exact ⟨(0), pr, H', ⟨Zd _⟩, ⟨bl⟩⟩
    case round =>
     clear H'; obtain ⟨x43_2, rfl, HA, HK2, HB⟩ := hrel
     cases gk with
     | zero => exact absurd HA.out (by simp [aJ.l0])
     | succ k2 =>
      have H := HA.out; clear HA; simp only [aJ.l0] at H
      by_cases c12 : x43_2 < (l0.length : Int)
      ·rw [if_pos c12] at H; have c12b0 := Za c12; clear c12; replace H := ob H; obtain ⟨⟨t173, t174⟩, A13, H⟩ := H
       by_cases c14 : t174 = true
       ·subst c14; rw [if_pos rfl] at H; have H' := aa.mk H; clear H
        go_wp2_with (first | ((with_reducible refine ah (f := 49) rfl ?_); refine gl 49 Tryd.func49 #[.slice A0 l0.length c0, .int .i64 x43_2] ?_; (with_reducible refine (bK.calls k2 _ _ l0 x43_2 t173 true _ ?side1 ?side2 ?side3 A13.out).mono ?_); (case side1 => exact cb HR0.out); (case side2 => exact HC0.out); (case side3 => exact Laid.below HLd.out bl); rintro e w15 ⟨v175, rfl, ho0, hb⟩; refine ⟨_, rfl, ?_⟩; have n_ := an2 (Kd.bU ho0 (aK bl)) (aj bl hb); clear HB; obtain ⟨HO176, HB⟩ := n_; (try clear hb); (try clear ho0)))
        go_roundg k2
        case measure => have := HJ2.out; have := HK2.out; omega
        case rel => exact ⟨(wrap64 (x43_2 + 1)), pr, H', ⟨by have := HJ2.out; have := HK2.out; omega⟩, ⟨bl⟩⟩
       ·replace c14 := Zj c14; subst c14; rw [if_neg (show ¬ (false = true) by decide)] at H; obtain rfl := Zg H
        go_wp2_with (first | ((with_reducible refine ah (f := 49) rfl ?_); refine gl 49 Tryd.func49 #[.slice A0 l0.length c0, .int .i64 x43_2] ?_; (with_reducible refine (bK.calls k2 _ _ l0 x43_2 t173 false _ ?side1 ?side2 ?side3 A13.out).mono ?_); (case side1 => exact cb HR0.out); (case side2 => exact HC0.out); (case side3 => exact Laid.below HLd.out bl); rintro e w16 ⟨v175, rfl, ho0, hb⟩; refine ⟨_, rfl, ?_⟩; have n_ := an2 (Kd.bU ho0 (aK bl)) (aj bl hb); clear HB; obtain ⟨HO176, HB⟩ := n_; (try clear hb); (try clear ho0)))
        go_ret; exact ⟨pe, bl⟩
      ·rw [if_neg c12] at H; have c12b0 := Zb c12; clear c12; obtain rfl := Zg H; go_wp2; go_ret; exact ⟨pe, bl⟩
def gK.f (a0_0 : Int) (a0_1 : Int) (a0_2 : Int) (a1 : Int) : Option (Int × Int) := if a1 < 0 then (some (0, 2)) else (if a1 ≥ a0_2 then (some (0, 2)) else (some (wrap64 (a0_1 + a1), 0)))
theorem gK.calls (a0_0 : Int) (a0_1 : Int) (a0_2 : Int) (a1 : Int) (r1 : Int) (r2 : Int) (w : World) (h : gK.f a0_0 a0_1 a0_2 a1 = some (r1, r2)) :
  Calls Tryd.prog 50 #[.agg #[.int .i64 a0_0, .int .i64 a0_1, .int .i64 a0_2], .int .i64 a1] w fun e w' => e = .returned (.tuple #[.int .i64 r1, .int .i64 r2]) ∧ Below w.heap.size w w' := by
 have hu43 := Tryd.underlying43; have HB := aa.mk (Below.refl w.heap.size w); have H : (if a1 < 0 then (some (0, 2)) else (if a1 ≥ a0_2 then (some (0, 2)) else (some (wrap64 (a0_1 + a1), 0)))) = some (r1, r2) := h; clear h; have HH_ := aa.mk H; clear H; go_enter Tryd.func50, Tryd.ntmps50
 go_wp2_with (first | ((with_reducible refine aY (N := 2) rfl ?_); refine bx 2 #[.int .i64 a0_0, .int .i64 a0_1, .int .i64 a0_2] 43 ?_; intro gb178 hg w4 hbox hb; have n_ := an4 (aj bl hb) (hbox) (bg hg) (bg hg); clear HB; obtain ⟨HB, BK178, GW178, GE178⟩ := n_; clear hb hbox hg; refine ?roundEnd))
 case roundEnd =>
  have H := HH_.out; clear HH_
  by_cases c3 : a1 < 0
  ·rw [if_pos c3] at H; have c3b0 := Za c3; clear c3; simp only [Zl, Zm] at H; obtain ⟨rfl, rfl⟩ := H; go_wp2; go_ret2; exact ⟨pe, bl⟩
  ·rw [if_neg c3] at H; have c3b0 := Zb c3; clear c3; have HH_ := aa.mk H; clear H; obtain ⟨hcz7_0, hcz7_1, hcz7_2, hfz7_0, hfz7_1, hfz7_2⟩ := bc3 BK178.out; refine ?roundEnd; go_wp2
   case roundEnd =>
    have H := HH_.out; clear HH_
    by_cases c5 : a1 ≥ a0_2
    ·rw [if_pos c5] at H; have c5b0 : decide (a0_2 ≤ a1) = true := Za c5; clear c5; simp only [Zl, Zm] at H; obtain ⟨rfl, rfl⟩ := H; go_wp2; go_ret2; exact ⟨pe, bl⟩
    ·rw [if_neg c5] at H; have c5b0 : decide (a0_2 ≤ a1) = false := Zb c5; clear c5; simp only [Zl, Zm] at H; obtain ⟨rfl, rfl⟩ := H; go_wp2; go_ret2; exact ⟨pe, bl⟩
def ic.f (a0 : Bool) : Option (Int) := if a0 = true then (some 1) else (some 0)
theorem ic.calls (a0 : Bool) (r : Int) (w : World) (h : ic.f a0 = some r) :
  Calls Tryd.prog 51 #[.bool a0] w fun e w' => e = .returned (.int .i64 r) ∧ aG w w' := by
 have H : (if a0 = true then (some 1) else (some 0)) = some r := h; clear h
 by_cases c2 : a0 = true
 ·subst c2; rw [if_pos rfl] at H; obtain rfl := Zg H; go_enter Tryd.func51, Tryd.ntmps51; go_wp2; go_ret; exact ⟨by first | rfl | (simp; done) | (simp [*]; done), by repeat (first | exact aG.refl _ | apply aG.step)⟩
 ·replace c2 := Zj c2; subst c2; rw [if_neg (show ¬ (false = true) by decide)] at H; obtain rfl := Zg H; go_enter Tryd.func51, Tryd.ntmps51; go_wp2; go_ret; exact ⟨by first | rfl | (simp; done) | (simp [*]; done), by repeat (first | exact aG.refl _ | apply aG.step)⟩
def ql.f (a0 : Int) : Option (Int) := some (wrap64 (-a0))
theorem ql.calls (a0 : Int) (r : Int) (w : World) (h : ql.f a0 = some r) :
  Calls Tryd.prog 52 #[.int .i64 a0] w fun e w' => e = .returned (.int .i64 r) ∧ aG w w' := by
 have H : (some (wrap64 (-a0))) = some r := h; clear h; obtain rfl := Zg H; go_enter Tryd.func52, Tryd.ntmps52; go_wp2; go_ret; exact ⟨by first | rfl | (simp; done) | (simp [*]; done), by repeat (first | exact aG.refl _ | apply aG.step)⟩
def lY.f (a0 : Int) (a1 : Int) : Option (Int) := some (wrap64 (a0 + a1))
theorem lY.calls (a0 : Int) (a1 : Int) (r : Int) (w : World) (h : lY.f a0 a1 = some r) :
  Calls Tryd.prog 59 #[.int .i64 a0, .int .i64 a1] w fun e w' => e = .returned (.int .i64 r) ∧ aG w w' := by
 have H : (some (wrap64 (a0 + a1))) = some r := h; clear h; obtain rfl := Zg H; go_enter Tryd.func59, Tryd.ntmps59; go_wp2; go_ret; exact ⟨by first | rfl | (simp; done) | (simp [*]; done), by repeat (first | exact aG.refl _ | apply aG.step)⟩
def mf.f (a0 : Int) (a1 : Int) : Option (Int) := some (wrap64 (a0 - a1))
theorem mf.calls (a0 : Int) (a1 : Int) (r : Int) (w : World) (h : mf.f a0 a1 = some r) :
  Calls Tryd.prog 60 #[.int .i64 a0, .int .i64 a1] w fun e w' => e = .returned (.int .i64 r) ∧ aG w w' := by
 have H : (some (wrap64 (a0 - a1))) = some r := h; clear h; obtain rfl := Zg H; go_enter Tryd.func60, Tryd.ntmps60; go_wp2; go_ret; exact ⟨by first | rfl | (simp; done) | (simp [*]; done), by repeat (first | exact aG.refl _ | apply aG.step)⟩
def lU.f (a0 : Int) (a1 : Int) : Option (Int) := some (wrap64 (a0 * a1))
theorem lU.calls (a0 : Int) (a1 : Int) (r : Int) (w : World) (h : lU.f a0 a1 = some r) :
  Calls Tryd.prog 61 #[.int .i64 a0, .int .i64 a1] w fun e w' => e = .returned (.int .i64 r) ∧ aG w w' := by
 have H : (some (wrap64 (a0 * a1))) = some r := h; clear h; obtain rfl := Zg H; go_enter Tryd.func61, Tryd.ntmps61; go_wp2; go_ret; exact ⟨by first | rfl | (simp; done) | (simp [*]; done), by repeat (first | exact aG.refl _ | apply aG.step)⟩
def kL.f (a0 : Int) (a1 : Int) : Option (Int × Int) := if a1 = 0 then (some (0, 11)) else (some (wrap64 (Int.tdiv a0 a1), 0))
theorem kL.calls (a0 : Int) (a1 : Int) (r1 : Int) (r2 : Int) (w : World) (h : kL.f a0 a1 = some (r1, r2)) :
  Calls Tryd.prog 62 #[.int .i64 a0, .int .i64 a1] w fun e w' => e = .returned (.tuple #[.int .i64 r1, .int .i64 r2]) ∧ aG w w' := by
 have H : (if a1 = 0 then (some (0, 11)) else (some (wrap64 (Int.tdiv a0 a1), 0))) = some (r1, r2) := h; clear h
 by_cases c3 : a1 = 0
 ·rw [if_pos c3] at H; obtain ⟨c3b0, c3b1⟩ := eqs c3; clear c3; simp only [Zl, Zm] at H; obtain ⟨rfl, rfl⟩ := H; go_enter Tryd.func62, Tryd.ntmps62; go_wp2; go_ret2; exact ⟨by first | rfl | (simp; done) | (simp [*]; done), by repeat (first | exact aG.refl _ | apply aG.step)⟩
 ·rw [if_neg c3] at H; obtain ⟨c3b0, c3b1⟩ := eqf c3; simp only [Zl, Zm] at H; obtain ⟨rfl, rfl⟩ := H; go_enter Tryd.func62, Tryd.ntmps62; go_wp2; go_ret2; exact ⟨by first | rfl | (simp; done) | (simp [*]; done), by repeat (first | exact aG.refl _ | apply aG.step)⟩
def lL.f (a0 : Int) (a1 : Int) : Option (Int × Int) := if a1 = 0 then (some (0, 11)) else (some (Int.tmod a0 a1, 0))
theorem lL.calls (a0 : Int) (a1 : Int) (r1 : Int) (r2 : Int) (w : World) (h : lL.f a0 a1 = some (r1, r2)) :
  Calls Tryd.prog 63 #[.int .i64 a0, .int .i64 a1] w fun e w' => e = .returned (.tuple #[.int .i64 r1, .int .i64 r2]) ∧ aG w w' := by
 have H : (if a1 = 0 then (some (0, 11)) else (some (Int.tmod a0 a1, 0))) = some (r1, r2) := h; clear h
 by_cases c3 : a1 = 0
 ·rw [if_pos c3] at H; obtain ⟨c3b0, c3b1⟩ := eqs c3; clear c3; simp only [Zl, Zm] at H; obtain ⟨rfl, rfl⟩ := H; go_enter Tryd.func63, Tryd.ntmps63; go_wp2; go_ret2; exact ⟨by first | rfl | (simp; done) | (simp [*]; done), by repeat (first | exact aG.refl _ | apply aG.step)⟩
 ·rw [if_neg c3] at H; obtain ⟨c3b0, c3b1⟩ := eqf c3; simp only [Zl, Zm] at H; obtain ⟨rfl, rfl⟩ := H; go_enter Tryd.func63, Tryd.ntmps63; go_wp2; go_ret2; exact ⟨by first | rfl | (simp; done) | (simp [*]; done), by repeat (first | exact aG.refl _ | apply aG.step)⟩
def gW.j0 : Nat → Int → Int → Int → Int → Bool → Option (Int × Int)
 | 0, _, _, _, _, _ => none
 | k + 1, x0, x1, x2, x10, x26 => if x26 = true then (if x2 = 0 then (some (0, 1)) else ((kL.f x1 x2).bind fun bt182 => (if x0 = 11 then ((lL.f x1 x2).bind fun bt184 => (some (bt184.1, 0))) else (some (bt182.1, 0))))) else (if x10 = 12 then ((ic.f (decide (x1 < x2))).bind fun t186 => (some (t186, 0))) else (if x10 = 13 then ((ic.f (decide (x1 ≤ x2))).bind fun t187 => (some (t187, 0))) else ((ic.f (x1 == x2)).bind fun t188 => (some (t188, 0)))))
def gW.f (k : Nat) (a0 : Int) (a1 : Int) (a2 : Int) : Option (Int × Int) := if a0 = 7 then ((lY.f a1 a2).bind fun t179 => (some (t179, 0))) else (if a0 = 8 then ((mf.f a1 a2).bind fun t180 => (some (t180, 0))) else (if a0 = 9 then ((lU.f a1 a2).bind fun t181 => (some (t181, 0))) else (if a0 = 10 then (gW.j0 k a0 a1 a2 a0 (a0 == 10)) else (gW.j0 k a0 a1 a2 a0 (a0 == 11)))))
theorem gW.calls (k : Nat) (a0 : Int) (a1 : Int) (a2 : Int) (r1 : Int) (r2 : Int) (w : World) (h : gW.f k a0 a1 a2 = some (r1, r2)) :
  Calls Tryd.prog 53 #[.int .i64 a0, .int .i64 a1, .int .i64 a2] w fun e w' => e = .returned (.tuple #[.int .i64 r1, .int .i64 r2]) ∧ aG w w' := by
 have H : (if a0 = 7 then ((lY.f a1 a2).bind fun t179 => (some (t179, 0))) else (if a0 = 8 then ((mf.f a1 a2).bind fun t180 => (some (t180, 0))) else (if a0 = 9 then ((lU.f a1 a2).bind fun t181 => (some (t181, 0))) else (if a0 = 10 then (gW.j0 k a0 a1 a2 a0 (a0 == 10)) else (gW.j0 k a0 a1 a2 a0 (a0 == 11)))))) = some (r1, r2) := h; clear h
 by_cases c4 : a0 = 7
 ·rw [if_pos c4] at H; obtain ⟨c4b0, c4b1⟩ := eqs c4; clear c4; replace H := ob H; obtain ⟨t179, A5, H⟩ := H; simp only [Zl, Zm] at H; obtain ⟨rfl, rfl⟩ := H; go_enter Tryd.func53, Tryd.ntmps53
  go_wp2_with (first | ((with_reducible refine ah (f := 59) rfl ?_); refine gl 15 Tryd.func59 #[.int .i64 a1, .int .i64 a2] ?_; (with_reducible refine (lY.calls a1 a2 t179 _ A5.out).mono ?_); rintro e w' ⟨rfl, ⟨nd, rfl⟩⟩; refine ⟨_, rfl, ?_⟩))
  go_ret2; exact ⟨by first | rfl | (simp; done) | (simp [*]; done), by repeat (first | exact aG.refl _ | apply aG.step)⟩
 ·rw [if_neg c4] at H; obtain ⟨c4b0, c4b1⟩ := eqf c4
  by_cases c6 : a0 = 8
  ·rw [if_pos c6] at H; obtain ⟨c6b0, c6b1⟩ := eqs c6; clear c6; replace H := ob H; obtain ⟨t180, A7, H⟩ := H; simp only [Zl, Zm] at H; obtain ⟨rfl, rfl⟩ := H; go_enter Tryd.func53, Tryd.ntmps53
   go_wp2_with (first | ((with_reducible refine ah (f := 60) rfl ?_); refine gl 20 Tryd.func60 #[.int .i64 a1, .int .i64 a2] ?_; (with_reducible refine (mf.calls a1 a2 t180 _ A7.out).mono ?_); rintro e w' ⟨rfl, ⟨nd, rfl⟩⟩; refine ⟨_, rfl, ?_⟩))
   go_ret2; exact ⟨by first | rfl | (simp; done) | (simp [*]; done), by repeat (first | exact aG.refl _ | apply aG.step)⟩
  ·rw [if_neg c6] at H; obtain ⟨c6b0, c6b1⟩ := eqf c6
   by_cases c8 : a0 = 9
   ·rw [if_pos c8] at H; obtain ⟨c8b0, c8b1⟩ := eqs c8; clear c8; replace H := ob H; obtain ⟨t181, A9, H⟩ := H; simp only [Zl, Zm] at H; obtain ⟨rfl, rfl⟩ := H; go_enter Tryd.func53, Tryd.ntmps53
    go_wp2_with (first | ((with_reducible refine ah (f := 61) rfl ?_); refine gl 25 Tryd.func61 #[.int .i64 a1, .int .i64 a2] ?_; (with_reducible refine (lU.calls a1 a2 t181 _ A9.out).mono ?_); rintro e w' ⟨rfl, ⟨nd, rfl⟩⟩; refine ⟨_, rfl, ?_⟩))
    go_ret2; exact ⟨by first | rfl | (simp; done) | (simp [*]; done), by repeat (first | exact aG.refl _ | apply aG.step)⟩
   ·rw [if_neg c8] at H; obtain ⟨c8b0, c8b1⟩ := eqf c8; have HC10 := aa.mk H; clear H; go_enter Tryd.func53, Tryd.ntmps53
    go_upto_if 26 with (fail)
    go_cut [26] (fun v26 wc => ∃ (kq : Nat) (x26_9 : Bool), v26 = .bool x26_9 ∧ aa (gW.j0 kq a0 a1 a2 a0 x26_9 = some (r1, r2)) ∧ aa (kq ≤ k) ∧ aG w wc)
    case first =>
     have H := HC10.out; clear HC10
     by_cases c11 : a0 = 10
     ·rw [if_pos c11] at H; obtain ⟨c11b0, c11b1⟩ := eqs c11; clear c11; (first | rw [c11b0] | (simp only [dI, dK]; rw [c11b0]) | skip); have H' := aa.mk H; clear H; go_wp2; go_meet
      case rel => exact ⟨_, ((a0 == 10)), pr, H', ⟨by first | omega | exact Zd _⟩, by repeat (first | exact aG.refl _ | apply aG.step)⟩
     ·rw [if_neg c11] at H; obtain ⟨c11b0, c11b1⟩ := eqf c11; (first | rw [c11b0] | (simp only [dI, dK]; rw [c11b0]) | skip); have H' := aa.mk H; clear H; go_wp2; go_meet
      case rel => exact ⟨_, ((a0 == 11)), pr, H', ⟨by first | omega | exact Zd _⟩, by repeat (first | exact aG.refl _ | apply aG.step)⟩
    case rest =>
     clear HC10; (try clear c4); (try clear c4b0); (try clear c4b1); (try clear c6); (try clear c6b0); (try clear c6b1); (try clear c8); (try clear c8b0); (try clear c8b1); obtain ⟨kq, x26_9, rfl, HA, HJ9, ⟨mc9, rfl⟩⟩ := hcut
     cases kq with
     | zero => exact absurd HA.out (by simp [gW.j0])
     | succ kj9 =>
      have H := HA.out; clear HA; simp only [gW.j0] at H
      by_cases c12 : x26_9 = true
      ·subst c12; rw [if_pos rfl] at H
       by_cases c13 : a2 = 0
       ·rw [if_pos c13] at H; obtain ⟨c13b0, c13b1⟩ := eqs c13; clear c13; simp only [Zl, Zm] at H; obtain ⟨rfl, rfl⟩ := H; go_wp2; go_ret2; exact ⟨by first | rfl | (simp; done) | (simp [*]; done), by repeat (first | exact aG.refl _ | apply aG.step)⟩
       ·rw [if_neg c13] at H; obtain ⟨c13b0, c13b1⟩ := eqf c13; replace H := ob H; obtain ⟨⟨t182, t183⟩, A14, H⟩ := H; have HH_ := aa.mk H; clear H
        go_wp2_with (first | ((with_reducible refine ah (f := 62) rfl ?_); refine gl 34 Tryd.func62 #[.int .i64 a1, .int .i64 a2] ?_; (with_reducible refine (kL.calls a1 a2 t182 t183 _ A14.out).mono ?_); rintro e w' ⟨rfl, ⟨nd, rfl⟩⟩; refine ⟨_, rfl, ?_⟩; refine ?roundEnd))
        case roundEnd =>
         have H := HH_.out; clear HH_
         by_cases c15 : a0 = 11
         ·rw [if_pos c15] at H; obtain ⟨c15b0, c15b1⟩ := eqs c15; clear c15; replace H := ob H; obtain ⟨⟨t184, t185⟩, A16, H⟩ := H; simp only [Zl, Zm] at H; obtain ⟨rfl, rfl⟩ := H
          go_wp2_with (first | ((with_reducible refine ah (f := 63) rfl ?_); refine gl 42 Tryd.func63 #[.int .i64 a1, .int .i64 a2] ?_; (with_reducible refine (lL.calls a1 a2 t184 t185 _ A16.out).mono ?_); rintro e w' ⟨rfl, ⟨nd, rfl⟩⟩; refine ⟨_, rfl, ?_⟩))
          go_ret2; exact ⟨by first | rfl | (simp; done) | (simp [*]; done), by repeat (first | exact aG.refl _ | apply aG.step)⟩
         ·rw [if_neg c15] at H; obtain ⟨c15b0, c15b1⟩ := eqf c15; simp only [Zl, Zm] at H; obtain ⟨rfl, rfl⟩ := H; go_wp2; go_ret2; exact ⟨by first | rfl | (simp; done) | (simp [*]; done), by repeat (first | exact aG.refl _ | apply aG.step)⟩
      ·replace c12 := Zj c12; subst c12; rw [if_neg (show ¬ (false = true) by decide)] at H
       by_cases c17 : a0 = 12
       ·rw [if_pos c17] at H; obtain ⟨c17b0, c17b1⟩ := eqs c17; clear c17; replace H := ob H; obtain ⟨t186, A18, H⟩ := H; simp only [Zl, Zm] at H; obtain ⟨rfl, rfl⟩ := H
        go_wp2_with (first | ((with_reducible refine ah (f := 51) rfl ?_); refine gl 51 Tryd.func51 #[.bool (decide (a1 < a2))] ?_; (with_reducible refine (ic.calls (decide (a1 < a2)) t186 _ A18.out).mono ?_); rintro e w' ⟨rfl, ⟨nd, rfl⟩⟩; refine ⟨_, rfl, ?_⟩))
        go_ret2; exact ⟨by first | rfl | (simp; done) | (simp [*]; done), by repeat (first | exact aG.refl _ | apply aG.step)⟩
       ·rw [if_neg c17] at H; obtain ⟨c17b0, c17b1⟩ := eqf c17
        by_cases c19 : a0 = 13
        ·rw [if_pos c19] at H; obtain ⟨c19b0, c19b1⟩ := eqs c19; clear c19; replace H := ob H; obtain ⟨t187, A20, H⟩ := H; simp only [Zl, Zm] at H; obtain ⟨rfl, rfl⟩ := H
         go_wp2_with (first | ((with_reducible refine ah (f := 51) rfl ?_); refine gl 57 Tryd.func51 #[.bool (decide (a1 ≤ a2))] ?_; (with_reducible refine (ic.calls (decide (a1 ≤ a2)) t187 _ A20.out).mono ?_); rintro e w' ⟨rfl, ⟨nd, rfl⟩⟩; refine ⟨_, rfl, ?_⟩))
         go_ret2; exact ⟨by first | rfl | (simp; done) | (simp [*]; done), by repeat (first | exact aG.refl _ | apply aG.step)⟩
        ·rw [if_neg c19] at H; obtain ⟨c19b0, c19b1⟩ := eqf c19; replace H := ob H; obtain ⟨t188, A21, H⟩ := H; simp only [Zl, Zm] at H; obtain ⟨rfl, rfl⟩ := H
         go_wp2_with (first | ((with_reducible refine ah (f := 51) rfl ?_); refine gl 61 Tryd.func51 #[.bool (a1 == a2)] ?_; (with_reducible refine (ic.calls (a1 == a2) t188 _ A21.out).mono ?_); rintro e w' ⟨rfl, ⟨nd, rfl⟩⟩; refine ⟨_, rfl, ?_⟩))
         go_ret2; exact ⟨by first | rfl | (simp; done) | (simp [*]; done), by repeat (first | exact aG.refl _ | apply aG.step)⟩
def parallaxref01_Among.f (a0 : Int) (a1 : Int) : Option (Int) := if a1 < 1 then (some 0) else (if a1 = 0 then (none) else (if (Int.tmod a0 a1) < 0 then (some (wrap64 ((Int.tmod a0 a1) + a1))) else (some (Int.tmod a0 a1))))
def dx.f (a0 : Int) : Option (Int) := if a0 > 200 then (if a0 ≤ 1048576 then (some 200) else (some a0)) else (some a0)
theorem dx.calls (a0 : Int) (r : Int) (w : World) (h : dx.f a0 = some r) :
  Calls Tryd.prog 13 #[.int .i64 a0] w fun e w' => e = .returned (.int .i64 r) ∧ aG w w' := by
 have H : (if a0 > 200 then (if a0 ≤ 1048576 then (some 200) else (some a0)) else (some a0)) = some r := h; clear h
 by_cases c2 : a0 > 200
 ·rw [if_pos c2] at H; have c2b0 : decide (200 < a0) = true := Za c2; clear c2
  by_cases c3 : a0 ≤ 1048576
  ·rw [if_pos c3] at H; have c3b0 := Za c3; clear c3; obtain rfl := Zg H; go_enter Tryd.func13, Tryd.ntmps13; go_wp2; go_ret; exact ⟨by first | rfl | (simp; done) | (simp [*]; done), by repeat (first | exact aG.refl _ | apply aG.step)⟩
  ·rw [if_neg c3] at H; have c3b0 := Zb c3; clear c3; obtain rfl := Zg H; go_enter Tryd.func13, Tryd.ntmps13; go_wp2; go_ret; exact ⟨by first | rfl | (simp; done) | (simp [*]; done), by repeat (first | exact aG.refl _ | apply aG.step)⟩
 ·rw [if_neg c2] at H; have c2b0 : decide (200 < a0) = false := Zb c2; clear c2; obtain rfl := Zg H; go_enter Tryd.func13, Tryd.ntmps13; go_wp2; go_ret; exact ⟨by first | rfl | (simp; done) | (simp [*]; done), by repeat (first | exact aG.refl _ | apply aG.step)⟩
end Go.Proofs.YthckiolgpgplpaaDoor.YD
