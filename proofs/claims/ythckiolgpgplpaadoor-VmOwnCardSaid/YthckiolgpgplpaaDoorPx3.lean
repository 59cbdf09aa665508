import Derived.Test.YthckiolgpgplpaaDoorPx2
namespace Go.Proofs.YthckiolgpgplpaaDoor.YD
set_option maxHeartbeats 8000000
set_option maxRecDepth 100000
open Go.RowKit YC YA YB
attribute [local go_sem] eF eD fD fE dS dU eG eO
set_option linter.unusedVariables false
set_option linter.unusedSimpArgs false
mutual
def ay.j0 : Nat → Int → Bool → List (S46) → List (S43) → Int → Int → Bool → Int → Int → Int → Option (Bool)
 | 0, _, _, _, _, _, _, _, _, _, _ => none
 | k + 1, x15, x16, x113000, x113001, x113002, x113003, x113004, x114000, x114001, x114002 => if x16 = true then ((cK.f x113000 x114001 1 x113001 x113002 x113003 x113004).bind fun t116 => (some t116)) else (if x15 = 4 then (ay.j1 k x15 (x15 == 4) x113000 x113001 x113002 x113003 x113004 x114000 x114001 x114002) else (if x15 = 5 then (ay.j1 k x15 (x15 == 5) x113000 x113001 x113002 x113003 x113004 x114000 x114001 x114002) else (ay.j1 k x15 (x15 == 6) x113000 x113001 x113002 x113003 x113004 x114000 x114001 x114002)))
def ay.j1 : Nat → Int → Bool → List (S46) → List (S43) → Int → Int → Bool → Int → Int → Int → Option (Bool)
 | 0, _, _, _, _, _, _, _, _, _, _ => none
 | k + 1, x15, x23, x113000, x113001, x113002, x113003, x113004, x114000, x114001, x114002 => if x23 = true then (if x114002 ≤ 64 then ((cK.f x113000 x114001 x114002 x113001 x113002 x113003 x113004).bind fun t117 => (some t117)) else (some false)) else (if x15 = 17 then (ay.j2 k x15 (x15 == 17) x113000 x113001 x113002 x113003 x113004 x114000 x114001 x114002) else (ay.j2 k x15 (x15 == 18) x113000 x113001 x113002 x113003 x113004 x114000 x114001 x114002))
def ay.j2 : Nat → Int → Bool → List (S46) → List (S43) → Int → Int → Bool → Int → Int → Int → Option (Bool)
 | 0, _, _, _, _, _, _, _, _, _, _ => none
 | k + 1, x15, x38, x113000, x113001, x113002, x113003, x113004, x114000, x114001, x114002 => if x38 = true then (if x114001 ≥ 0 then (some (decide (x114001 < (x113001.length : Int)))) else (some false)) else (if x15 = 19 then (if x114001 ≥ 0 then (if x114001 < (x113000.length : Int) then (if x114002 ≥ 0 then (if x114002 ≤ 8 then (if 0 ≤ x114001 then (some (x114002 == ((au x113000 x114001).f2))) else (none)) else (some false)) else (some false)) else (some false)) else (some false)) else (if x15 = 20 then (if x114001 = 0 then (if x113004 = true then (if x114001 = 1 then (some x113004) else (some false)) else (some true)) else (if x114001 = 1 then (some x113004) else (some false))) else (if x15 = 24 then (if x114001 ≥ 0 then (if x114002 ≥ 1 then (some (decide (x114002 ≤ 3))) else (some false)) else (some false)) else (some true))))
end
def ay.f (k : Nat) (l0 : List (S46)) (a1_0 : Int) (a1_1 : Int) (a1_2 : Int) (l2_0 : List (S43)) (a2_1 : Int) (a2_2 : Int) (a2_3 : Bool) : Option (Bool) := (dJ.f k a1_0 a1_1 a1_2).bind fun bt114 => (if bt114.2 = 0 then (if a1_0 = 2 then (ay.j0 k a1_0 (a1_0 == 2) l0 l2_0 a2_1 a2_2 a2_3 a1_0 a1_1 a1_2) else (ay.j0 k a1_0 (a1_0 == 3) l0 l2_0 a2_1 a2_2 a2_3 a1_0 a1_1 a1_2)) else (some false))
theorem ay.fP : ∀ k, (∀ y0 y1 y2 y3 y4 y5 y6 y7 y8 y9, LeO (ay.j0 k y0 y1 y2 y3 y4 y5 y6 y7 y8 y9) (ay.j0 (k + 1) y0 y1 y2 y3 y4 y5 y6 y7 y8 y9)) ∧ (∀ y0 y1 y2 y3 y4 y5 y6 y7 y8 y9, LeO (ay.j1 k y0 y1 y2 y3 y4 y5 y6 y7 y8 y9) (ay.j1 (k + 1) y0 y1 y2 y3 y4 y5 y6 y7 y8 y9)) ∧ (∀ y0 y1 y2 y3 y4 y5 y6 y7 y8 y9, LeO (ay.j2 k y0 y1 y2 y3 y4 y5 y6 y7 y8 y9) (ay.j2 (k + 1) y0 y1 y2 y3 y4 y5 y6 y7 y8 y9))
 | 0 => ⟨fun _ _ _ _ _ _ _ _ _ _ r h => by simp [ay.j0] at h, fun _ _ _ _ _ _ _ _ _ _ r h => by simp [ay.j1] at h, fun _ _ _ _ _ _ _ _ _ _ r h => by simp [ay.j2] at h⟩
 | k + 1 => by
  obtain ⟨ih0, ih1, ih2⟩ := ay.fP k
  refine ⟨?_, ?_, ?_⟩
  ·intro y0 y1 y2 y3 y4 y5 y6 y7 y8 y9
   unfold ay.j0
   repeat' (with_reducible first | apply ih0 | apply ih1 | apply ih2 | apply dJ.mono | exact LeO.refl _ | exact LeO.none _ | refine LeO.ite ?_ ?_ | refine LeO.bind ?_ (fun _ => ?_))
  ·intro y0 y1 y2 y3 y4 y5 y6 y7 y8 y9
   unfold ay.j1
   repeat' (with_reducible first | apply ih0 | apply ih1 | apply ih2 | apply dJ.mono | exact LeO.refl _ | exact LeO.none _ | refine LeO.ite ?_ ?_ | refine LeO.bind ?_ (fun _ => ?_))
  ·intro y0 y1 y2 y3 y4 y5 y6 y7 y8 y9
   unfold ay.j2
   repeat' (with_reducible first | apply ih0 | apply ih1 | apply ih2 | apply dJ.mono | exact LeO.refl _ | exact LeO.none _ | refine LeO.ite ?_ ?_ | refine LeO.bind ?_ (fun _ => ?_))
theorem ay.mono : ∀ a0 a1 a2 a3 a4 a5 a6 a7 k, LeO (ay.f k a0 a1 a2 a3 a4 a5 a6 a7) (ay.f (k + 1) a0 a1 a2 a3 a4 a5 a6 a7) := by
 intro a0 a1 a2 a3 a4 a5 a6 a7 k
 obtain ⟨ih0, ih1, ih2⟩ := ay.fP k
 unfold ay.f
 repeat' (with_reducible first | apply ih0 | apply ih1 | apply ih2 | apply dJ.mono | exact LeO.refl _ | exact LeO.none _ | refine LeO.ite ?_ ?_ | refine LeO.bind ?_ (fun _ => ?_))
theorem ay.sJ (gb112 : Nat) (k : Nat) (A0 : Option Addr) (c0 : Nat) (l0 : List (S46)) (a1_0 : Int) (a1_1 : Int) (a1_2 : Int) (A2_0 : Option Addr) (c2_0 : Nat) (l2_0 : List (S43)) (a2_1 : Int) (a2_2 : Int) (a2_3 : Bool) (r : Bool) (w w7 : World) (hr0 : Kd.C k46 w A0 l0.length l0) (hc0 : l0.length ≤ c0) (hr2_0 : Kd.C k43 w A2_0 l2_0.length l2_0) (hc2_0 : l2_0.length ≤ c2_0) (hLd : Laid w) (hbox : w7.heap[gb112]? = some (.cells #[.slice A0 l0.length c0, .slice A2_0 l2_0.length c2_0, .int .i64 a2_1, .int .i64 a2_2, .bool a2_3, .slice none 0 0] 101 (0, 0))) (hw3 : w7 = w) (h : ay.f k l0 a1_0 a1_1 a1_2 l2_0 a2_1 a2_2 a2_3 = some r) :
  Calls Tryd.prog 74 #[.pointer (some ⟨gb112, 0, none⟩), .agg #[.int .i64 a1_0, .int .i64 a1_1, .int .i64 a1_2]] w7 fun e w' => e = .returned (.bool r) ∧ Below w.heap.size w w' := by
 have hu101 := Tryd.underlying101; have hu43 := Tryd.underlying43; have hu46 := Tryd.underlying46; have HR0 := aa.mk hr0; have HC0 := aa.mk hc0; clear hr0 hc0; have HR2_0 := aa.mk hr2_0; have HC2_0 := aa.mk hc2_0; clear hr2_0 hc2_0; have HLd := aa.mk hLd; clear hLd; have HB := aa.mk (Below.refl w.heap.size w); have H : ((dJ.f k a1_0 a1_1 a1_2).bind fun bt114 => (if bt114.2 = 0 then (if a1_0 = 2 then (ay.j0 k a1_0 (a1_0 == 2) l0 l2_0 a2_1 a2_2 a2_3 a1_0 a1_1 a1_2) else (ay.j0 k a1_0 (a1_0 == 3) l0 l2_0 a2_1 a2_2 a2_3 a1_0 a1_1 a1_2)) else (some false))) = some r := h; clear h; replace H := ob H; obtain ⟨⟨t114, t115⟩, A4, H⟩ := H
 by_cases c5 : t115 = 0
 ·rw [if_pos c5] at H; obtain ⟨c5b0, c5b1⟩ := eqs c5; clear c5; have HC6 := aa.mk H; clear H; have BK112 := aa.mk hbox; have n0_ := aa.mk (show Below w.heap.size w w7 from by subst hw3; exact Below.refl _ _); clear hw3 HB; have HB := n0_; clear n0_ hbox; go_enter Tryd.func74, Tryd.ntmps74
  go_upto_if 16 with (first | fail | ((with_reducible refine aY (N := 3) rfl ?_); (try (refine aH (by rfl) ?_; dsimp only)); refine bx 3 #[.int .i64 a1_0, .int .i64 a1_1, .int .i64 a1_2] 43 ?_; intro gb113 hg w8 hbox hb; have n_ := an7 (bu BK112.out hb) (aj bl hb) (hbox) (bg hg) (bg hg) ((by rw [hg]; exact Nat.ne_of_lt (bF (g := gb112) (o := .cells #[.slice A0 l0.length c0, .slice A2_0 l2_0.length c2_0, .int .i64 a2_1, .int .i64 a2_2, .bool a2_3, .slice none 0 0] 101 (0, 0)) bk) : gb112 ≠ gb113)) ((by rw [hg]; exact Nat.ne_of_gt (bF (g := gb112) (o := .cells #[.slice A0 l0.length c0, .slice A2_0 l2_0.length c2_0, .int .i64 a2_1, .int .i64 a2_2, .bool a2_3, .slice none 0 0] 101 (0, 0)) bk) : gb113 ≠ gb112)); clear BK112 HB; obtain ⟨BK112, HB, BK113, GW113, GE113, NB112_113, NB113_112⟩ := n_; clear hb hbox hg; have hnb9 := NB113_112.out; have hnc9 := NB112_113.out; obtain ⟨hcz10_0, hcz10_1, hcz10_2⟩ := bd3 BK113.out; have hfz10_0 := ai BK113.out 0; have hfz10_1 := ai BK113.out 1; have hfz10_2 := ai BK113.out 2) | (go_at_call 83; (with_reducible refine (dJ.calls k a1_0 a1_1 a1_2 t114 t115 _ ?side1 A4.out).mono ?_); (case side1 => exact Laid.below HLd.out bl); rintro e w11 ⟨rfl, hb⟩; have n_ := an3 (bu BK112.out hb) (bu BK113.out hb) (aj bl hb); clear BK112 BK113 HB; obtain ⟨BK112, BK113, HB⟩ := n_; (try clear hb); obtain ⟨hcz12_0, hcz12_1, hcz12_2⟩ := bd3 BK113.out; have hfz12_0 := ai BK113.out 0; have hfz12_1 := ai BK113.out 1; have hfz12_2 := ai BK113.out 2))
  repeat (go_quiet (first | fail | ((with_reducible refine aY (N := 3) rfl ?_); (try (refine aH (by rfl) ?_; dsimp only)); refine bx 3 #[.int .i64 a1_0, .int .i64 a1_1, .int .i64 a1_2] 43 ?_; intro gb113 hg w8 hbox hb; have n_ := an7 (bu BK112.out hb) (aj bl hb) (hbox) (bg hg) (bg hg) ((by rw [hg]; exact Nat.ne_of_lt (bF (g := gb112) (o := .cells #[.slice A0 l0.length c0, .slice A2_0 l2_0.length c2_0, .int .i64 a2_1, .int .i64 a2_2, .bool a2_3, .slice none 0 0] 101 (0, 0)) bk) : gb112 ≠ gb113)) ((by rw [hg]; exact Nat.ne_of_gt (bF (g := gb112) (o := .cells #[.slice A0 l0.length c0, .slice A2_0 l2_0.length c2_0, .int .i64 a2_1, .int .i64 a2_2, .bool a2_3, .slice none 0 0] 101 (0, 0)) bk) : gb113 ≠ gb112)); clear BK112 HB; obtain ⟨BK112, HB, BK113, GW113, GE113, NB112_113, NB113_112⟩ := n_; clear hb hbox hg; have hnb9 := NB113_112.out; have hnc9 := NB112_113.out; obtain ⟨hcz10_0, hcz10_1, hcz10_2⟩ := bd3 BK113.out; have hfz10_0 := ai BK113.out 0; have hfz10_1 := ai BK113.out 1; have hfz10_2 := ai BK113.out 2) | (go_at_call 83; (with_reducible refine (dJ.calls k a1_0 a1_1 a1_2 t114 t115 _ ?side1 A4.out).mono ?_); (case side1 => exact Laid.below HLd.out bl); rintro e w11 ⟨rfl, hb⟩; have n_ := an3 (bu BK112.out hb) (bu BK113.out hb) (aj bl hb); clear BK112 BK113 HB; obtain ⟨BK112, BK113, HB⟩ := n_; obtain ⟨hcz12_0, hcz12_1, hcz12_2⟩ := bd3 BK113.out; have hfz12_0 := ai BK113.out 0; have hfz12_1 := ai BK113.out 1; have hfz12_2 := ai BK113.out 2)); go_upto_if 16 with (first | fail | ((with_reducible refine aY (N := 3) rfl ?_); (try (refine aH (by rfl) ?_; dsimp only)); refine bx 3 #[.int .i64 a1_0, .int .i64 a1_1, .int .i64 a1_2] 43 ?_; intro gb113 hg w8 hbox hb; have n_ := an7 (bu BK112.out hb) (aj bl hb) (hbox) (bg hg) (bg hg) ((by rw [hg]; exact Nat.ne_of_lt (bF (g := gb112) (o := .cells #[.slice A0 l0.length c0, .slice A2_0 l2_0.length c2_0, .int .i64 a2_1, .int .i64 a2_2, .bool a2_3, .slice none 0 0] 101 (0, 0)) bk) : gb112 ≠ gb113)) ((by rw [hg]; exact Nat.ne_of_gt (bF (g := gb112) (o := .cells #[.slice A0 l0.length c0, .slice A2_0 l2_0.length c2_0, .int .i64 a2_1, .int .i64 a2_2, .bool a2_3, .slice none 0 0] 101 (0, 0)) bk) : gb113 ≠ gb112)); clear BK112 HB; obtain ⟨BK112, HB, BK113, GW113, GE113, NB112_113, NB113_112⟩ := n_; clear hb hbox hg; have hnb9 := NB113_112.out; have hnc9 := NB112_113.out; obtain ⟨hcz10_0, hcz10_1, hcz10_2⟩ := bd3 BK113.out; have hfz10_0 := ai BK113.out 0; have hfz10_1 := ai BK113.out 1; have hfz10_2 := ai BK113.out 2) | (go_at_call 83; (with_reducible refine (dJ.calls k a1_0 a1_1 a1_2 t114 t115 _ ?side1 A4.out).mono ?_); (case side1 => exact Laid.below HLd.out bl); rintro e w11 ⟨rfl, hb⟩; have n_ := an3 (bu BK112.out hb) (bu BK113.out hb) (aj bl hb); clear BK112 BK113 HB; obtain ⟨BK112, BK113, HB⟩ := n_; obtain ⟨hcz12_0, hcz12_1, hcz12_2⟩ := bd3 BK113.out; have hfz12_0 := ai BK113.out 0; have hfz12_1 := ai BK113.out 1; have hfz12_2 := ai BK113.out 2)))
  (try simp only [Act.put, List.setIfInBounds_toArray, List.set_cons_zero, List.set_cons_succ])
  go_cut [16] (fun v16 wc => ∃ (kq : Nat) (x16_5 : Bool), v16 = .bool x16_5 ∧ aa (ay.j0 kq a1_0 x16_5 l0 l2_0 a2_1 a2_2 a2_3 a1_0 a1_1 a1_2 = some r) ∧ aa (kq ≤ k) ∧ aa (wc.heap[gb112]? = some (.cells #[(.slice A0 l0.length c0), (.slice A2_0 l2_0.length c2_0), .int .i64 a2_1, .int .i64 a2_2, .bool a2_3, (.slice none 0 0)] 101 (0, 0))) ∧ aa (wc.heap[gb113]? = some (.cells #[.int .i64 a1_0, .int .i64 a1_1, .int .i64 a1_2] 43 (0, 0))) ∧ aa (Below w.heap.size w wc))
  case first =>
   have H := HC6.out; clear HC6
   by_cases c13 : a1_0 = 2
   ·rw [if_pos c13] at H; obtain ⟨c13b0, c13b1⟩ := eqs c13; clear c13; (first | rw [c13b0] | (simp only [dI, dK]; rw [c13b0]) | skip); have H' := aa.mk H; clear H; go_wp2
    repeat (go_quiet (fail); try go_wp2)
    go_meet
    case rel => exact ⟨_, ((a1_0 == 2)), pr, H', ⟨by first | omega | exact Zd _⟩, ⟨bk⟩, ⟨bk⟩, ⟨bl⟩⟩
   ·rw [if_neg c13] at H; obtain ⟨c13b0, c13b1⟩ := eqf c13; (first | rw [c13b0] | (simp only [dI, dK]; rw [c13b0]) | skip); have H' := aa.mk H; clear H; go_wp2
    repeat (go_quiet (fail); try go_wp2)
    go_meet
    case rel => exact ⟨_, ((a1_0 == 3)), pr, H', ⟨by first | omega | exact Zd _⟩, ⟨bk⟩, ⟨bk⟩, ⟨bl⟩⟩
  case rest =>
   clear HC6; (try clear c5b0); (try clear c5b1); (try clear hcz10_0); (try clear hcz10_1); (try clear hcz10_2); (try clear hcz12_0); (try clear hcz12_1); (try clear hcz12_2); (try clear hfz10_0); (try clear hfz10_1); (try clear hfz10_2); (try clear hfz12_0); (try clear hfz12_1); (try clear hfz12_2); obtain ⟨kq, x16_5, rfl, HA, HJ5, BK112, BK113, HB⟩ := hcut
   cases kq with
   | zero => exact absurd HA.out (by simp [ay.j0])
   | succ kj5 =>
    have H := HA.out; clear HA; simp only [ay.j0] at H
    by_cases c14 : x16_5 = true
    ·subst c14; rw [if_pos rfl] at H; replace H := ob H; obtain ⟨t116, A15, H⟩ := H; obtain rfl := Zg H; have hnb16 := NB112_113.out; have hnc16 := NB113_112.out; obtain ⟨hcz17_0, hcz17_1, hcz17_2, hcz17_3, hcz17_4, hcz17_5, hfz17_0, hfz17_1, hfz17_2, hfz17_3, hfz17_4, hfz17_5⟩ := bc6 BK112.out; obtain ⟨hcz18_0, hcz18_1, hcz18_2, hfz18_0, hfz18_1, hfz18_2⟩ := bc3 BK113.out
     go_wp2_with (first | (go_at_call 84; (with_reducible refine (cK.calls gb112 A0 c0 l0 a1_1 1 A2_0 c2_0 l2_0 a2_1 a2_2 a2_3 t116 _ ?side1 ?side2 ?side3 ?side4 ?sideB A15.out).mono ?_); (case side1 => exact cb HR0.out); (case side2 => exact HC0.out); (case side3 => exact cb HR2_0.out); (case side4 => exact HC2_0.out); (case sideB => exact bk); rintro e w19 ⟨rfl, hb⟩; have n_ := an3 (bu BK112.out hb) (bu BK113.out hb) (aj bl hb); clear BK112 BK113 HB; obtain ⟨BK112, BK113, HB⟩ := n_; (try clear hb)))
     repeat (go_quiet (fail); try go_wp2_with (first | (go_at_call 84; (with_reducible refine (cK.calls gb112 A0 c0 l0 a1_1 1 A2_0 c2_0 l2_0 a2_1 a2_2 a2_3 t116 _ ?side1 ?side2 ?side3 ?side4 ?sideB A15.out).mono ?_); (case side1 => exact cb HR0.out); (case side2 => exact HC0.out); (case side3 => exact cb HR2_0.out); (case side4 => exact HC2_0.out); (case sideB => exact bk); rintro e w19 ⟨rfl, hb⟩; have n_ := an3 (bu BK112.out hb) (bu BK113.out hb) (aj bl hb); clear BK112 BK113 HB; obtain ⟨BK112, BK113, HB⟩ := n_)))
     go_ret; exact ⟨pe, bl⟩
    ·replace c14 := Zj c14; subst c14; rw [if_neg (show ¬ (false = true) by decide)] at H; have HC20 := aa.mk H; clear H
     go_upto_if 23 with (fail)
     repeat (go_quiet (fail); go_upto_if 23 with (fail))
     go_cut [23] (fun v23 wc => ∃ (kq : Nat) (x23_19 : Bool), v23 = .bool x23_19 ∧ aa (ay.j1 kq a1_0 x23_19 l0 l2_0 a2_1 a2_2 a2_3 a1_0 a1_1 a1_2 = some r) ∧ aa (kq ≤ kj5) ∧ aa (wc.heap[gb112]? = some (.cells #[(.slice A0 l0.length c0), (.slice A2_0 l2_0.length c2_0), .int .i64 a2_1, .int .i64 a2_2, .bool a2_3, (.slice none 0 0)] 101 (0, 0))) ∧ aa (wc.heap[gb113]? = some (.cells #[.int .i64 a1_0, .int .i64 a1_1, .int .i64 a1_2] 43 (0, 0))) ∧ aa (Below w.heap.size w wc))
     case first =>
      have H := HC20.out; clear HC20
      by_cases c21 : a1_0 = 4
      ·rw [if_pos c21] at H; obtain ⟨c21b0, c21b1⟩ := eqs c21; clear c21; (first | rw [c21b0] | (simp only [dI, dK]; rw [c21b0]) | skip); have H' := aa.mk H; clear H; go_wp2
       repeat (go_quiet (fail); try go_wp2)
       go_meet
       case rel => exact ⟨_, ((a1_0 == 4)), pr, H', ⟨by have := HJ5.out; first | omega | exact Zd _⟩, ⟨bk⟩, ⟨bk⟩, ⟨bl⟩⟩
      ·rw [if_neg c21] at H; obtain ⟨c21b0, c21b1⟩ := eqf c21; (first | rw [c21b0] | (simp only [dI, dK]; rw [c21b0]) | skip)
       by_cases c22 : a1_0 = 5
       ·rw [if_pos c22] at H; obtain ⟨c22b0, c22b1⟩ := eqs c22; clear c22; have H' := aa.mk H; clear H; go_wp2
        repeat (go_quiet (fail); try go_wp2)
        go_meet
        case rel => exact ⟨_, ((a1_0 == 5)), pr, H', ⟨by have := HJ5.out; first | omega | exact Zd _⟩, ⟨bk⟩, ⟨bk⟩, ⟨bl⟩⟩
       ·rw [if_neg c22] at H; obtain ⟨c22b0, c22b1⟩ := eqf c22; have H' := aa.mk H; clear H; go_wp2
        repeat (go_quiet (fail); try go_wp2)
        go_meet
        case rel => exact ⟨_, ((a1_0 == 6)), pr, H', ⟨by have := HJ5.out; first | omega | exact Zd _⟩, ⟨bk⟩, ⟨bk⟩, ⟨bl⟩⟩
     case rest =>
      clear HC20; obtain ⟨kq, x23_19, rfl, HA, HJ19, BK112, BK113, HB⟩ := hcut
      cases kq with
      | zero => exact absurd HA.out (by simp [ay.j1])
      | succ kj19 =>
       have H := HA.out; clear HA; simp only [ay.j1] at H
       by_cases c23 : x23_19 = true
       ·subst c23; rw [if_pos rfl] at H; have HH_ := aa.mk H; clear H; have hnb26 := NB113_112.out; have hnc26 := NB112_113.out; obtain ⟨hcz27_0, hcz27_1, hcz27_2, hfz27_0, hfz27_1, hfz27_2⟩ := bc3 BK113.out; have H := HH_.out; clear HH_
        by_cases c24 : a1_2 ≤ 64
        ·rw [if_pos c24] at H; have c24b0 := Za c24; clear c24; replace H := ob H; obtain ⟨t117, A25, H⟩ := H; obtain rfl := Zg H; obtain ⟨hcz28_0, hcz28_1, hcz28_2, hcz28_3, hcz28_4, hcz28_5, hfz28_0, hfz28_1, hfz28_2, hfz28_3, hfz28_4, hfz28_5⟩ := bc6 BK112.out
         go_wp2_with (first | (go_at_call 84; (with_reducible refine (cK.calls gb112 A0 c0 l0 a1_1 a1_2 A2_0 c2_0 l2_0 a2_1 a2_2 a2_3 t117 _ ?side1 ?side2 ?side3 ?side4 ?sideB A25.out).mono ?_); (case side1 => exact cb HR0.out); (case side2 => exact HC0.out); (case side3 => exact cb HR2_0.out); (case side4 => exact HC2_0.out); (case sideB => exact bk); rintro e w29 ⟨rfl, hb⟩; have n_ := an3 (bu BK112.out hb) (bu BK113.out hb) (aj bl hb); clear BK112 BK113 HB; obtain ⟨BK112, BK113, HB⟩ := n_; (try clear hb)))
         repeat (go_quiet (fail); try go_wp2_with (first | (go_at_call 84; (with_reducible refine (cK.calls gb112 A0 c0 l0 a1_1 a1_2 A2_0 c2_0 l2_0 a2_1 a2_2 a2_3 t117 _ ?side1 ?side2 ?side3 ?side4 ?sideB A25.out).mono ?_); (case side1 => exact cb HR0.out); (case side2 => exact HC0.out); (case side3 => exact cb HR2_0.out); (case side4 => exact HC2_0.out); (case sideB => exact bk); rintro e w29 ⟨rfl, hb⟩; have n_ := an3 (bu BK112.out hb) (bu BK113.out hb) (aj bl hb); clear BK112 BK113 HB; obtain ⟨BK112, BK113, HB⟩ := n_)))
         go_ret; exact ⟨pe, bl⟩
        ·rw [if_neg c24] at H; have c24b0 := Zb c24; clear c24; obtain rfl := Zg H; go_wp2
         repeat (go_quiet (fail); try go_wp2)
         go_ret; exact ⟨pe, bl⟩
       ·replace c23 := Zj c23; subst c23; rw [if_neg (show ¬ (false = true) by decide)] at H; have HC32 := aa.mk H; clear H
        go_upto_if 38 with (fail)
        repeat (go_quiet (fail); go_upto_if 38 with (fail))
        go_cut [38] (fun v38 wc => ∃ (kq : Nat) (x38_31 : Bool), v38 = .bool x38_31 ∧ aa (ay.j2 kq a1_0 x38_31 l0 l2_0 a2_1 a2_2 a2_3 a1_0 a1_1 a1_2 = some r) ∧ aa (kq ≤ kj19) ∧ aa (wc.heap[gb112]? = some (.cells #[(.slice A0 l0.length c0), (.slice A2_0 l2_0.length c2_0), .int .i64 a2_1, .int .i64 a2_2, .bool a2_3, (.slice none 0 0)] 101 (0, 0))) ∧ aa (wc.heap[gb113]? = some (.cells #[.int .i64 a1_0, .int .i64 a1_1, .int .i64 a1_2] 43 (0, 0))) ∧ aa (Below w.heap.size w wc))
        case first =>
         have H := HC32.out; clear HC32
         by_cases c33 : a1_0 = 17
         ·rw [if_pos c33] at H; obtain ⟨c33b0, c33b1⟩ := eqs c33; clear c33; (first | rw [c33b0] | (simp only [dI, dK]; rw [c33b0]) | skip); have H' := aa.mk H; clear H; go_wp2
          repeat (go_quiet (fail); try go_wp2)
          go_meet
          case rel => exact ⟨_, ((a1_0 == 17)), pr, H', ⟨by have := HJ5.out; have := HJ19.out; first | omega | exact Zd _⟩, ⟨bk⟩, ⟨bk⟩, ⟨bl⟩⟩
         ·rw [if_neg c33] at H; obtain ⟨c33b0, c33b1⟩ := eqf c33; (first | rw [c33b0] | (simp only [dI, dK]; rw [c33b0]) | skip); have H' := aa.mk H; clear H; go_wp2
          repeat (go_quiet (fail); try go_wp2)
          go_meet
          case rel => exact ⟨_, ((a1_0 == 18)), pr, H', ⟨by have := HJ5.out; have := HJ19.out; first | omega | exact Zd _⟩, ⟨bk⟩, ⟨bk⟩, ⟨bl⟩⟩
        case rest =>
         clear HC32; obtain ⟨kq, x38_31, rfl, HA, HJ31, BK112, BK113, HB⟩ := hcut
         cases kq with
         | zero => exact absurd HA.out (by simp [ay.j2])
         | succ kj31 =>
          have H := HA.out; clear HA; simp only [ay.j2] at H
          by_cases c34 : x38_31 = true
          ·subst c34; rw [if_pos rfl] at H; have HH_ := aa.mk H; clear H; have hnb36 := NB113_112.out; have hnc36 := NB112_113.out; obtain ⟨hcz37_0, hcz37_1, hcz37_2, hfz37_0, hfz37_1, hfz37_2⟩ := bc3 BK113.out; have H := HH_.out; clear HH_
           by_cases c35 : a1_1 ≥ 0
           ·rw [if_pos c35] at H; have c35b0 : decide (0 ≤ a1_1) = true := Za c35; clear c35; obtain rfl := Zg H; obtain ⟨hcz38_0, hcz38_1, hcz38_2, hcz38_3, hcz38_4, hcz38_5, hfz38_0, hfz38_1, hfz38_2, hfz38_3, hfz38_4, hfz38_5⟩ := bc6 BK112.out; go_wp2
            repeat (go_quiet (fail); try go_wp2)
            go_ret; exact ⟨pe, bl⟩
           ·rw [if_neg c35] at H; have c35b0 : decide (0 ≤ a1_1) = false := Zb c35; clear c35; obtain rfl := Zg H; go_wp2
            repeat (go_quiet (fail); try go_wp2)
            go_ret; exact ⟨pe, bl⟩
          ·replace c34 := Zj c34; subst c34; rw [if_neg (show ¬ (false = true) by decide)] at H
           by_cases c41 : a1_0 = 19
           ·rw [if_pos c41] at H; obtain ⟨c41b0, c41b1⟩ := eqs c41; clear c41; have HH_ := aa.mk H; clear H; have hnb47 := NB113_112.out; have hnc47 := NB112_113.out; obtain ⟨hcz48_0, hcz48_1, hcz48_2, hfz48_0, hfz48_1, hfz48_2⟩ := bc3 BK113.out; have H := HH_.out; clear HH_
            by_cases c42 : a1_1 ≥ 0
            ·rw [if_pos c42] at H; have c42b0 : decide (0 ≤ a1_1) = true := Za c42; clear c42; have HH_ := aa.mk H; clear H; obtain ⟨hcz49_0, hcz49_1, hcz49_2, hcz49_3, hcz49_4, hcz49_5, hfz49_0, hfz49_1, hfz49_2, hfz49_3, hfz49_4, hfz49_5⟩ := bc6 BK112.out; have H := HH_.out; clear HH_
             by_cases c43 : a1_1 < (l0.length : Int)
             ·rw [if_pos c43] at H; have c43b0 := Za c43; clear c43; have HH_ := aa.mk H; clear H; have H := HH_.out; clear HH_
              by_cases c44 : a1_2 ≥ 0
              ·rw [if_pos c44] at H; have c44b0 : decide (0 ≤ a1_2) = true := Za c44; clear c44; have HH_ := aa.mk H; clear H; have H := HH_.out; clear HH_
               by_cases c45 : a1_2 ≤ 8
               ·rw [if_pos c45] at H; have c45b0 := Za c45; clear c45
                replace H := it (c := 0 ≤ a1_1) H; obtain ⟨c46, H⟩ := H; have c46b0 := Za c46; clear c46; obtain rfl := Zg H
                have p118 : 0 ≤ (a1_1 : Int) := Zc pa
                have q118 : a1_1 < (l0.length : Int) := Zc pa
                obtain ⟨ad118, A118_0, c118_0, e118, hx118_0, hx118_1, hx118_2, hx118_3, hl118_0, hi118_0⟩ := eZ HR0.out a1_1 p118 q118
                cases e118
                replace hx118_0 := pc HB.out hx118_0; replace hx118_1 := pc HB.out hx118_1; replace hx118_2 := pc HB.out hx118_2; replace hx118_3 := pc HB.out hx118_3; have HR118_0 := aa.mk hi118_0; have HC118_0 := aa.mk hl118_0; clear hi118_0 hl118_0; replace p118 := eq_true p118; replace q118 := eq_true q118; go_wp2
                repeat (go_quiet (fail); try go_wp2)
                go_ret; exact ⟨pe, bl⟩
               ·rw [if_neg c45] at H; have c45b0 := Zb c45; clear c45; obtain rfl := Zg H; go_wp2
                repeat (go_quiet (fail); try go_wp2)
                go_ret; exact ⟨pe, bl⟩
              ·rw [if_neg c44] at H; have c44b0 : decide (0 ≤ a1_2) = false := Zb c44; clear c44; obtain rfl := Zg H; go_wp2
               repeat (go_quiet (fail); try go_wp2)
               go_ret; exact ⟨pe, bl⟩
             ·rw [if_neg c43] at H; have c43b0 := Zb c43; clear c43; obtain rfl := Zg H; go_wp2
              repeat (go_quiet (fail); try go_wp2)
              go_ret; exact ⟨pe, bl⟩
            ·rw [if_neg c42] at H; have c42b0 : decide (0 ≤ a1_1) = false := Zb c42; clear c42; obtain rfl := Zg H; go_wp2
             repeat (go_quiet (fail); try go_wp2)
             go_ret; exact ⟨pe, bl⟩
           ·rw [if_neg c41] at H; obtain ⟨c41b0, c41b1⟩ := eqf c41
            by_cases c61 : a1_0 = 20
            ·rw [if_pos c61] at H; obtain ⟨c61b0, c61b1⟩ := eqs c61; clear c61; have HH_ := aa.mk H; clear H; have hnb65 := NB113_112.out; have hnc65 := NB112_113.out; obtain ⟨hcz66_0, hcz66_1, hcz66_2, hfz66_0, hfz66_1, hfz66_2⟩ := bc3 BK113.out; have H := HH_.out; clear HH_
             by_cases c62 : a1_1 = 0
             ·rw [if_pos c62] at H; obtain ⟨c62b0, c62b1⟩ := eqs c62; clear c62; have HH_ := aa.mk H; clear H; have hcz67_0 : wc.cell? ⟨gb112, 0, none⟩ = some (.slice A0 l0.length c0) := (ae BK112.out 0).trans rfl; have hcz67_1 : wc.cell? ⟨gb112, 1, none⟩ = some (.slice A2_0 l2_0.length c2_0) := (ae BK112.out 1).trans rfl; have hcz67_2 : wc.cell? ⟨gb112, 2, none⟩ = some (.int .i64 a2_1) := (ae BK112.out 2).trans rfl; have hcz67_3 : wc.cell? ⟨gb112, 3, none⟩ = some (.int .i64 a2_2) := (ae BK112.out 3).trans rfl; have H := HH_.out; clear HH_
              by_cases c63 : a2_3 = true
              ·subst c63; rw [if_pos rfl] at H; have HH_ := aa.mk H; clear H; have hcz67_4 : wc.cell? ⟨gb112, 4, none⟩ = some (.bool true) := (ae BK112.out 4).trans rfl; have hcz67_5 : wc.cell? ⟨gb112, 5, none⟩ = some (.slice none 0 0) := (ae BK112.out 5).trans rfl; have hfz67_0 := ai BK112.out 0; have hfz67_1 := ai BK112.out 1; have hfz67_2 := ai BK112.out 2; have hfz67_3 := ai BK112.out 3; have hfz67_4 := ai BK112.out 4; have hfz67_5 := ai BK112.out 5; have H := HH_.out; clear HH_
               by_cases c64 : a1_1 = 1
               ·rw [if_pos c64] at H; obtain ⟨c64b0, c64b1⟩ := eqs c64; clear c64; obtain rfl := Zg H; go_wp2
                repeat (go_quiet (fail); try go_wp2)
                go_ret; exact ⟨pe, bl⟩
               ·rw [if_neg c64] at H; obtain ⟨c64b0, c64b1⟩ := eqf c64; obtain rfl := Zg H; go_wp2
                repeat (go_quiet (fail); try go_wp2)
                go_ret; exact ⟨pe, bl⟩
              ·replace c63 := Zj c63; subst c63; rw [if_neg (show ¬ (false = true) by decide)] at H; obtain rfl := Zg H; have hcz73_4 : wc.cell? ⟨gb112, 4, none⟩ = some (.bool false) := (ae BK112.out 4).trans rfl; have hcz73_5 : wc.cell? ⟨gb112, 5, none⟩ = some (.slice none 0 0) := (ae BK112.out 5).trans rfl; have hfz73_0 := ai BK112.out 0; have hfz73_1 := ai BK112.out 1; have hfz73_2 := ai BK112.out 2; have hfz73_3 := ai BK112.out 3; have hfz73_4 := ai BK112.out 4; have hfz73_5 := ai BK112.out 5; go_wp2
               repeat (go_quiet (fail); try go_wp2)
               go_ret; exact ⟨pe, bl⟩
             ·rw [if_neg c62] at H; obtain ⟨c62b0, c62b1⟩ := eqf c62; have HH_ := aa.mk H; clear H; have H := HH_.out; clear HH_
              by_cases c74 : a1_1 = 1
              ·rw [if_pos c74] at H; obtain ⟨c74b0, c74b1⟩ := eqs c74; clear c74; obtain rfl := Zg H; obtain ⟨hcz77_0, hcz77_1, hcz77_2, hcz77_3, hcz77_4, hcz77_5, hfz77_0, hfz77_1, hfz77_2, hfz77_3, hfz77_4, hfz77_5⟩ := bc6 BK112.out; go_wp2
               repeat (go_quiet (fail); try go_wp2)
               go_ret; exact ⟨pe, bl⟩
              ·rw [if_neg c74] at H; obtain ⟨c74b0, c74b1⟩ := eqf c74; obtain rfl := Zg H; go_wp2
               repeat (go_quiet (fail); try go_wp2)
               go_ret; exact ⟨pe, bl⟩
            ·rw [if_neg c61] at H; obtain ⟨c61b0, c61b1⟩ := eqf c61
             by_cases c80 : a1_0 = 24
             ·rw [if_pos c80] at H; obtain ⟨c80b0, c80b1⟩ := eqs c80; clear c80; have HH_ := aa.mk H; clear H; have hnb83 := NB113_112.out; have hnc83 := NB112_113.out; obtain ⟨hcz84_0, hcz84_1, hcz84_2, hfz84_0, hfz84_1, hfz84_2⟩ := bc3 BK113.out; have H := HH_.out; clear HH_
              by_cases c81 : a1_1 ≥ 0
              ·rw [if_pos c81] at H; have c81b0 : decide (0 ≤ a1_1) = true := Za c81; clear c81; have HH_ := aa.mk H; clear H; have H := HH_.out; clear HH_
               by_cases c82 : a1_2 ≥ 1
               ·rw [if_pos c82] at H; have c82b0 : decide (1 ≤ a1_2) = true := Za c82; clear c82; obtain rfl := Zg H; go_wp2
                repeat (go_quiet (fail); try go_wp2)
                go_ret; exact ⟨pe, bl⟩
               ·rw [if_neg c82] at H; have c82b0 : decide (1 ≤ a1_2) = false := Zb c82; clear c82; obtain rfl := Zg H; go_wp2
                repeat (go_quiet (fail); try go_wp2)
                go_ret; exact ⟨pe, bl⟩
              ·rw [if_neg c81] at H; have c81b0 : decide (0 ≤ a1_1) = false := Zb c81; clear c81; obtain rfl := Zg H; go_wp2
               repeat (go_quiet (fail); try go_wp2)
               go_ret; exact ⟨pe, bl⟩
             ·rw [if_neg c80] at H; obtain ⟨c80b0, c80b1⟩ := eqf c80; obtain rfl := Zg H; go_wp2
              repeat (go_quiet (fail); try go_wp2)
              go_ret; exact ⟨pe, bl⟩
 ·rw [if_neg c5] at H; obtain ⟨c5b0, c5b1⟩ := eqf c5; obtain rfl := Zg H; have BK112 := aa.mk hbox; have n0_ := aa.mk (show Below w.heap.size w w7 from by subst hw3; exact Below.refl _ _); clear hw3 HB; have HB := n0_; clear n0_ hbox; go_enter Tryd.func74, Tryd.ntmps74
  go_wp2_with (first | fail | ((with_reducible refine aY (N := 3) rfl ?_); (try (refine aH (by rfl) ?_; dsimp only)); refine bx 3 #[.int .i64 a1_0, .int .i64 a1_1, .int .i64 a1_2] 43 ?_; intro gb113 hg w90 hbox hb; have n_ := an7 (bu BK112.out hb) (aj bl hb) (hbox) (bg hg) (bg hg) ((by rw [hg]; exact Nat.ne_of_lt (bF (g := gb112) (o := .cells #[.slice A0 l0.length c0, .slice A2_0 l2_0.length c2_0, .int .i64 a2_1, .int .i64 a2_2, .bool a2_3, .slice none 0 0] 101 (0, 0)) bk) : gb112 ≠ gb113)) ((by rw [hg]; exact Nat.ne_of_gt (bF (g := gb112) (o := .cells #[.slice A0 l0.length c0, .slice A2_0 l2_0.length c2_0, .int .i64 a2_1, .int .i64 a2_2, .bool a2_3, .slice none 0 0] 101 (0, 0)) bk) : gb113 ≠ gb112)); clear BK112 HB; obtain ⟨BK112, HB, BK113, GW113, GE113, NB112_113, NB113_112⟩ := n_; clear hb hbox hg; have hnb91 := NB113_112.out; have hnc91 := NB112_113.out; obtain ⟨hcz92_0, hcz92_1, hcz92_2⟩ := bd3 BK113.out; have hfz92_0 := ai BK113.out 0; have hfz92_1 := ai BK113.out 1; have hfz92_2 := ai BK113.out 2) | (go_at_call 83; (with_reducible refine (dJ.calls k a1_0 a1_1 a1_2 t114 t115 _ ?side1 A4.out).mono ?_); (case side1 => exact Laid.below HLd.out bl); rintro e w93 ⟨rfl, hb⟩; have n_ := an3 (bu BK112.out hb) (bu BK113.out hb) (aj bl hb); clear BK112 BK113 HB; obtain ⟨BK112, BK113, HB⟩ := n_; (try clear hb)))
  repeat (go_quiet (fail); try go_wp2_with (first | fail | ((with_reducible refine aY (N := 3) rfl ?_); (try (refine aH (by rfl) ?_; dsimp only)); refine bx 3 #[.int .i64 a1_0, .int .i64 a1_1, .int .i64 a1_2] 43 ?_; intro gb113 hg w90 hbox hb; have n_ := an7 (bu BK112.out hb) (aj bl hb) (hbox) (bg hg) (bg hg) ((by rw [hg]; exact Nat.ne_of_lt (bF (g := gb112) (o := .cells #[.slice A0 l0.length c0, .slice A2_0 l2_0.length c2_0, .int .i64 a2_1, .int .i64 a2_2, .bool a2_3, .slice none 0 0] 101 (0, 0)) bk) : gb112 ≠ gb113)) ((by rw [hg]; exact Nat.ne_of_gt (bF (g := gb112) (o := .cells #[.slice A0 l0.length c0, .slice A2_0 l2_0.length c2_0, .int .i64 a2_1, .int .i64 a2_2, .bool a2_3, .slice none 0 0] 101 (0, 0)) bk) : gb113 ≠ gb112)); clear BK112 HB; obtain ⟨BK112, HB, BK113, GW113, GE113, NB112_113, NB113_112⟩ := n_; clear hb hbox hg; have hnb91 := NB113_112.out; have hnc91 := NB112_113.out; obtain ⟨hcz92_0, hcz92_1, hcz92_2⟩ := bd3 BK113.out; have hfz92_0 := ai BK113.out 0; have hfz92_1 := ai BK113.out 1; have hfz92_2 := ai BK113.out 2) | (go_at_call 83; (with_reducible refine (dJ.calls k a1_0 a1_1 a1_2 t114 t115 _ ?side1 A4.out).mono ?_); (case side1 => exact Laid.below HLd.out bl); rintro e w93 ⟨rfl, hb⟩; have n_ := an3 (bu BK112.out hb) (bu BK113.out hb) (aj bl hb); clear BK112 BK113 HB; obtain ⟨BK112, BK113, HB⟩ := n_)))
  go_ret; exact ⟨pe, bl⟩
theorem ay.calls (gb112 : Nat) (k : Nat) (A0 : Option Addr) (c0 : Nat) (l0 : List (S46)) (a1_0 : Int) (a1_1 : Int) (a1_2 : Int) (A2_0 : Option Addr) (c2_0 : Nat) (l2_0 : List (S43)) (a2_1 : Int) (a2_2 : Int) (a2_3 : Bool) (r : Bool) (w : World) (hr0 : Kd.C k46 w A0 l0.length l0) (hc0 : l0.length ≤ c0) (hr2_0 : Kd.C k43 w A2_0 l2_0.length l2_0) (hc2_0 : l2_0.length ≤ c2_0) (hLd : Laid w) (hbox : w.heap[gb112]? = some (.cells #[.slice A0 l0.length c0, .slice A2_0 l2_0.length c2_0, .int .i64 a2_1, .int .i64 a2_2, .bool a2_3, .slice none 0 0] 101 (0, 0))) (h : ay.f k l0 a1_0 a1_1 a1_2 l2_0 a2_1 a2_2 a2_3 = some r) :
  Calls Tryd.prog 74 #[.pointer (some ⟨gb112, 0, none⟩), .agg #[.int .i64 a1_0, .int .i64 a1_1, .int .i64 a1_2]] w fun e w' => e = .returned (.bool r) ∧ Below w.heap.size w w' := ay.sJ gb112 k A0 c0 l0 a1_0 a1_1 a1_2 A2_0 c2_0 l2_0 a2_1 a2_2 a2_3 r w w hr0 hc0 hr2_0 hc2_0 hLd hbox rfl h
end Go.Proofs.YthckiolgpgplpaaDoor.YD
