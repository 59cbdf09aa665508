import Derived.Test.YthckiolgpgplpaaDoorPx9
namespace Go.Proofs.YthckiolgpgplpaaDoor.YD
set_option maxHeartbeats 8000000
set_option maxRecDepth 100000
open Go.RowKit YC YA YB
attribute [local go_sem] eF eD fD fE dS dU eG eO
set_option linter.unusedVariables false
set_option linter.unusedSimpArgs false
mutual
def aM.j0 : Nat → List (S46) → Int → Bool → List (S43) → Int → Int → Bool → Int → Int → Int → Option (Bool)
 | 0, _, _, _, _, _, _, _, _, _, _ => none
 | k + 1, x0, x19, x20, x263000, x263001, x263002, x263003, x264000, x264001, x264002 => if x20 = true then ((dC.f x263000 x263001 x263002 x263003 x264001 1).bind fun t266 => (some t266)) else (if x19 = 4 then (aM.j1 k x0 x19 (x19 == 4) x263000 x263001 x263002 x263003 x264000 x264001 x264002) else (if x19 = 5 then (aM.j1 k x0 x19 (x19 == 5) x263000 x263001 x263002 x263003 x264000 x264001 x264002) else (aM.j1 k x0 x19 (x19 == 6) x263000 x263001 x263002 x263003 x264000 x264001 x264002)))
def aM.j1 : Nat → List (S46) → Int → Bool → List (S43) → Int → Int → Bool → Int → Int → Int → Option (Bool)
 | 0, _, _, _, _, _, _, _, _, _, _ => none
 | k + 1, x0, x19, x27, x263000, x263001, x263002, x263003, x264000, x264001, x264002 => if x27 = true then ((dC.f x263000 x263001 x263002 x263003 x264001 x264002).bind fun t267 => (if t267 = true then (some (decide (x264002 ≤ 64))) else (some false))) else (if x19 = 17 then (aM.j2 k x0 x19 (x19 == 17) x263000 x263001 x263002 x263003 x264000 x264001 x264002) else (aM.j2 k x0 x19 (x19 == 18) x263000 x263001 x263002 x263003 x264000 x264001 x264002))
def aM.j2 : Nat → List (S46) → Int → Bool → List (S43) → Int → Int → Bool → Int → Int → Int → Option (Bool)
 | 0, _, _, _, _, _, _, _, _, _, _ => none
 | k + 1, x0, x19, x42, x263000, x263001, x263002, x263003, x264000, x264001, x264002 => if x42 = true then (if x264001 ≥ 0 then (some (decide (x264001 < (x263000.length : Int)))) else (some false)) else (if x19 = 19 then (if x264001 < 0 then (some false) else (if x264001 ≥ (x0.length : Int) then (some false) else (if 0 ≤ x264001 then (if x264001 < (x0.length : Int) then (if ((au x0 x264001).f2) = x264002 then (if ((au x0 x264001).f2) ≥ 0 then (some (decide (((au x0 x264001).f2) ≤ 8))) else (some false)) else (some false)) else (none)) else (none)))) else (if x19 = 20 then (if x263003 = true then (some (x264001 == 1)) else (some (x264001 == 0))) else (if x19 = 24 then (if x264001 ≥ 0 then (if x264002 ≥ 1 then (some (decide (x264002 ≤ 3))) else (some false)) else (some false)) else (some true))))
end
def aM.f (k : Nat) (l0 : List (S46)) (l1_0 : List (S43)) (a1_1 : Int) (a1_2 : Int) (a1_3 : Bool) (a2_0 : Int) (a2_1 : Int) (a2_2 : Int) : Option (Bool) := (aX.f k a2_0 a2_1 a2_2).bind fun bt264 => (if bt264.2 = 0 then (if a2_0 = 2 then (aM.j0 k l0 a2_0 (a2_0 == 2) l1_0 a1_1 a1_2 a1_3 a2_0 a2_1 a2_2) else (aM.j0 k l0 a2_0 (a2_0 == 3) l1_0 a1_1 a1_2 a1_3 a2_0 a2_1 a2_2)) else (some false))
theorem aM.calls (k : Nat) (A0 : Option Addr) (c0 : Nat) (l0 : List (S46)) (A1_0 : Option Addr) (c1_0 : Nat) (l1_0 : List (S43)) (a1_1 : Int) (a1_2 : Int) (a1_3 : Bool) (a2_0 : Int) (a2_1 : Int) (a2_2 : Int) (r : Bool) (w : World) (hr0 : Kd.C k46 w A0 l0.length l0) (hc0 : l0.length ≤ c0) (hr1_0 : Kd.C k43 w A1_0 l1_0.length l1_0) (hc1_0 : l1_0.length ≤ c1_0) (h : aM.f k l0 l1_0 a1_1 a1_2 a1_3 a2_0 a2_1 a2_2 = some r) :
  Calls Tryd.prog 82 #[.slice A0 l0.length c0, .agg #[.slice A1_0 l1_0.length c1_0, .int .i64 a1_1, .int .i64 a1_2, .bool a1_3], .agg #[.int .i64 a2_0, .int .i64 a2_1, .int .i64 a2_2]] w fun e w' => e = .returned (.bool r) ∧ Below w.heap.size w w' := by
 have hu46 := Tryd.underlying46; have hu43 := Tryd.underlying43; have HR0 := aa.mk hr0; have HC0 := aa.mk hc0; clear hr0 hc0; have HR1_0 := aa.mk hr1_0; have HC1_0 := aa.mk hc1_0; clear hr1_0 hc1_0; have HB := aa.mk (Below.refl w.heap.size w); have H : ((aX.f k a2_0 a2_1 a2_2).bind fun bt264 => (if bt264.2 = 0 then (if a2_0 = 2 then (aM.j0 k l0 a2_0 (a2_0 == 2) l1_0 a1_1 a1_2 a1_3 a2_0 a2_1 a2_2) else (aM.j0 k l0 a2_0 (a2_0 == 3) l1_0 a1_1 a1_2 a1_3 a2_0 a2_1 a2_2)) else (some false))) = some r := h; clear h; replace H := ob H; obtain ⟨⟨t264, t265⟩, A4, H⟩ := H
 by_cases c5 : t265 = 0
 ·rw [if_pos c5] at H; obtain ⟨c5b0, c5b1⟩ := eqs c5; clear c5; have HC6 := aa.mk H; clear H; go_enter Tryd.func82, Tryd.ntmps82
  go_upto_if 20 with (first | ((with_reducible refine aY (N := 4) rfl ?_); (try (refine aH (by rfl) ?_; dsimp only)); refine bx 4 #[.slice A1_0 l1_0.length c1_0, .int .i64 a1_1, .int .i64 a1_2, .bool a1_3] 46 ?_; intro gb262 hg w7 hbox hb; have n_ := an4 (aj bl hb) (hbox) (bg hg) (bg hg); clear HB; obtain ⟨HB, BK262, GW262, GE262⟩ := n_; clear hb hbox hg) | ((with_reducible refine aY (N := 5) rfl ?_); (try (refine aH (by rfl) ?_; dsimp only)); refine bx 5 #[.int .i64 a2_0, .int .i64 a2_1, .int .i64 a2_2] 43 ?_; intro gb263 hg w8 hbox hb; have n_ := an7 (bu BK262.out hb) (aj bl hb) (hbox) (bg hg) (bg hg) ((by rw [hg]; exact Nat.ne_of_lt (bF (g := gb262) (o := .cells #[.slice A1_0 l1_0.length c1_0, .int .i64 a1_1, .int .i64 a1_2, .bool a1_3] 46 (0, 0)) bk) : gb262 ≠ gb263)) ((by rw [hg]; exact Nat.ne_of_gt (bF (g := gb262) (o := .cells #[.slice A1_0 l1_0.length c1_0, .int .i64 a1_1, .int .i64 a1_2, .bool a1_3] 46 (0, 0)) bk) : gb263 ≠ gb262)); clear BK262 HB; obtain ⟨BK262, HB, BK263, GW263, GE263, NB262_263, NB263_262⟩ := n_; clear hb hbox hg; have hnb9 := NB263_262.out; have hnc9 := NB262_263.out; obtain ⟨hcz10_0, hcz10_1, hcz10_2⟩ := bd3 BK263.out; have hfz10_0 := ai BK263.out 0; have hfz10_1 := ai BK263.out 1; have hfz10_2 := ai BK263.out 2) | ((with_reducible refine ah (f := 87) rfl ?_); refine gl 13 Tryd.func87 #[.agg #[.int .i64 a2_0, .int .i64 a2_1, .int .i64 a2_2]] ?_; (with_reducible refine (aX.calls k a2_0 a2_1 a2_2 t264 t265 _ A4.out).mono ?_); rintro e w11 ⟨rfl, hb⟩; refine ⟨_, rfl, ?_⟩; have n_ := an3 (bu BK262.out hb) (bu BK263.out hb) (aj bl hb); clear BK262 BK263 HB; obtain ⟨BK262, BK263, HB⟩ := n_; (try clear hb); obtain ⟨hcz12_0, hcz12_1, hcz12_2⟩ := bd3 BK263.out; have hfz12_0 := ai BK263.out 0; have hfz12_1 := ai BK263.out 1; have hfz12_2 := ai BK263.out 2))
  (try simp only [Act.put, List.setIfInBounds_toArray, List.set_cons_zero, List.set_cons_succ])
  go_cut [20] (fun v20 wc => ∃ (kq : Nat) (x20_5 : Bool), v20 = .bool x20_5 ∧ aa (aM.j0 kq l0 a2_0 x20_5 l1_0 a1_1 a1_2 a1_3 a2_0 a2_1 a2_2 = some r) ∧ aa (kq ≤ k) ∧ aa (wc.heap[gb262]? = some (.cells #[(.slice A1_0 l1_0.length c1_0), .int .i64 a1_1, .int .i64 a1_2, .bool a1_3] 46 (0, 0))) ∧ aa (wc.heap[gb263]? = some (.cells #[.int .i64 a2_0, .int .i64 a2_1, .int .i64 a2_2] 43 (0, 0))) ∧ aa (Below w.heap.size w wc))
  case first =>
   have H := HC6.out; clear HC6
   by_cases c13 : a2_0 = 2
   ·rw [if_pos c13] at H; obtain ⟨c13b0, c13b1⟩ := eqs c13; clear c13; (first | rw [c13b0] | (simp only [dI, dK]; rw [c13b0]) | skip); have H' := aa.mk H; clear H; go_wp2; go_meet
    case rel => exact ⟨_, ((a2_0 == 2)), pr, H', ⟨by first | omega | exact Zd _⟩, ⟨bk⟩, ⟨bk⟩, ⟨bl⟩⟩
   ·rw [if_neg c13] at H; obtain ⟨c13b0, c13b1⟩ := eqf c13; (first | rw [c13b0] | (simp only [dI, dK]; rw [c13b0]) | skip); have H' := aa.mk H; clear H; go_wp2; go_meet
    case rel => exact ⟨_, ((a2_0 == 3)), pr, H', ⟨by first | omega | exact Zd _⟩, ⟨bk⟩, ⟨bk⟩, ⟨bl⟩⟩
  case rest =>
   clear HC6; (try clear c5b0); (try clear c5b1); (try clear hcz10_0); (try clear hcz10_1); (try clear hcz10_2); (try clear hcz12_0); (try clear hcz12_1); (try clear hcz12_2); (try clear hfz10_0); (try clear hfz10_1); (try clear hfz10_2); (try clear hfz12_0); (try clear hfz12_1); (try clear hfz12_2); obtain ⟨kq, x20_5, rfl, HA, HJ5, BK262, BK263, HB⟩ := hcut
   cases kq with
   | zero => exact absurd HA.out (by simp [aM.j0])
   | succ kj5 =>
    have H := HA.out; clear HA; simp only [aM.j0] at H
    by_cases c14 : x20_5 = true
    ·subst c14; rw [if_pos rfl] at H; replace H := ob H; obtain ⟨t266, A15, H⟩ := H; obtain rfl := Zg H; have hnb16 := NB262_263.out; have hnc16 := NB263_262.out; obtain ⟨hcz17_0, hcz17_1, hcz17_2, hcz17_3, hfz17_0, hfz17_1, hfz17_2, hfz17_3⟩ := bc4 BK262.out; obtain ⟨hcz18_0, hcz18_1, hcz18_2, hfz18_0, hfz18_1, hfz18_2⟩ := bc3 BK263.out
     go_wp2_with (first | ((with_reducible refine ah (f := 88) rfl ?_); refine gl 26 Tryd.func88 #[.agg #[.slice A1_0 l1_0.length c1_0, .int .i64 a1_1, .int .i64 a1_2, .bool a1_3], .int .i64 a2_1, .int .i64 1] ?_; (with_reducible refine (dC.calls _ _ l1_0 a1_1 a1_2 a1_3 a2_1 1 t266 _ ?side1 ?side2 A15.out).mono ?_); (case side1 => exact cb HR1_0.out); (case side2 => exact HC1_0.out); rintro e w19 ⟨rfl, hb⟩; refine ⟨_, rfl, ?_⟩; have n_ := an3 (bu BK262.out hb) (bu BK263.out hb) (aj bl hb); clear BK262 BK263 HB; obtain ⟨BK262, BK263, HB⟩ := n_; (try clear hb)))
     go_ret; exact ⟨pe, bl⟩
    ·replace c14 := Zj c14; subst c14; rw [if_neg (show ¬ (false = true) by decide)] at H; have HC20 := aa.mk H; clear H
     go_upto_if 27 with (fail)
     go_cut [27] (fun v27 wc => ∃ (kq : Nat) (x27_19 : Bool), v27 = .bool x27_19 ∧ aa (aM.j1 kq l0 a2_0 x27_19 l1_0 a1_1 a1_2 a1_3 a2_0 a2_1 a2_2 = some r) ∧ aa (kq ≤ kj5) ∧ aa (wc.heap[gb262]? = some (.cells #[(.slice A1_0 l1_0.length c1_0), .int .i64 a1_1, .int .i64 a1_2, .bool a1_3] 46 (0, 0))) ∧ aa (wc.heap[gb263]? = some (.cells #[.int .i64 a2_0, .int .i64 a2_1, .int .i64 a2_2] 43 (0, 0))) ∧ aa (Below w.heap.size w wc))
     case first =>
      have H := HC20.out; clear HC20
      by_cases c21 : a2_0 = 4
      ·rw [if_pos c21] at H; obtain ⟨c21b0, c21b1⟩ := eqs c21; clear c21; (first | rw [c21b0] | (simp only [dI, dK]; rw [c21b0]) | skip); have H' := aa.mk H; clear H; go_wp2; go_meet
       case rel => exact ⟨_, ((a2_0 == 4)), pr, H', ⟨by have := HJ5.out; first | omega | exact Zd _⟩, ⟨bk⟩, ⟨bk⟩, ⟨bl⟩⟩
      ·rw [if_neg c21] at H; obtain ⟨c21b0, c21b1⟩ := eqf c21; (first | rw [c21b0] | (simp only [dI, dK]; rw [c21b0]) | skip)
       by_cases c22 : a2_0 = 5
       ·rw [if_pos c22] at H; obtain ⟨c22b0, c22b1⟩ := eqs c22; clear c22; have H' := aa.mk H; clear H; go_wp2; go_meet
        case rel => exact ⟨_, ((a2_0 == 5)), pr, H', ⟨by have := HJ5.out; first | omega | exact Zd _⟩, ⟨bk⟩, ⟨bk⟩, ⟨bl⟩⟩
       ·rw [if_neg c22] at H; obtain ⟨c22b0, c22b1⟩ := eqf c22; have H' := aa.mk H; clear H; go_wp2; go_meet
        case rel => exact ⟨_, ((a2_0 == 6)), pr, H', ⟨by have := HJ5.out; first | omega | exact Zd _⟩, ⟨bk⟩, ⟨bk⟩, ⟨bl⟩⟩
     case rest =>
      clear HC20; obtain ⟨kq, x27_19, rfl, HA, HJ19, BK262, BK263, HB⟩ := hcut
      cases kq with
      | zero => exact absurd HA.out (by simp [aM.j1])
      | succ kj19 =>
       have H := HA.out; clear HA; simp only [aM.j1] at H
       by_cases c23 : x27_19 = true
       ·subst c23; rw [if_pos rfl] at H; replace H := ob H; obtain ⟨t267, A24, H⟩ := H; have HH_ := aa.mk H; clear H; have hnb26 := NB262_263.out; have hnc26 := NB263_262.out; obtain ⟨hcz27_0, hcz27_1, hcz27_2, hcz27_3, hfz27_0, hfz27_1, hfz27_2, hfz27_3⟩ := bc4 BK262.out; obtain ⟨hcz28_0, hcz28_1, hcz28_2, hfz28_0, hfz28_1, hfz28_2⟩ := bc3 BK263.out; have H := HH_.out; clear HH_
        by_cases c25 : t267 = true
        ·subst c25; rw [if_pos rfl] at H; obtain rfl := Zg H
         go_wp2_with (first | ((with_reducible refine ah (f := 88) rfl ?_); refine gl 36 Tryd.func88 #[.agg #[.slice A1_0 l1_0.length c1_0, .int .i64 a1_1, .int .i64 a1_2, .bool a1_3], .int .i64 a2_1, .int .i64 a2_2] ?_; (with_reducible refine (dC.calls _ _ l1_0 a1_1 a1_2 a1_3 a2_1 a2_2 true _ ?side1 ?side2 A24.out).mono ?_); (case side1 => exact cb HR1_0.out); (case side2 => exact HC1_0.out); rintro e w29 ⟨rfl, hb⟩; refine ⟨_, rfl, ?_⟩; have n_ := an3 (bu BK262.out hb) (bu BK263.out hb) (aj bl hb); clear BK262 BK263 HB; obtain ⟨BK262, BK263, HB⟩ := n_; (try clear hb); obtain ⟨hcz30_0, hcz30_1, hcz30_2⟩ := bd3 BK263.out; have hfz30_0 := ai BK263.out 0; have hfz30_1 := ai BK263.out 1; have hfz30_2 := ai BK263.out 2))
         go_ret; exact ⟨pe, bl⟩
        ·replace c25 := Zj c25; subst c25; rw [if_neg (show ¬ (false = true) by decide)] at H; obtain rfl := Zg H
         go_wp2_with (first | ((with_reducible refine ah (f := 88) rfl ?_); refine gl 36 Tryd.func88 #[.agg #[.slice A1_0 l1_0.length c1_0, .int .i64 a1_1, .int .i64 a1_2, .bool a1_3], .int .i64 a2_1, .int .i64 a2_2] ?_; (with_reducible refine (dC.calls _ _ l1_0 a1_1 a1_2 a1_3 a2_1 a2_2 false _ ?side1 ?side2 A24.out).mono ?_); (case side1 => exact cb HR1_0.out); (case side2 => exact HC1_0.out); rintro e w34 ⟨rfl, hb⟩; refine ⟨_, rfl, ?_⟩; have n_ := an3 (bu BK262.out hb) (bu BK263.out hb) (aj bl hb); clear BK262 BK263 HB; obtain ⟨BK262, BK263, HB⟩ := n_; (try clear hb)))
         go_ret; exact ⟨pe, bl⟩
       ·replace c23 := Zj c23; subst c23; rw [if_neg (show ¬ (false = true) by decide)] at H; have HC35 := aa.mk H; clear H
        go_upto_if 42 with (fail)
        go_cut [42] (fun v42 wc => ∃ (kq : Nat) (x42_34 : Bool), v42 = .bool x42_34 ∧ aa (aM.j2 kq l0 a2_0 x42_34 l1_0 a1_1 a1_2 a1_3 a2_0 a2_1 a2_2 = some r) ∧ aa (kq ≤ kj19) ∧ aa (wc.heap[gb262]? = some (.cells #[(.slice A1_0 l1_0.length c1_0), .int .i64 a1_1, .int .i64 a1_2, .bool a1_3] 46 (0, 0))) ∧ aa (wc.heap[gb263]? = some (.cells #[.int .i64 a2_0, .int .i64 a2_1, .int .i64 a2_2] 43 (0, 0))) ∧ aa (Below w.heap.size w wc))
        case first =>
         have H := HC35.out; clear HC35
         by_cases c36 : a2_0 = 17
         ·rw [if_pos c36] at H; obtain ⟨c36b0, c36b1⟩ := eqs c36; clear c36; (first | rw [c36b0] | (simp only [dI, dK]; rw [c36b0]) | skip); have H' := aa.mk H; clear H; go_wp2; go_meet
          case rel => exact ⟨_, ((a2_0 == 17)), pr, H', ⟨by have := HJ5.out; have := HJ19.out; first | omega | exact Zd _⟩, ⟨bk⟩, ⟨bk⟩, ⟨bl⟩⟩
         ·rw [if_neg c36] at H; obtain ⟨c36b0, c36b1⟩ := eqf c36; (first | rw [c36b0] | (simp only [dI, dK]; rw [c36b0]) | skip); have H' := aa.mk H; clear H; go_wp2; go_meet
          case rel => exact ⟨_, ((a2_0 == 18)), pr, H', ⟨by have := HJ5.out; have := HJ19.out; first | omega | exact Zd _⟩, ⟨bk⟩, ⟨bk⟩, ⟨bl⟩⟩
        case rest =>
         clear HC35; obtain ⟨kq, x42_34, rfl, HA, HJ34, BK262, BK263, HB⟩ := hcut
         cases kq with
         | zero => exact absurd HA.out (by simp [aM.j2])
         | succ kj34 =>
          have H := HA.out; clear HA; simp only [aM.j2] at H
          by_cases c37 : x42_34 = true
          ·subst c37; rw [if_pos rfl] at H; have HH_ := aa.mk H; clear H; have hnb39 := NB263_262.out; have hnc39 := NB262_263.out; obtain ⟨hcz40_0, hcz40_1, hcz40_2, hfz40_0, hfz40_1, hfz40_2⟩ := bc3 BK263.out; have H := HH_.out; clear HH_
           by_cases c38 : a2_1 ≥ 0
           ·rw [if_pos c38] at H; have c38b0 : decide (0 ≤ a2_1) = true := Za c38; clear c38; obtain rfl := Zg H; obtain ⟨hcz41_0, hcz41_1, hcz41_2, hcz41_3, hfz41_0, hfz41_1, hfz41_2, hfz41_3⟩ := bc4 BK262.out; go_wp2; go_ret; exact ⟨pe, bl⟩
           ·rw [if_neg c38] at H; have c38b0 : decide (0 ≤ a2_1) = false := Zb c38; clear c38; obtain rfl := Zg H; go_wp2; go_ret; exact ⟨pe, bl⟩
          ·replace c37 := Zj c37; subst c37; rw [if_neg (show ¬ (false = true) by decide)] at H
           by_cases c44 : a2_0 = 19
           ·rw [if_pos c44] at H; obtain ⟨c44b0, c44b1⟩ := eqs c44; clear c44; have HH_ := aa.mk H; clear H; have hnb46 := NB263_262.out; have hnc46 := NB262_263.out; obtain ⟨hcz47_0, hcz47_1, hcz47_2, hfz47_0, hfz47_1, hfz47_2⟩ := bc3 BK263.out; have H := HH_.out; clear HH_
            by_cases c45 : a2_1 < 0
            ·rw [if_pos c45] at H; have c45b0 := Za c45; clear c45; obtain rfl := Zg H; go_wp2; go_ret; exact ⟨pe, bl⟩
            ·rw [if_neg c45] at H; have c45b0 := Zb c45; clear c45; have HH_ := aa.mk H; clear H; have H := HH_.out; clear HH_
             by_cases c48 : a2_1 ≥ (l0.length : Int)
             ·rw [if_pos c48] at H; have c48b0 : decide ((l0.length : Int) ≤ a2_1) = true := Za c48; clear c48; obtain rfl := Zg H; go_wp2; go_ret; exact ⟨pe, bl⟩
             ·rw [if_neg c48] at H; have c48b0 : decide ((l0.length : Int) ≤ a2_1) = false := Zb c48; clear c48
              replace H := it (c := 0 ≤ a2_1) H; obtain ⟨c51, H⟩ := H; have c51b0 := Za c51; clear c51
              replace H := it (c := a2_1 < (l0.length : Int)) H; obtain ⟨c52, H⟩ := H; have c52b0 := Za c52; clear c52; have HH_ := aa.mk H; clear H
              have p268 : 0 ≤ (a2_1 : Int) := Zc pa
              have q268 : a2_1 < (l0.length : Int) := Zc pa
              obtain ⟨ad268, A268_0, c268_0, e268, hx268_0, hx268_1, hx268_2, hx268_3, hl268_0, hi268_0⟩ := eZ HR0.out a2_1 p268 q268
              cases e268
              replace hx268_0 := pc HB.out hx268_0; replace hx268_1 := pc HB.out hx268_1; replace hx268_2 := pc HB.out hx268_2; replace hx268_3 := pc HB.out hx268_3; have HR268_0 := aa.mk hi268_0; have HC268_0 := aa.mk hl268_0; clear hi268_0 hl268_0; replace p268 := eq_true p268; replace q268 := eq_true q268; have H := HH_.out; clear HH_
              by_cases c53 : ((au l0 a2_1).f2) = a2_2
              ·rw [if_pos c53] at H; obtain ⟨c53b0, c53b1⟩ := eqs c53; clear c53; have HH_ := aa.mk H; clear H; have H := HH_.out; clear HH_
               by_cases c54 : ((au l0 a2_1).f2) ≥ 0
               ·rw [if_pos c54] at H; have c54b0 : decide (0 ≤ ((au l0 a2_1).f2)) = true := Za c54; clear c54; obtain rfl := Zg H; go_wp2; go_ret; exact ⟨pe, bl⟩
               ·rw [if_neg c54] at H; have c54b0 : decide (0 ≤ ((au l0 a2_1).f2)) = false := Zb c54; clear c54; obtain rfl := Zg H; go_wp2; go_ret; exact ⟨pe, bl⟩
              ·rw [if_neg c53] at H; obtain ⟨c53b0, c53b1⟩ := eqf c53; obtain rfl := Zg H; go_wp2; go_ret; exact ⟨pe, bl⟩
           ·rw [if_neg c44] at H; obtain ⟨c44b0, c44b1⟩ := eqf c44
            by_cases c61 : a2_0 = 20
            ·rw [if_pos c61] at H; obtain ⟨c61b0, c61b1⟩ := eqs c61; clear c61; have HH_ := aa.mk H; clear H; have hnb63 := NB262_263.out; have hnc63 := NB263_262.out; have hcz64_0 : wc.cell? ⟨gb262, 0, none⟩ = some (.slice A1_0 l1_0.length c1_0) := (ae BK262.out 0).trans rfl; have hcz64_1 : wc.cell? ⟨gb262, 1, none⟩ = some (.int .i64 a1_1) := (ae BK262.out 1).trans rfl; have hcz64_2 : wc.cell? ⟨gb262, 2, none⟩ = some (.int .i64 a1_2) := (ae BK262.out 2).trans rfl; have H := HH_.out; clear HH_
             by_cases c62 : a1_3 = true
             ·subst c62; rw [if_pos rfl] at H; obtain rfl := Zg H; have hcz64_3 : wc.cell? ⟨gb262, 3, none⟩ = some (.bool true) := (ae BK262.out 3).trans rfl; have hfz64_0 := ai BK262.out 0; have hfz64_1 := ai BK262.out 1; have hfz64_2 := ai BK262.out 2; have hfz64_3 := ai BK262.out 3; obtain ⟨hcz65_0, hcz65_1, hcz65_2, hfz65_0, hfz65_1, hfz65_2⟩ := bc3 BK263.out; go_wp2; go_ret; exact ⟨pe, bl⟩
             ·replace c62 := Zj c62; subst c62; rw [if_neg (show ¬ (false = true) by decide)] at H; obtain rfl := Zg H; have hcz67_3 : wc.cell? ⟨gb262, 3, none⟩ = some (.bool false) := (ae BK262.out 3).trans rfl; have hfz67_0 := ai BK262.out 0; have hfz67_1 := ai BK262.out 1; have hfz67_2 := ai BK262.out 2; have hfz67_3 := ai BK262.out 3; obtain ⟨hcz68_0, hcz68_1, hcz68_2, hfz68_0, hfz68_1, hfz68_2⟩ := bc3 BK263.out; go_wp2; go_ret; exact ⟨pe, bl⟩
            ·rw [if_neg c61] at H; obtain ⟨c61b0, c61b1⟩ := eqf c61
             by_cases c69 : a2_0 = 24
             ·rw [if_pos c69] at H; obtain ⟨c69b0, c69b1⟩ := eqs c69; clear c69; have HH_ := aa.mk H; clear H; have hnb72 := NB263_262.out; have hnc72 := NB262_263.out; obtain ⟨hcz73_0, hcz73_1, hcz73_2, hfz73_0, hfz73_1, hfz73_2⟩ := bc3 BK263.out; have H := HH_.out; clear HH_
              by_cases c70 : a2_1 ≥ 0
              ·rw [if_pos c70] at H; have c70b0 : decide (0 ≤ a2_1) = true := Za c70; clear c70; have HH_ := aa.mk H; clear H; have H := HH_.out; clear HH_
               by_cases c71 : a2_2 ≥ 1
               ·rw [if_pos c71] at H; have c71b0 : decide (1 ≤ a2_2) = true := Za c71; clear c71; obtain rfl := Zg H; go_wp2; go_ret; exact ⟨pe, bl⟩
               ·rw [if_neg c71] at H; have c71b0 : decide (1 ≤ a2_2) = false := Zb c71; clear c71; obtain rfl := Zg H; go_wp2; go_ret; exact ⟨pe, bl⟩
              ·rw [if_neg c70] at H; have c70b0 : decide (0 ≤ a2_1) = false := Zb c70; clear c70; obtain rfl := Zg H; go_wp2; go_ret; exact ⟨pe, bl⟩
             ·rw [if_neg c69] at H; obtain ⟨c69b0, c69b1⟩ := eqf c69; obtain rfl := Zg H; go_wp2; go_ret; exact ⟨pe, bl⟩
 ·rw [if_neg c5] at H; obtain ⟨c5b0, c5b1⟩ := eqf c5; obtain rfl := Zg H; go_enter Tryd.func82, Tryd.ntmps82
  go_wp2_with (first | ((with_reducible refine aY (N := 4) rfl ?_); (try (refine aH (by rfl) ?_; dsimp only)); refine bx 4 #[.slice A1_0 l1_0.length c1_0, .int .i64 a1_1, .int .i64 a1_2, .bool a1_3] 46 ?_; intro gb262 hg w78 hbox hb; have n_ := an4 (aj bl hb) (hbox) (bg hg) (bg hg); clear HB; obtain ⟨HB, BK262, GW262, GE262⟩ := n_; clear hb hbox hg) | ((with_reducible refine aY (N := 5) rfl ?_); (try (refine aH (by rfl) ?_; dsimp only)); refine bx 5 #[.int .i64 a2_0, .int .i64 a2_1, .int .i64 a2_2] 43 ?_; intro gb263 hg w79 hbox hb; have n_ := an7 (bu BK262.out hb) (aj bl hb) (hbox) (bg hg) (bg hg) ((by rw [hg]; exact Nat.ne_of_lt (bF (g := gb262) (o := .cells #[.slice A1_0 l1_0.length c1_0, .int .i64 a1_1, .int .i64 a1_2, .bool a1_3] 46 (0, 0)) bk) : gb262 ≠ gb263)) ((by rw [hg]; exact Nat.ne_of_gt (bF (g := gb262) (o := .cells #[.slice A1_0 l1_0.length c1_0, .int .i64 a1_1, .int .i64 a1_2, .bool a1_3] 46 (0, 0)) bk) : gb263 ≠ gb262)); clear BK262 HB; obtain ⟨BK262, HB, BK263, GW263, GE263, NB262_263, NB263_262⟩ := n_; clear hb hbox hg; have hnb80 := NB263_262.out; have hnc80 := NB262_263.out; obtain ⟨hcz81_0, hcz81_1, hcz81_2⟩ := bd3 BK263.out; have hfz81_0 := ai BK263.out 0; have hfz81_1 := ai BK263.out 1; have hfz81_2 := ai BK263.out 2) | ((with_reducible refine ah (f := 87) rfl ?_); refine gl 13 Tryd.func87 #[.agg #[.int .i64 a2_0, .int .i64 a2_1, .int .i64 a2_2]] ?_; (with_reducible refine (aX.calls k a2_0 a2_1 a2_2 t264 t265 _ A4.out).mono ?_); rintro e w82 ⟨rfl, hb⟩; refine ⟨_, rfl, ?_⟩; have n_ := an3 (bu BK262.out hb) (bu BK263.out hb) (aj bl hb); clear BK262 BK263 HB; obtain ⟨BK262, BK263, HB⟩ := n_; (try clear hb)))
  go_ret; exact ⟨pe, bl⟩
end Go.Proofs.YthckiolgpgplpaaDoor.YD
