import Derived.Test.YthckiolgpgplpaaDoorPx3
import Derived.Test.YthckiolgpgplpaaDoorPx5
namespace Go.Proofs.YthckiolgpgplpaaDoor.YD
set_option maxHeartbeats 8000000
set_option maxRecDepth 100000
open Go.RowKit YC YA YB
attribute [local go_sem] eF eD fD fE dS dU eG eO
set_option linter.unusedVariables false
set_option linter.unusedSimpArgs false
mutual
def ax.j0 : Nat → Bool → List (S46) → List (S43) → Int → Int → Bool → List (S43) → Int → Int → Bool → Option (Bool × List Int)
 | 0, _, _, _, _, _, _, _, _, _, _ => none
 | k + 1, x46, x157000, x157001, x157002, x157003, x157004, x158000, x158001, x158002, x158003 => if x46 = true then (some (false, ([] : List Int))) else (ax.l0 k x158000 (x158000.length : Int) 0 x157000 x157001 x157002 x157003 x157004)
def ax.l0 : Nat → List (S43) → Int → Int → List (S46) → List (S43) → Int → Int → Bool → Option (Bool × List Int)
 | 0, _, _, _, _, _, _, _, _ => none
 | k + 1, x48, x49, x50, x157000, x157001, x157002, x157003, x157004 => if x50 < x49 then (if 0 ≤ x50 then (if x50 < (x48.length : Int) then ((ay.f k x157000 ((az x48 x50).f0) ((az x48 x50).f1) ((az x48 x50).f2) x157001 x157002 x157003 x157004).bind fun t160 => (if t160 = true then (ax.l0 k x48 x49 (wrap64 (x50 + 1)) x157000 x157001 x157002 x157003 x157004) else (some (false, ([] : List Int))))) else (none)) else (none)) else ((ag.f k x157000 x157001 x157002 x157003 x157004).bind fun bt161 => (some (bt161.1, bt161.2)))
end
def ax.f (k : Nat) (l0 : List (S46)) (l1_0 : List (S43)) (a1_1 : Int) (a1_2 : Int) (a1_3 : Bool) : Option (Bool × List Int) := if (l1_0.length : Int) < 1 then (ax.j0 k true l0 l1_0 a1_1 a1_2 a1_3 l1_0 a1_1 a1_2 a1_3) else (if (l1_0.length : Int) > 65536 then (ax.j0 k true l0 l1_0 a1_1 a1_2 a1_3 l1_0 a1_1 a1_2 a1_3) else (if a1_1 < 0 then (ax.j0 k true l0 l1_0 a1_1 a1_2 a1_3 l1_0 a1_1 a1_2 a1_3) else (if a1_1 > 65536 then (ax.j0 k true l0 l1_0 a1_1 a1_2 a1_3 l1_0 a1_1 a1_2 a1_3) else (if a1_2 < 0 then (ax.j0 k true l0 l1_0 a1_1 a1_2 a1_3 l1_0 a1_1 a1_2 a1_3) else (if a1_2 > 8 then (ax.j0 k true l0 l1_0 a1_1 a1_2 a1_3 l1_0 a1_1 a1_2 a1_3) else (ax.j0 k (decide (a1_2 > a1_1)) l0 l1_0 a1_1 a1_2 a1_3 l1_0 a1_1 a1_2 a1_3))))))
theorem ax.fP : ∀ k, (∀ y0 y1 y2 y3 y4 y5 y6 y7 y8 y9, LeO (ax.j0 k y0 y1 y2 y3 y4 y5 y6 y7 y8 y9) (ax.j0 (k + 1) y0 y1 y2 y3 y4 y5 y6 y7 y8 y9)) ∧ (∀ y0 y1 y2 y3 y4 y5 y6 y7, LeO (ax.l0 k y0 y1 y2 y3 y4 y5 y6 y7) (ax.l0 (k + 1) y0 y1 y2 y3 y4 y5 y6 y7))
 | 0 => ⟨fun _ _ _ _ _ _ _ _ _ _ r h => by simp [ax.j0] at h, fun _ _ _ _ _ _ _ _ r h => by simp [ax.l0] at h⟩
 | k + 1 => by
  obtain ⟨ih0, ih1⟩ := ax.fP k
  refine ⟨?_, ?_⟩
  ·intro y0 y1 y2 y3 y4 y5 y6 y7 y8 y9
   unfold ax.j0
   repeat' (with_reducible first | apply ih0 | apply ih1 | apply ag.mono | apply ay.mono | exact LeO.refl _ | exact LeO.none _ | refine LeO.ite ?_ ?_ | refine LeO.bind ?_ (fun _ => ?_))
  ·intro y0 y1 y2 y3 y4 y5 y6 y7
   unfold ax.l0
   repeat' (with_reducible first | apply ih0 | apply ih1 | apply ag.mono | apply ay.mono | exact LeO.refl _ | exact LeO.none _ | refine LeO.ite ?_ ?_ | refine LeO.bind ?_ (fun _ => ?_))
theorem ax.mono : ∀ a0 a1 a2 a3 a4 k, LeO (ax.f k a0 a1 a2 a3 a4) (ax.f (k + 1) a0 a1 a2 a3 a4) := by
 intro a0 a1 a2 a3 a4 k
 obtain ⟨ih0, ih1⟩ := ax.fP k
 unfold ax.f
 repeat' (with_reducible first | apply ih0 | apply ih1 | apply ag.mono | apply ay.mono | exact LeO.refl _ | exact LeO.none _ | refine LeO.ite ?_ ?_ | refine LeO.bind ?_ (fun _ => ?_))
theorem ax.calls (k : Nat) (A0 : Option Addr) (c0 : Nat) (l0 : List (S46)) (A1_0 : Option Addr) (c1_0 : Nat) (l1_0 : List (S43)) (a1_1 : Int) (a1_2 : Int) (a1_3 : Bool) (r1 : Bool) (r2 : List Int) (gb156 : Nat) (w w4 : World) (hr0 : Kd.C k46 w A0 l0.length l0) (hc0 : l0.length ≤ c0) (hr1_0 : Kd.C k43 w A1_0 l1_0.length l1_0) (hc1_0 : l1_0.length ≤ c1_0) (hLd : Laid w) (hbox : w4.heap[gb156]? = some (.cells #[.slice A0 l0.length c0, .slice A1_0 l1_0.length c1_0, .int .i64 a1_1, .int .i64 a1_2, .bool a1_3, .slice none 0 0] 101 (0, 0))) (hb : Below w.heap.size w w4) (hge : w.heap.size ≤ gb156) (h : ax.f k l0 l1_0 a1_1 a1_2 a1_3 = some (r1, r2)) :
  Calls Tryd.prog 58 #[.pointer (some ⟨gb156, 0, none⟩)] w4 fun e w' => e = .returned (.bool r1) ∧ ∃ v1_ : Value, Kd.R (Kd.int .i64) 3 w' w.heap.size (fun _ => True) v1_ r2 ∧ Below w.heap.size w w' ∧ ∃ x0_ x1_ x2_ x3_ x4_ : Value, w'.heap[gb156]? = some (.cells #[x0_, x1_, x2_, x3_, x4_, v1_] 101 (0, 0)) := by
 have hu101 := Tryd.underlying101; have hu46 := Tryd.underlying46; have hu43 := Tryd.underlying43; have HR0 := aa.mk hr0; have HC0 := aa.mk hc0; clear hr0 hc0; have HR1_0 := aa.mk hr1_0; have HC1_0 := aa.mk hc1_0; clear hr1_0 hc1_0; have HLd := aa.mk hLd; clear hLd; have HB := aa.mk (Below.refl w.heap.size w); have H : (if (l1_0.length : Int) < 1 then (ax.j0 k true l0 l1_0 a1_1 a1_2 a1_3 l1_0 a1_1 a1_2 a1_3) else (if (l1_0.length : Int) > 65536 then (ax.j0 k true l0 l1_0 a1_1 a1_2 a1_3 l1_0 a1_1 a1_2 a1_3) else (if a1_1 < 0 then (ax.j0 k true l0 l1_0 a1_1 a1_2 a1_3 l1_0 a1_1 a1_2 a1_3) else (if a1_1 > 65536 then (ax.j0 k true l0 l1_0 a1_1 a1_2 a1_3 l1_0 a1_1 a1_2 a1_3) else (if a1_2 < 0 then (ax.j0 k true l0 l1_0 a1_1 a1_2 a1_3 l1_0 a1_1 a1_2 a1_3) else (if a1_2 > 8 then (ax.j0 k true l0 l1_0 a1_1 a1_2 a1_3 l1_0 a1_1 a1_2 a1_3) else (ax.j0 k (decide (a1_2 > a1_1)) l0 l1_0 a1_1 a1_2 a1_3 l1_0 a1_1 a1_2 a1_3))))))) = some (r1, r2) := h; clear h; have HC3 := aa.mk H; clear H; have n0_ := aa.mk hb; clear HB; have HB := n0_; clear n0_; have BK156 := aa.mk hbox; have GW156 := aa.mk hge; have GE156 := aa.mk hge; clear hb hbox hge; obtain ⟨hcz5_0, hcz5_1, hcz5_2, hcz5_3, hcz5_4, hcz5_5, hfz5_0, hfz5_1, hfz5_2, hfz5_3, hfz5_4, hfz5_5⟩ := bc6 BK156.out; go_enter Tryd.func58, Tryd.ntmps58
 go_upto_region 2 with (first | fail | ((with_reducible refine aY (N := 3) rfl ?_); (try (refine aH (by rfl) ?_; dsimp only)); refine bx 3 #[.slice none 0 0, .int .i64 0, .int .i64 0, .bool false] 46 ?_; intro gb157 hg w6 hbox hb; have n_ := an7 (bu BK156.out hb) (aj bl hb) (hbox) (bg hg) (bg hg) ((by rw [hg]; exact Nat.ne_of_lt (bF (g := gb156) (o := .cells #[.slice A0 l0.length c0, .slice A1_0 l1_0.length c1_0, .int .i64 a1_1, .int .i64 a1_2, .bool a1_3, .slice none 0 0] 101 (0, 0)) bk) : gb156 ≠ gb157)) ((by rw [hg]; exact Nat.ne_of_gt (bF (g := gb156) (o := .cells #[.slice A0 l0.length c0, .slice A1_0 l1_0.length c1_0, .int .i64 a1_1, .int .i64 a1_2, .bool a1_3, .slice none 0 0] 101 (0, 0)) bk) : gb157 ≠ gb156)); clear BK156 HB; obtain ⟨BK156, HB, BK157, GW157, GE157, NB156_157, NB157_156⟩ := n_; clear hb hbox hg; have hnb7 := NB157_156.out; have hnc7 := NB156_157.out; obtain ⟨hcz8_0, hcz8_1, hcz8_2, hcz8_3⟩ := bd4 BK157.out; have hfz8_0 := ai BK157.out 0; have hfz8_1 := ai BK157.out 1; have hfz8_2 := ai BK157.out 2; have hfz8_3 := ai BK157.out 3))
 (try simp only [Act.put, List.setIfInBounds_toArray, List.set_cons_zero, List.set_cons_succ])
 go_cut [46] (fun v46 wc => ∃ (kq : Nat) (x46_2 : Bool), v46 = .bool x46_2 ∧ aa (ax.j0 kq x46_2 l0 l1_0 a1_1 a1_2 a1_3 l1_0 a1_1 a1_2 a1_3 = some (r1, r2)) ∧ aa (kq ≤ k) ∧ aa (wc.heap[gb156]? = some (.cells #[(.slice A0 l0.length c0), (.slice A1_0 l1_0.length c1_0), .int .i64 a1_1, .int .i64 a1_2, .bool a1_3, (.slice none 0 0)] 101 (0, 0))) ∧ aa (wc.heap[gb157]? = some (.cells #[(.slice A1_0 l1_0.length c1_0), .int .i64 a1_1, .int .i64 a1_2, .bool a1_3] 46 (0, 0))) ∧ aa (Below w.heap.size w wc))
 case first =>
  have H := HC3.out; clear HC3
  by_cases c9 : (l1_0.length : Int) < 1
  ·rw [if_pos c9] at H; have c9b0 := Za c9; have c9b1 : decide (l1_0.length < 1) = true := Za (by omega); clear c9; (first | rw [c9b0] | (simp only [dI, dK]; rw [c9b0]) | skip); have H' := aa.mk H; clear H; have hnb10 := NB157_156.out; have hnc10 := NB156_157.out; obtain ⟨hcz11_0, hcz11_1, hcz11_2, hcz11_3, hfz11_0, hfz11_1, hfz11_2, hfz11_3⟩ := bc4 BK157.out; go_wp2; go_meet
   case rel => exact ⟨_, (true), pr, H', ⟨by first | omega | exact Zd _⟩, ⟨by (with_reducible repeat (first | refine bI ?_ _ | refine bD ?_ | refine bv ?_ _)); refine dF ?_ NB156_157.out _; exact bf3 (bq BK156.out) NB156_157.out⟩, ⟨by exact bp4 (bq BK157.out)⟩, ⟨bl⟩⟩
  ·rw [if_neg c9] at H; have c9b0 := Zb c9; have c9b1 : decide (l1_0.length < 1) = false := Zb (by omega); clear c9; (first | rw [c9b0] | (simp only [dI, dK]; rw [c9b0]) | skip); have HH_ := aa.mk H; clear H; have hnb13 := NB157_156.out; have hnc13 := NB156_157.out; obtain ⟨hcz14_0, hcz14_1, hcz14_2, hcz14_3, hfz14_0, hfz14_1, hfz14_2, hfz14_3⟩ := bc4 BK157.out; have H := HH_.out; clear HH_
   by_cases c12 : (l1_0.length : Int) > 65536
   ·rw [if_pos c12] at H; have c12b0 : decide (65536 < (l1_0.length : Int)) = true := Za c12; have c12b1 : decide (65536 < l1_0.length) = true := Za (by omega); clear c12; have H' := aa.mk H; clear H; go_wp2; go_meet
    case rel => exact ⟨_, (true), pr, H', ⟨by first | omega | exact Zd _⟩, ⟨by (with_reducible repeat (first | refine bI ?_ _ | refine bD ?_ | refine bv ?_ _)); refine dF ?_ NB156_157.out _; exact bf3 (bq BK156.out) NB156_157.out⟩, ⟨by exact bp4 (bq BK157.out)⟩, ⟨bl⟩⟩
   ·rw [if_neg c12] at H; have c12b0 : decide (65536 < (l1_0.length : Int)) = false := Zb c12; have c12b1 : decide (65536 < l1_0.length) = false := Zb (by omega); clear c12; have HH_ := aa.mk H; clear H; have H := HH_.out; clear HH_
    by_cases c15 : a1_1 < 0
    ·rw [if_pos c15] at H; have c15b0 := Za c15; clear c15; have H' := aa.mk H; clear H; go_wp2; go_meet
     case rel => exact ⟨_, (true), pr, H', ⟨by first | omega | exact Zd _⟩, ⟨by (with_reducible repeat (first | refine bI ?_ _ | refine bD ?_ | refine bv ?_ _)); refine dF ?_ NB156_157.out _; exact bf3 (bq BK156.out) NB156_157.out⟩, ⟨by exact bp4 (bq BK157.out)⟩, ⟨bl⟩⟩
    ·rw [if_neg c15] at H; have c15b0 := Zb c15; clear c15; have HH_ := aa.mk H; clear H; have H := HH_.out; clear HH_
     by_cases c18 : a1_1 > 65536
     ·rw [if_pos c18] at H; have c18b0 : decide (65536 < a1_1) = true := Za c18; clear c18; have H' := aa.mk H; clear H; go_wp2; go_meet
      case rel => exact ⟨_, (true), pr, H', ⟨by first | omega | exact Zd _⟩, ⟨by (with_reducible repeat (first | refine bI ?_ _ | refine bD ?_ | refine bv ?_ _)); refine dF ?_ NB156_157.out _; exact bf3 (bq BK156.out) NB156_157.out⟩, ⟨by exact bp4 (bq BK157.out)⟩, ⟨bl⟩⟩
     ·rw [if_neg c18] at H; have c18b0 : decide (65536 < a1_1) = false := Zb c18; clear c18; have HH_ := aa.mk H; clear H; have H := HH_.out; clear HH_
      by_cases c21 : a1_2 < 0
      ·rw [if_pos c21] at H; have c21b0 := Za c21; clear c21; have H' := aa.mk H; clear H; go_wp2; go_meet
       case rel => exact ⟨_, (true), pr, H', ⟨by first | omega | exact Zd _⟩, ⟨by (with_reducible repeat (first | refine bI ?_ _ | refine bD ?_ | refine bv ?_ _)); refine dF ?_ NB156_157.out _; exact bf3 (bq BK156.out) NB156_157.out⟩, ⟨by exact bp4 (bq BK157.out)⟩, ⟨bl⟩⟩
      ·rw [if_neg c21] at H; have c21b0 := Zb c21; clear c21; have HH_ := aa.mk H; clear H; have H := HH_.out; clear HH_
       by_cases c24 : a1_2 > 8
       ·rw [if_pos c24] at H; have c24b0 : decide (8 < a1_2) = true := Za c24; clear c24; have H' := aa.mk H; clear H; go_wp2; go_meet
        case rel => exact ⟨_, (true), pr, H', ⟨by first | omega | exact Zd _⟩, ⟨by (with_reducible repeat (first | refine bI ?_ _ | refine bD ?_ | refine bv ?_ _)); refine dF ?_ NB156_157.out _; exact bf3 (bq BK156.out) NB156_157.out⟩, ⟨by exact bp4 (bq BK157.out)⟩, ⟨bl⟩⟩
       ·rw [if_neg c24] at H; have c24b0 : decide (8 < a1_2) = false := Zb c24; clear c24; have H' := aa.mk H; clear H; go_wp2; go_meet
        case rel => exact ⟨_, (decide (a1_2 > a1_1)), pr, H', ⟨by first | omega | exact Zd _⟩, ⟨by (with_reducible repeat (first | refine bI ?_ _ | refine bD ?_ | refine bv ?_ _)); refine dF ?_ NB156_157.out _; exact bf3 (bq BK156.out) NB156_157.out⟩, ⟨by exact bp4 (bq BK157.out)⟩, ⟨bl⟩⟩
 case rest =>
  clear HC3; (try clear hcz5_0); (try clear hcz5_1); (try clear hcz5_2); (try clear hcz5_3); (try clear hcz5_4); (try clear hcz5_5); (try clear hcz8_0); (try clear hcz8_1); (try clear hcz8_2); (try clear hcz8_3); (try clear hfz5_0); (try clear hfz5_1); (try clear hfz5_2); (try clear hfz5_3); (try clear hfz5_4); (try clear hfz5_5); (try clear hfz8_0); (try clear hfz8_1); (try clear hfz8_2); (try clear hfz8_3); obtain ⟨kq, x46_2, rfl, HA, HJ2, BK156, BK157, HB⟩ := hcut
  cases kq with
  | zero => exact absurd HA.out (by simp [ax.j0])
  | succ kj2 =>
   have H := HA.out; clear HA; simp only [ax.j0] at H
   by_cases c29 : x46_2 = true
   ·subst c29; rw [if_pos rfl] at H; simp only [Zl, Zm] at H; obtain ⟨rfl, rfl⟩ := H; have hnb30 := NB156_157.out; have hnc30 := NB157_156.out; obtain ⟨hcz31_0, hcz31_1, hcz31_2, hcz31_3, hcz31_4, hcz31_5, hfz31_0, hfz31_1, hfz31_2, hfz31_3, hfz31_4, hfz31_5⟩ := bc6 BK156.out; go_wp2; go_ret; exact ⟨pe, _, pn, bl, _, _, _, _, _, bk⟩
   ·replace c29 := Zj c29; subst c29; rw [if_neg (show ¬ (false = true) by decide)] at H; have H' := aa.mk H; clear H; have hnb32 := NB157_156.out; have hnc32 := NB156_157.out; obtain ⟨hcz33_0, hcz33_1, hcz33_2, hcz33_3, hfz33_0, hfz33_1, hfz33_2, hfz33_3⟩ := bc4 BK157.out; go_wp2
    go_loopg [50] kj2 (fun kq v50 w' => ∃ (x50_2 : Int), v50 = .int .i64 x50_2 ∧ aa (ax.l0 kq l1_0 (l1_0.length : Int) x50_2 l0 l1_0 a1_1 a1_2 a1_3 = some (r1, r2)) ∧ aa (kq ≤ kj2) ∧ aa (w'.heap[gb156]? = some (.cells #[(.slice A0 l0.length c0), (.slice A1_0 l1_0.length c1_0), .int .i64 a1_1, .int .i64 a1_2, .bool a1_3, (.slice none 0 0)] 101 (0, 0))) ∧ aa (w'.heap[gb157]? = some (.cells #[(.slice A1_0 l1_0.length c1_0), .int .i64 a1_1, .int .i64 a1_2, .bool a1_3] 46 (0, 0))) ∧ aa (Below w.heap.size w w'))
    case atStart => exact ⟨(0), pr, H', ⟨Zd _⟩, ⟨bk⟩, ⟨bk⟩, ⟨bl⟩⟩
    case round =>
     clear H'; (try clear hcz33_0); (try clear hcz33_1); (try clear hcz33_2); (try clear hcz33_3); (try clear hfz33_0); (try clear hfz33_1); (try clear hfz33_2); (try clear hfz33_3); obtain ⟨x50_2, rfl, HA, HK2, BK156, BK157, HB⟩ := hrel
     cases gk with
     | zero => exact absurd HA.out (by simp [ax.l0])
     | succ k2 =>
      have H := HA.out; clear HA; simp only [ax.l0] at H
      by_cases c34 : x50_2 < (l1_0.length : Int)
      ·rw [if_pos c34] at H; have c34b0 := Za c34; clear c34
       replace H := it (c := 0 ≤ x50_2) H; obtain ⟨c35, H⟩ := H; have c35b0 := Za c35; clear c35
       replace H := it (c := x50_2 < (l1_0.length : Int)) H; obtain ⟨c36, H⟩ := H; have c36b0 := Za c36; clear c36; replace H := ob H; obtain ⟨t160, A37, H⟩ := H; have HH_ := aa.mk H; clear H
       have p158 : 0 ≤ (x50_2 : Int) := Zc pa
       have q158 : x50_2 < (l1_0.length : Int) := Zc pa
       obtain ⟨ad158, e158, hx158_0, hx158_1, hx158_2⟩ := jW HR1_0.out x50_2 p158 q158
       cases e158
       replace hx158_0 := pc HB.out hx158_0; replace hx158_1 := pc HB.out hx158_1; replace hx158_2 := pc HB.out hx158_2; replace p158 := eq_true p158; replace q158 := eq_true q158
       go_wp2_with (first | ((with_reducible refine aY (N := 5) rfl ?_); (try (refine aH (by rfl) ?_; dsimp only)); refine bx 5 #[.int .i64 0, .int .i64 0, .int .i64 0] 43 ?_; intro gb159 hg w39 hbox hb; have n_ := an10 (bu BK156.out hb) (bu BK157.out hb) (aj bl hb) (hbox) (bg hg) (bg hg) ((by rw [hg]; exact Nat.ne_of_lt (bF (g := gb156) (o := .cells #[.slice A0 l0.length c0, .slice (some ad158) l1_0.length c1_0, .int .i64 a1_1, .int .i64 a1_2, .bool a1_3, .slice none 0 0] 101 (0, 0)) bk) : gb156 ≠ gb159)) ((by rw [hg]; exact Nat.ne_of_gt (bF (g := gb156) (o := .cells #[.slice A0 l0.length c0, .slice (some ad158) l1_0.length c1_0, .int .i64 a1_1, .int .i64 a1_2, .bool a1_3, .slice none 0 0] 101 (0, 0)) bk) : gb159 ≠ gb156)) ((by rw [hg]; exact Nat.ne_of_lt (bF (g := gb157) (o := .cells #[.slice (some ad158) l1_0.length c1_0, .int .i64 a1_1, .int .i64 a1_2, .bool a1_3] 46 (0, 0)) bk) : gb157 ≠ gb159)) ((by rw [hg]; exact Nat.ne_of_gt (bF (g := gb157) (o := .cells #[.slice (some ad158) l1_0.length c1_0, .int .i64 a1_1, .int .i64 a1_2, .bool a1_3] 46 (0, 0)) bk) : gb159 ≠ gb157)); clear BK156 BK157 HB; obtain ⟨BK156, BK157, HB, BK159, GW159, GE159, NB156_159, NB159_156, NB157_159, NB159_157⟩ := n_; clear hb hbox hg; have hnb40 := NB159_156.out; have hnc40 := NB156_159.out; have hnb41 := NB159_157.out; have hnc41 := NB157_159.out; obtain ⟨hcz42_0, hcz42_1, hcz42_2, hfz42_0, hfz42_1, hfz42_2⟩ := bc3 BK159.out; have hnb43 := NB156_157.out; have hnc43 := NB157_156.out; obtain ⟨hcz44_0, hcz44_1, hcz44_2, hcz44_3, hcz44_4, hcz44_5, hfz44_0, hfz44_1, hfz44_2, hfz44_3, hfz44_4, hfz44_5⟩ := bc6 BK156.out; refine ?roundEnd))
       case roundEnd =>
        have H := HH_.out; clear HH_
        by_cases c38 : t160 = true
        ·subst c38; rw [if_pos rfl] at H; have H' := aa.mk H; clear H
         go_wp2_with (first | ((with_reducible refine ah (f := 74) rfl ?_); refine gl 56 Tryd.func74 #[.pointer (some ⟨gb156, 0, none⟩), .agg #[.int .i64 ((az l1_0 x50_2).f0), .int .i64 ((az l1_0 x50_2).f1), .int .i64 ((az l1_0 x50_2).f2)]] ?_; (with_reducible refine (ay.calls gb156 k2 A0 c0 l0 ((az l1_0 x50_2).f0) ((az l1_0 x50_2).f1) ((az l1_0 x50_2).f2) (some ad158) c1_0 l1_0 a1_1 a1_2 a1_3 true _ ?side1 ?side2 ?side3 ?side4 ?side5 ?sideB A37.out).mono ?_); (case side1 => exact Kd.dO HR0.out bl); (case side2 => exact HC0.out); (case side3 => exact Kd.dO HR1_0.out bl); (case side4 => exact HC1_0.out); (case side5 => exact Laid.below HLd.out bl); (case sideB => exact (by exact bf3 (bq BK156.out) NB156_159.out)); rintro e w45 ⟨rfl, hb⟩; refine ⟨_, rfl, ?_⟩; have n_ := an4 (cB (g := gb156) (o := .cells #[.slice A0 l0.length c0, .slice (some ad158) l1_0.length c1_0, .int .i64 a1_1, .int .i64 a1_2, .bool a1_3, .slice none 0 0] 101 (0, 0)) (by exact bf3 (bq BK156.out) NB156_159.out) hb) (cB (g := gb157) (o := .cells #[.slice (some ad158) l1_0.length c1_0, .int .i64 a1_1, .int .i64 a1_2, .bool a1_3] 46 (0, 0)) (by exact bf3 (bq BK157.out) NB157_159.out) hb) (cB (g := gb159) (o := .cells #[.int .i64 ((az l1_0 x50_2).f0), .int .i64 ((az l1_0 x50_2).f1), .int .i64 ((az l1_0 x50_2).f2)] 43 (0, 0)) (by exact bp3 (bq BK159.out)) hb) (aj bl hb); clear BK156 BK157 BK159 HB; obtain ⟨BK156, BK157, BK159, HB⟩ := n_; (try clear hb)))
         go_roundg k2
         case measure => have := HJ2.out; have := HK2.out; omega
         case rel => exact ⟨(wrap64 (x50_2 + 1)), pr, H', ⟨by have := HJ2.out; have := HK2.out; omega⟩, ⟨bk⟩, ⟨bk⟩, ⟨bl⟩⟩
        ·replace c38 := Zj c38; subst c38; rw [if_neg (show ¬ (false = true) by decide)] at H; simp only [Zl, Zm] at H; obtain ⟨rfl, rfl⟩ := H
         go_wp2_with (first | ((with_reducible refine ah (f := 74) rfl ?_); refine gl 56 Tryd.func74 #[.pointer (some ⟨gb156, 0, none⟩), .agg #[.int .i64 ((az l1_0 x50_2).f0), .int .i64 ((az l1_0 x50_2).f1), .int .i64 ((az l1_0 x50_2).f2)]] ?_; (with_reducible refine (ay.calls gb156 k2 A0 c0 l0 ((az l1_0 x50_2).f0) ((az l1_0 x50_2).f1) ((az l1_0 x50_2).f2) (some ad158) c1_0 l1_0 a1_1 a1_2 a1_3 false _ ?side1 ?side2 ?side3 ?side4 ?side5 ?sideB A37.out).mono ?_); (case side1 => exact Kd.dO HR0.out bl); (case side2 => exact HC0.out); (case side3 => exact Kd.dO HR1_0.out bl); (case side4 => exact HC1_0.out); (case side5 => exact Laid.below HLd.out bl); (case sideB => exact (by exact bf3 (bq BK156.out) NB156_159.out)); rintro e w52 ⟨rfl, hb⟩; refine ⟨_, rfl, ?_⟩; have n_ := an4 (cB (g := gb156) (o := .cells #[.slice A0 l0.length c0, .slice (some ad158) l1_0.length c1_0, .int .i64 a1_1, .int .i64 a1_2, .bool a1_3, .slice none 0 0] 101 (0, 0)) (by exact bf3 (bq BK156.out) NB156_159.out) hb) (cB (g := gb157) (o := .cells #[.slice (some ad158) l1_0.length c1_0, .int .i64 a1_1, .int .i64 a1_2, .bool a1_3] 46 (0, 0)) (by exact bf3 (bq BK157.out) NB157_159.out) hb) (cB (g := gb159) (o := .cells #[.int .i64 ((az l1_0 x50_2).f0), .int .i64 ((az l1_0 x50_2).f1), .int .i64 ((az l1_0 x50_2).f2)] 43 (0, 0)) (by exact bp3 (bq BK159.out)) hb) (aj bl hb); clear BK156 BK157 BK159 HB; obtain ⟨BK156, BK157, BK159, HB⟩ := n_; (try clear hb); obtain ⟨hcz53_0, hcz53_1, hcz53_2, hcz53_3, hcz53_4, hcz53_5⟩ := bd6 BK156.out; have hfz53_0 := ai BK156.out 0; have hfz53_1 := ai BK156.out 1; have hfz53_2 := ai BK156.out 2; have hfz53_3 := ai BK156.out 3; have hfz53_4 := ai BK156.out 4; have hfz53_5 := ai BK156.out 5))
         go_ret; exact ⟨pe, _, pn, bl, _, _, _, _, _, bk⟩
      ·rw [if_neg c34] at H; have c34b0 := Zb c34; clear c34; replace H := ob H; obtain ⟨⟨t161, t162⟩, A54, H⟩ := H; simp only [Zl, Zm] at H; obtain ⟨rfl, rfl⟩ := H; have hnb55 := NB156_157.out; have hnc55 := NB157_156.out; obtain ⟨hcz56_0, hcz56_1, hcz56_2, hcz56_3, hcz56_4, hcz56_5, hfz56_0, hfz56_1, hfz56_2, hfz56_3, hfz56_4, hfz56_5⟩ := bc6 BK156.out
       go_wp2_with (first | ((with_reducible refine ah (f := 75) rfl ?_); refine gl 60 Tryd.func75 #[.pointer (some ⟨gb156, 0, none⟩)] ?_; (with_reducible refine (ag.calls k2 A0 c0 l0 A1_0 c1_0 l1_0 a1_1 a1_2 a1_3 t161 t162 gb156 w _ ?side1 ?side2 ?side3 ?side4 ?side5 ?sideB ?sideC ?sideD A54.out).mono ?_); (case side1 => exact HR0.out); (case side2 => exact HC0.out); (case side3 => exact HR1_0.out); (case side4 => exact HC1_0.out); (case side5 => exact HLd.out); (case sideB => exact bk); (case sideC => exact bl); (case sideD => exact GE156.out); rintro e w57 ⟨rfl, v163, ho0, hb, x0_, x1_, x2_, x3_, x4_, hbx⟩; refine ⟨_, rfl, ?_⟩; have n0_ := aa.mk ho0; have n1_ := aa.mk hbx; have n2_ := aa.mk hb; clear BK156 BK157 HB; have HO164 := n0_; have BK156 := n1_; have HB := n2_; clear n0_ n1_ n2_; clear hb hbx; (try clear ho0)))
       go_ret; exact ⟨pe, _, bR HO164.out, bl, _, _, _, _, _, bk⟩
def bK.j0 : Nat → List (S46) → Int → Bool → Option (List Int × Bool)
 | 0, _, _, _ => none
 | k + 1, x0, x1, x14 => if x14 = true then (some (([] : List Int), false)) else (if 0 ≤ x1 then (if x1 < (x0.length : Int) then ((ax.f k x0 ((au x0 x1).f0) ((au x0 x1).f1) ((au x0 x1).f2) ((au x0 x1).f3)).bind fun bt167 => (if bt167.1 = true then (some (bt167.2, true)) else (some (([] : List Int), false)))) else (none)) else (none))
def bK.f (k : Nat) (l0 : List (S46)) (a1 : Int) : Option (List Int × Bool) := if a1 < 0 then (bK.j0 k l0 a1 true) else (bK.j0 k l0 a1 (decide (a1 ≥ (l0.length : Int))))
theorem bK.fP : ∀ k, (∀ y0 y1 y2, LeO (bK.j0 k y0 y1 y2) (bK.j0 (k + 1) y0 y1 y2))
 | 0 => fun _ _ _ r h => by simp [bK.j0] at h
 | k + 1 => by
  have ih0 := bK.fP k
  ·intro y0 y1 y2
   unfold bK.j0
   repeat' (with_reducible first | apply ih0 | apply ax.mono | exact LeO.refl _ | exact LeO.none _ | refine LeO.ite ?_ ?_ | refine LeO.bind ?_ (fun _ => ?_))
theorem bK.mono : ∀ a0 a1 k, LeO (bK.f k a0 a1) (bK.f (k + 1) a0 a1) := by
 intro a0 a1 k
 have ih0 := bK.fP k
 unfold bK.f
 repeat' (with_reducible first | apply ih0 | apply ax.mono | exact LeO.refl _ | exact LeO.none _ | refine LeO.ite ?_ ?_ | refine LeO.bind ?_ (fun _ => ?_))
theorem bK.calls (k : Nat) (A0 : Option Addr) (c0 : Nat) (l0 : List (S46)) (a1 : Int) (r1 : List Int) (r2 : Bool) (w : World) (hr0 : Kd.C k46 w A0 l0.length l0) (hc0 : l0.length ≤ c0) (hLd : Laid w) (h : bK.f k l0 a1 = some (r1, r2)) :
  Calls Tryd.prog 49 #[.slice A0 l0.length c0, .int .i64 a1] w fun e w' => ∃ v0_ : Value, e = .returned (.tuple #[v0_, .bool r2]) ∧ Kd.R (Kd.int .i64) 3 w' w.heap.size (fun _ => True) v0_ r1 ∧ Below w.heap.size w w' := by
 have hu46 := Tryd.underlying46; have hu101 := Tryd.underlying101; have HR0 := aa.mk hr0; have HC0 := aa.mk hc0; clear hr0 hc0; have HLd := aa.mk hLd; clear hLd; have HB := aa.mk (Below.refl w.heap.size w); have H : (if a1 < 0 then (bK.j0 k l0 a1 true) else (bK.j0 k l0 a1 (decide (a1 ≥ (l0.length : Int))))) = some (r1, r2) := h; clear h; have HC3 := aa.mk H; clear H; go_enter Tryd.func49, Tryd.ntmps49
 go_upto_region 1 with (fail)
 go_cut [14] (fun v14 wc => ∃ (kq : Nat) (x14_2 : Bool), v14 = .bool x14_2 ∧ aa (bK.j0 kq l0 a1 x14_2 = some (r1, r2)) ∧ aa (kq ≤ k) ∧ aa (Below w.heap.size w wc))
 case first =>
  have H := HC3.out; clear HC3
  by_cases c4 : a1 < 0
  ·rw [if_pos c4] at H; have c4b0 := Za c4; clear c4; (first | rw [c4b0] | (simp only [dI, dK]; rw [c4b0]) | skip); have H' := aa.mk H; clear H; go_wp2; go_meet
   case rel => exact ⟨_, (true), pr, H', ⟨by first | omega | exact Zd _⟩, ⟨bl⟩⟩
  ·rw [if_neg c4] at H; have c4b0 := Zb c4; clear c4; (first | rw [c4b0] | (simp only [dI, dK]; rw [c4b0]) | skip); have H' := aa.mk H; clear H; go_wp2; go_meet
   case rel => exact ⟨_, (decide (a1 ≥ (l0.length : Int))), pr, H', ⟨by first | omega | exact Zd _⟩, ⟨bl⟩⟩
 case rest =>
  clear HC3; obtain ⟨kq, x14_2, rfl, HA, HJ2, HB⟩ := hcut
  cases kq with
  | zero => exact absurd HA.out (by simp [bK.j0])
  | succ kj2 =>
   have H := HA.out; clear HA; simp only [bK.j0] at H
   by_cases c5 : x14_2 = true
   ·subst c5; rw [if_pos rfl] at H; simp only [Zl, Zm] at H; obtain ⟨rfl, rfl⟩ := H; go_wp2; go_ret2; exact ⟨_, pe, pn, bl⟩
   ·replace c5 := Zj c5; subst c5; rw [if_neg (show ¬ (false = true) by decide)] at H
    replace H := it (c := 0 ≤ a1) H; obtain ⟨c6, H⟩ := H; have c6b0 := Za c6; clear c6
    replace H := it (c := a1 < (l0.length : Int)) H; obtain ⟨c7, H⟩ := H; have c7b0 := Za c7; clear c7; replace H := ob H; obtain ⟨⟨t167, t168⟩, A8, H⟩ := H; have HH_ := aa.mk H; clear H
    have p165 : 0 ≤ (a1 : Int) := Zc pa
    have q165 : a1 < (l0.length : Int) := Zc pa
    obtain ⟨ad165, A165_0, c165_0, e165, hx165_0, hx165_1, hx165_2, hx165_3, hl165_0, hi165_0⟩ := eZ HR0.out a1 p165 q165
    cases e165
    replace hx165_0 := pc HB.out hx165_0; replace hx165_1 := pc HB.out hx165_1; replace hx165_2 := pc HB.out hx165_2; replace hx165_3 := pc HB.out hx165_3; have HR165_0 := aa.mk hi165_0; have HC165_0 := aa.mk hl165_0; clear hi165_0 hl165_0; replace p165 := eq_true p165; replace q165 := eq_true q165
    go_wp2_with (first | ((with_reducible refine aY (N := 21) rfl ?_); (try (refine aH (by rfl) ?_; dsimp only)); refine bx 21 #[.slice (some ad165) l0.length c0, .slice A165_0 ((au l0 a1).f0).length c165_0, .int .i64 ((au l0 a1).f1), .int .i64 ((au l0 a1).f2), .bool ((au l0 a1).f3), .slice none 0 0] 101 ?_; intro gb166 hg w10 hbox hb; have n_ := an4 (aj bl hb) (hbox) (bg hg) (bg hg); clear HB; obtain ⟨HB, BK166, GW166, GE166⟩ := n_; clear hb hbox hg; obtain ⟨hcz11_0, hcz11_1, hcz11_2, hcz11_3, hcz11_4, hcz11_5, hfz11_0, hfz11_1, hfz11_2, hfz11_3, hfz11_4, hfz11_5⟩ := bc6 BK166.out; refine ?roundEnd))
    case roundEnd =>
     have H := HH_.out; clear HH_
     by_cases c9 : t167 = true
     ·subst c9; rw [if_pos rfl] at H; simp only [Zl, Zm] at H; obtain ⟨rfl, rfl⟩ := H
      go_wp2_with (first | ((with_reducible refine ah (f := 58) rfl ?_); refine gl 23 Tryd.func58 #[.pointer (some ⟨gb166, 0, none⟩)] ?_; (with_reducible refine (ax.calls kj2 (some ad165) c0 l0 A165_0 c165_0 ((au l0 a1).f0) ((au l0 a1).f1) ((au l0 a1).f2) ((au l0 a1).f3) true t168 gb166 w _ ?side1 ?side2 ?side3 ?side4 ?side5 ?sideB ?sideC ?sideD A8.out).mono ?_); (case side1 => exact HR0.out); (case side2 => exact HC0.out); (case side3 => exact HR165_0.out); (case side4 => exact HC165_0.out); (case side5 => exact HLd.out); (case sideB => exact bk); (case sideC => exact bl); (case sideD => exact GE166.out); rintro e w12 ⟨rfl, v169, ho0, hb, x0_, x1_, x2_, x3_, x4_, hbx⟩; refine ⟨_, rfl, ?_⟩; have n0_ := aa.mk ho0; have n1_ := aa.mk hbx; have n2_ := aa.mk hb; clear BK166 HB; have HO170 := n0_; have BK166 := n1_; have HB := n2_; clear n0_ n1_ n2_; clear hb hbx; (try clear ho0); obtain ⟨Ao13, co13, eo13⟩ := Kd.dh HO170.out; subst eo13; obtain ⟨hcz14_0, hcz14_1, hcz14_2, hcz14_3, hcz14_4, hcz14_5⟩ := bd6 BK166.out; have hfz14_0 := ai BK166.out 0; have hfz14_1 := ai BK166.out 1; have hfz14_2 := ai BK166.out 2; have hfz14_3 := ai BK166.out 3; have hfz14_4 := ai BK166.out 4; have hfz14_5 := ai BK166.out 5))
      go_ret2; exact ⟨_, pe, by (with_reducible repeat (first | apply Kd.bQ | apply Kd.bS | apply Kd.bX)); exact Kd.dB HO170.out (fun _ hk => trivial), bl⟩
     ·replace c9 := Zj c9; subst c9; rw [if_neg (show ¬ (false = true) by decide)] at H; simp only [Zl, Zm] at H; obtain ⟨rfl, rfl⟩ := H
      go_wp2_with (first | ((with_reducible refine ah (f := 58) rfl ?_); refine gl 23 Tryd.func58 #[.pointer (some ⟨gb166, 0, none⟩)] ?_; (with_reducible refine (ax.calls kj2 (some ad165) c0 l0 A165_0 c165_0 ((au l0 a1).f0) ((au l0 a1).f1) ((au l0 a1).f2) ((au l0 a1).f3) false t168 gb166 w _ ?side1 ?side2 ?side3 ?side4 ?side5 ?sideB ?sideC ?sideD A8.out).mono ?_); (case side1 => exact HR0.out); (case side2 => exact HC0.out); (case side3 => exact HR165_0.out); (case side4 => exact HC165_0.out); (case side5 => exact HLd.out); (case sideB => exact bk); (case sideC => exact bl); (case sideD => exact GE166.out); rintro e w17 ⟨rfl, v169, ho0, hb, x0_, x1_, x2_, x3_, x4_, hbx⟩; refine ⟨_, rfl, ?_⟩; have n0_ := aa.mk ho0; have n1_ := aa.mk hbx; have n2_ := aa.mk hb; clear BK166 HB; have HO170 := n0_; have BK166 := n1_; have HB := n2_; clear n0_ n1_ n2_; clear hb hbx; (try clear ho0); obtain ⟨Ao18, co18, eo18⟩ := Kd.dh HO170.out; subst eo18; obtain ⟨hcz19_0, hcz19_1, hcz19_2, hcz19_3, hcz19_4, hcz19_5⟩ := bd6 BK166.out; have hfz19_0 := ai BK166.out 0; have hfz19_1 := ai BK166.out 1; have hfz19_2 := ai BK166.out 2; have hfz19_3 := ai BK166.out 3; have hfz19_4 := ai BK166.out 4; have hfz19_5 := ai BK166.out 5))
      go_ret2; exact ⟨_, pe, pn, bl⟩
end Go.Proofs.YthckiolgpgplpaaDoor.YD
