import Derived.Test.YthckiolgpgplpaaDoorPx12
namespace Go.Proofs.YthckiolgpgplpaaDoor.YD
set_option maxHeartbeats 8000000
set_option maxRecDepth 100000
open Go.RowKit YC YA YB
attribute [local go_sem] eF eD fD fE dS dU eG eO
set_option linter.unusedVariables false
set_option linter.unusedSimpArgs false
mutual
def aD.j0 : Nat → List (S46) → Bool → Option (Bool)
 | 0, _, _ => none
 | k + 1, x0, x40 => if x40 = true then (some false) else (aD.l0 k x0 0)
def aD.l0 : Nat → List (S46) → Int → Option (Bool)
 | 0, _, _ => none
 | k + 1, x0, x5 => if x5 < (x0.length : Int) then ((af.f k x0 x5).bind fun bt324 => (if bt324.2 = true then (aD.l0 k x0 (wrap64 (x5 + 1))) else (some false))) else (some true)
end
def aD.f (k : Nat) (l0 : List (S46)) (a1 : Int) : Option (Bool) := if (l0.length : Int) = 0 then (aD.j0 k l0 true) else (if (l0.length : Int) > 40 then (aD.j0 k l0 true) else (if a1 < 0 then (aD.j0 k l0 true) else (if a1 ≥ (l0.length : Int) then (aD.j0 k l0 true) else (if 0 ≤ a1 then (if a1 < (l0.length : Int) then (if ((au l0 a1).f2) = 0 then (aD.j0 k l0 ((au l0 a1).f3)) else (aD.j0 k l0 true)) else (none)) else (none)))))
theorem aD.calls (k : Nat) (A0 : Option Addr) (c0 : Nat) (l0 : List (S46)) (a1 : Int) (r : Bool) (w : World) (hr0 : Kd.C k46 w A0 l0.length l0) (hc0 : l0.length ≤ c0) (h : aD.f k l0 a1 = some r) :
  Calls Tryd.prog 46 #[.slice A0 l0.length c0, .int .i64 a1] w fun e w' => e = .returned (.bool r) ∧ Below w.heap.size w w' := by
 have HR0 := aa.mk hr0; have HC0 := aa.mk hc0; clear hr0 hc0; have HB := aa.mk (Below.refl w.heap.size w); have H : (if (l0.length : Int) = 0 then (aD.j0 k l0 true) else (if (l0.length : Int) > 40 then (aD.j0 k l0 true) else (if a1 < 0 then (aD.j0 k l0 true) else (if a1 ≥ (l0.length : Int) then (aD.j0 k l0 true) else (if 0 ≤ a1 then (if a1 < (l0.length : Int) then (if ((au l0 a1).f2) = 0 then (aD.j0 k l0 ((au l0 a1).f3)) else (aD.j0 k l0 true)) else (none)) else (none)))))) = some r := h; clear h; have HC3 := aa.mk H; clear H; go_enter Tryd.func46, Tryd.ntmps46
 go_upto_region 1 with (fail)
 go_cut [40] (fun v40 wc => ∃ (kq : Nat) (x40_2 : Bool), v40 = .bool x40_2 ∧ aa (aD.j0 kq l0 x40_2 = some r) ∧ aa (kq ≤ k) ∧ aa (Below w.heap.size w wc))
 case first =>
  have H := HC3.out; clear HC3
  by_cases c4 : (l0.length : Int) = 0
  ·rw [if_pos c4] at H; obtain ⟨c4b0, c4b1⟩ := eqs c4; clear c4; (first | rw [c4b0] | (simp only [dI, dK]; rw [c4b0]) | skip); have H' := aa.mk H; clear H; go_wp2; go_meet
   case rel => exact ⟨_, (true), pr, H', ⟨by first | omega | exact Zd _⟩, ⟨bl⟩⟩
  ·rw [if_neg c4] at H; obtain ⟨c4b0, c4b1⟩ := eqf c4; have c4b2 : ¬ (l0 = []) := fun h_ => c4 (by rw [h_]; rfl)
   (first | rw [c4b0] | (simp only [dI, dK]; rw [c4b0]) | skip)
   by_cases c5 : (l0.length : Int) > 40
   ·rw [if_pos c5] at H; have c5b0 : decide (40 < (l0.length : Int)) = true := Za c5; have c5b1 : decide (40 < l0.length) = true := Za (by omega); clear c5; have H' := aa.mk H; clear H; go_wp2; go_meet
    case rel => exact ⟨_, (true), pr, H', ⟨by first | omega | exact Zd _⟩, ⟨bl⟩⟩
   ·rw [if_neg c5] at H; have c5b0 : decide (40 < (l0.length : Int)) = false := Zb c5; have c5b1 : decide (40 < l0.length) = false := Zb (by omega); clear c5
    by_cases c6 : a1 < 0
    ·rw [if_pos c6] at H; have c6b0 := Za c6; clear c6; have H' := aa.mk H; clear H; go_wp2; go_meet
     case rel => exact ⟨_, (true), pr, H', ⟨by first | omega | exact Zd _⟩, ⟨bl⟩⟩
    ·rw [if_neg c6] at H; have c6b0 := Zb c6; clear c6
     by_cases c7 : a1 ≥ (l0.length : Int)
     ·rw [if_pos c7] at H; have c7b0 : decide ((l0.length : Int) ≤ a1) = true := Za c7; clear c7; have H' := aa.mk H; clear H; go_wp2; go_meet
      case rel => exact ⟨_, (true), pr, H', ⟨by first | omega | exact Zd _⟩, ⟨bl⟩⟩
     ·rw [if_neg c7] at H; have c7b0 : decide ((l0.length : Int) ≤ a1) = false := Zb c7; clear c7
      replace H := it (c := 0 ≤ a1) H; obtain ⟨c8, H⟩ := H; have c8b0 := Za c8; clear c8
      replace H := it (c := a1 < (l0.length : Int)) H; obtain ⟨c9, H⟩ := H; have c9b0 := Za c9; clear c9; have HH_ := aa.mk H; clear H
      have p322 : 0 ≤ (a1 : Int) := Zc pa
      have q322 : a1 < (l0.length : Int) := Zc pa
      obtain ⟨ad322, A322_0, c322_0, e322, hx322_0, hx322_1, hx322_2, hx322_3, hl322_0, hi322_0⟩ := eZ HR0.out a1 p322 q322
      cases e322
      replace hx322_0 := pc HB.out hx322_0; replace hx322_1 := pc HB.out hx322_1; replace hx322_2 := pc HB.out hx322_2; replace hx322_3 := pc HB.out hx322_3; have HR322_0 := aa.mk hi322_0; have HC322_0 := aa.mk hl322_0; clear hi322_0 hl322_0; replace p322 := eq_true p322; replace q322 := eq_true q322; have H := HH_.out; clear HH_
      by_cases c10 : ((au l0 a1).f2) = 0
      ·rw [if_pos c10] at H; obtain ⟨c10b0, c10b1⟩ := eqs c10; clear c10; have H' := aa.mk H; clear H
       have p323 : 0 ≤ (a1 : Int) := Zc pa
       have q323 : a1 < (l0.length : Int) := Zc pa
       obtain ⟨ad323, A323_0, c323_0, e323, hx323_0, hx323_1, hx323_2, hx323_3, hl323_0, hi323_0⟩ := eZ HR0.out a1 p323 q323; obtain rfl : ad322 = ad323 := (by injection e323); replace hx323_0 := pc HB.out hx323_0; replace hx323_1 := pc HB.out hx323_1; replace hx323_2 := pc HB.out hx323_2; replace hx323_3 := pc HB.out hx323_3; have HR323_0 := aa.mk hi323_0; have HC323_0 := aa.mk hl323_0; clear hi323_0 hl323_0; replace p323 := eq_true p323; replace q323 := eq_true q323; have ea_ := Zg (hx322_0.symm.trans hx323_0)
       injection ea_ with ea_ en_ ec_
       subst ea_; subst ec_; clear en_; go_wp2; go_meet
       case rel => exact ⟨_, ((au l0 a1).f3), pr, H', ⟨by first | omega | exact Zd _⟩, ⟨bl⟩⟩
      ·rw [if_neg c10] at H; obtain ⟨c10b0, c10b1⟩ := eqf c10; have H' := aa.mk H; clear H; go_wp2; go_meet
       case rel => exact ⟨_, (true), pr, H', ⟨by first | omega | exact Zd _⟩, ⟨bl⟩⟩
 case rest =>
  clear HC3; obtain ⟨kq, x40_2, rfl, HA, HJ2, HB⟩ := hcut
  cases kq with
  | zero => exact absurd HA.out (by simp [aD.j0])
  | succ kj2 =>
   have H := HA.out; clear HA; simp only [aD.j0] at H
   by_cases c11 : x40_2 = true
   ·subst c11; rw [if_pos rfl] at H; obtain rfl := Zg H; go_wp2; go_ret; exact ⟨pe, bl⟩
   ·replace c11 := Zj c11; subst c11; rw [if_neg (show ¬ (false = true) by decide)] at H; have H' := aa.mk H; clear H; go_wp2
    go_loopg [5] kj2 (fun kq v5 w' => ∃ (x5_2 : Int), v5 = .int .i64 x5_2 ∧ aa (aD.l0 kq l0 x5_2 = some r) ∧ aa (kq ≤ kj2) ∧ aa (Below w.heap.size w w'))
    case atStart => exact ⟨(0), pr, H', ⟨Zd _⟩, ⟨bl⟩⟩
    case round =>
     clear H'; obtain ⟨x5_2, rfl, HA, HK2, HB⟩ := hrel
     cases gk with
     | zero => exact absurd HA.out (by simp [aD.l0])
     | succ k2 =>
      have H := HA.out; clear HA; simp only [aD.l0] at H
      by_cases c12 : x5_2 < (l0.length : Int)
      ·rw [if_pos c12] at H; have c12b0 := Za c12; clear c12; replace H := ob H; obtain ⟨⟨t324, t325⟩, A13, H⟩ := H
       by_cases c14 : t325 = true
       ·subst c14; rw [if_pos rfl] at H; have H' := aa.mk H; clear H
        go_wp2_with (first | ((with_reducible refine ah (f := 57) rfl ?_); refine gl 50 Tryd.func57 #[.slice A0 l0.length c0, .int .i64 x5_2] ?_; (with_reducible refine (af.calls k2 _ _ l0 x5_2 t324 true _ ?side1 ?side2 A13.out).mono ?_); (case side1 => exact cb HR0.out); (case side2 => exact HC0.out); rintro e w15 ⟨v326, rfl, ho0, hb⟩; refine ⟨_, rfl, ?_⟩; have n_ := an2 (Kd.bU ho0 (aK bl)) (aj bl hb); clear HB; obtain ⟨HO327, HB⟩ := n_; (try clear hb); (try clear ho0)))
        go_roundg k2
        case measure => have := HJ2.out; have := HK2.out; omega
        case rel => exact ⟨(wrap64 (x5_2 + 1)), pr, H', ⟨by have := HJ2.out; have := HK2.out; omega⟩, ⟨bl⟩⟩
       ·replace c14 := Zj c14; subst c14; rw [if_neg (show ¬ (false = true) by decide)] at H; obtain rfl := Zg H
        go_wp2_with (first | ((with_reducible refine ah (f := 57) rfl ?_); refine gl 50 Tryd.func57 #[.slice A0 l0.length c0, .int .i64 x5_2] ?_; (with_reducible refine (af.calls k2 _ _ l0 x5_2 t324 false _ ?side1 ?side2 A13.out).mono ?_); (case side1 => exact cb HR0.out); (case side2 => exact HC0.out); rintro e w16 ⟨v326, rfl, ho0, hb⟩; refine ⟨_, rfl, ?_⟩; have n_ := an2 (Kd.bU ho0 (aK bl)) (aj bl hb); clear HB; obtain ⟨HO327, HB⟩ := n_; (try clear hb); (try clear ho0)))
        go_ret; exact ⟨pe, bl⟩
      ·rw [if_neg c12] at H; have c12b0 := Zb c12; clear c12; obtain rfl := Zg H; go_wp2; go_ret; exact ⟨pe, bl⟩
def dR.f (l0 : List Int) : Option (List Int) := if ([] : List Int).length + l0.length < 17592186044416 then (some (([] : List Int) ++ l0)) else (none)
theorem dR.calls (A0 : Option Addr) (c0 : Nat) (l0 : List Int) (r : List Int) (w : World) (hr0 : Kd.C (Kd.int .i64) w A0 l0.length l0) (hc0 : l0.length ≤ c0) (h : dR.f l0 = some r) :
  Calls Tryd.prog 47 #[.slice A0 l0.length c0] w fun e w' => ∃ v0_ : Value, e = .returned (v0_) ∧ Kd.R (Kd.int .i64) 2 w' w.heap.size (fun _ => True) v0_ r ∧ Below w.heap.size w w' := by
 have HR0 := aa.mk hr0; have HC0 := aa.mk hc0; clear hr0 hc0; have HB := aa.mk (Below.refl w.heap.size w); have H : (if ([] : List Int).length + l0.length < 17592186044416 then (some (([] : List Int) ++ l0)) else (none)) = some r := h; clear h
 replace H := it (c := ([] : List Int).length + l0.length < 17592186044416) H; obtain ⟨c2, H⟩ := H; have LMc2 := aa.mk c2; clear c2; obtain ⟨y328, hy328⟩ : ∃ y_ : List Int, y_ = (([] : List Int) ++ l0) := ⟨_, rfl⟩; (first | replace H := hs hy328 H | rw [← hy328] at H)
 have Ny328 := aa.mk hy328; clear hy328; obtain rfl := Zg H; go_enter Tryd.func47, Tryd.ntmps47
 go_wp2_with (first | ((with_reducible refine di (b := .append) (xs := #[.tmp 4, .tmp 5]) rfl ?_); at_builtin; refine Kd.gI (Kd.int .i64) (w0 := w) w.heap.size rfl (.tmp 4) (.tmp 5) 23 2 (.int .i64 0) 8 rfl Tryd.underlying23 jd rfl (by decide) (by omega) (.slice none 0 0) ([] : List Int) l0 _ _ _ (fun _ => True) (fun _ => False) rfl rfl ?aO ?aR (fun _ _ h => h) (fun _ h => h.elim) ?aF ?aB ?aS ?aL ?_; (case aR => repeat (first | exact HR0.out | (with_reducible refine Kd.fq ?_ _) | (with_reducible refine Kd.C_drewN ?_ _) | (with_reducible refine Kd.C_drew ?_))); (case aB => exact bl); (case aF => exact (fun _ _ => trivial)); (case aO => exact ((Kd.kF _ _ _ _ (fun _ => True)))); (case aS => exact (aK bl)); (case aL => have := LMc2.out; omega); intro v329 w3 ho hb hg hat; rw [← Ny328.out] at ho; have n_ := an2 (hb) (ho); clear HB; obtain ⟨HB, HO330⟩ := n_; clear ho hb hg hat))
 go_ret; exact ⟨_, pe, bR HO330.out, bl⟩
end Go.Proofs.YthckiolgpgplpaaDoor.YD
