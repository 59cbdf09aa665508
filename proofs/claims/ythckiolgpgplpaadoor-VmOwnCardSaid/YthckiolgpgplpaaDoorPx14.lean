import Derived.Test.YthckiolgpgplpaaDoorPx1
namespace Go.Proofs.YthckiolgpgplpaaDoor.YD
set_option maxHeartbeats 8000000
set_option maxRecDepth 100000
open Go.RowKit YC YA YB
attribute [local go_sem] eF eD fD fE dS dU eG eO
set_option linter.unusedVariables false
set_option linter.unusedSimpArgs false
attribute [local go_sem high] eqA38
def bH.l0 : Nat → List (S38) → List (S38) → Int → Option (Bool)
 | 0, _, _, _ => none
 | k + 1, x0, x1, x5 => if x5 < (x0.length : Int) then (if 0 ≤ x5 then (if x5 < (x1.length : Int) then (if (!(((fw x0 x5).f0) == ((fw x1 x5).f0)) || (!(((fw x0 x5).f1) == ((fw x1 x5).f1)))) = true then (some false) else (bH.l0 k x0 x1 (wrap64 (x5 + 1)))) else (none)) else (none)) else (some true)
def bH.f (k : Nat) (l0 : List (S38)) (l1 : List (S38)) : Option (Bool) := if (l0.length : Int) = (l1.length : Int) then (bH.l0 k l0 l1 0) else (some false)
theorem bH.calls (k : Nat) (A0 : Option Addr) (c0 : Nat) (l0 : List (S38)) (A1 : Option Addr) (c1 : Nat) (l1 : List (S38)) (r : Bool) (w : World) (hr0 : Kd.C k38 w A0 l0.length l0) (hc0 : l0.length ≤ c0) (hr1 : Kd.C k38 w A1 l1.length l1) (hc1 : l1.length ≤ c1) (h : bH.f k l0 l1 = some r) :
  Calls Tryd.prog 19 #[.slice A0 l0.length c0, .slice A1 l1.length c1] w fun e w' => e = .returned (.bool r) ∧ aG w w' := by
 have hu38 := Tryd.underlying38; have HR0 := aa.mk hr0; have HC0 := aa.mk hc0; clear hr0 hc0; have HR1 := aa.mk hr1; have HC1 := aa.mk hc1; clear hr1 hc1; have H : (if (l0.length : Int) = (l1.length : Int) then (bH.l0 k l0 l1 0) else (some false)) = some r := h; clear h
 by_cases c3 : (l0.length : Int) = (l1.length : Int)
 ·rw [if_pos c3] at H; obtain ⟨c3b0, c3b1⟩ := eqs c3
  have c3b2 : (l0.length == l1.length) = true := by first | simpa using c3 | (simp at c3 ⊢; omega)
  clear c3; have H' := aa.mk H; clear H; go_enter Tryd.func19, Tryd.ntmps19; go_wp2
  repeat (go_quiet (fail); try go_wp2)
  go_loopg [5] k (fun kq v5 w' => ∃ (x5_1 : Int), v5 = .int .i64 x5_1 ∧ aa (bH.l0 kq l0 l1 x5_1 = some r) ∧ aa (kq ≤ k) ∧ aG w w')
  case atStart => exact ⟨(0), pr, H', ⟨Zd _⟩, by repeat (first | exact aG.refl _ | apply aG.step)⟩
  case round =>
   clear H'; (try clear c3b0); (try clear c3b1); (try clear c3b2); obtain ⟨x5_1, rfl, HA, HK1, ⟨m1, rfl⟩⟩ := hrel
   cases gk with
   | zero => exact absurd HA.out (by simp [bH.l0])
   | succ k1 =>
    have H := HA.out; clear HA; simp only [bH.l0] at H
    by_cases c4 : x5_1 < (l0.length : Int)
    ·rw [if_pos c4] at H; have c4b0 := Za c4; clear c4
     replace H := it (c := 0 ≤ x5_1) H; obtain ⟨c5, H⟩ := H; have c5b0 := Za c5; clear c5
     replace H := it (c := x5_1 < (l1.length : Int)) H; obtain ⟨c6, H⟩ := H; have c6b0 := Za c6; clear c6; have HH_ := aa.mk H; clear H
     have p346 : 0 ≤ (x5_1 : Int) := Zc pa
     have q346 : x5_1 < (l0.length : Int) := Zc pa
     obtain ⟨ad346, e346, hx346_0, hx346_1⟩ := uP HR0.out x5_1 p346 q346
     cases e346
     replace p346 := eq_true p346; replace q346 := eq_true q346
     have p347 : 0 ≤ (x5_1 : Int) := Zc pa
     have q347 : x5_1 < (l1.length : Int) := Zc pa
     obtain ⟨ad347, e347, hx347_0, hx347_1⟩ := uP HR1.out x5_1 p347 q347
     cases e347
     replace p347 := eq_true p347; replace q347 := eq_true q347; have H := HH_.out; clear HH_
     by_cases c7 : (!(((fw l0 x5_1).f0) == ((fw l1 x5_1).f0)) || (!(((fw l0 x5_1).f1) == ((fw l1 x5_1).f1)))) = true
     ·rw [if_pos c7] at H
      have c7b0 : (!(((fw l0 x5_1).f0) == ((fw l1 x5_1).f0)) || (!(((fw l0 x5_1).f1) == ((fw l1 x5_1).f1)))) = true := c7
      clear c7; obtain rfl := Zg H; go_wp2
      repeat (go_quiet (fail); try go_wp2)
      go_ret; exact ⟨by first | rfl | (simp; done) | (simp [*]; done), by repeat (first | exact aG.refl _ | apply aG.step)⟩
     ·rw [if_neg c7] at H
      have c7b0 : (!(((fw l0 x5_1).f0) == ((fw l1 x5_1).f0)) || (!(((fw l0 x5_1).f1) == ((fw l1 x5_1).f1)))) = false := by simpa using c7
      clear c7; have H' := aa.mk H; clear H; go_wp2
      repeat (go_quiet (fail); try go_wp2)
      go_roundg k1
      case measure => have := HK1.out; omega
      case rel => exact ⟨(wrap64 (x5_1 + 1)), pr, H', ⟨by have := HK1.out; omega⟩, by repeat (first | exact aG.refl _ | apply aG.step)⟩
    ·rw [if_neg c4] at H; have c4b0 := Zb c4; clear c4; obtain rfl := Zg H; go_wp2
     repeat (go_quiet (fail); try go_wp2)
     go_ret; exact ⟨by first | rfl | (simp; done) | (simp [*]; done), by repeat (first | exact aG.refl _ | apply aG.step)⟩
 ·rw [if_neg c3] at H; obtain ⟨c3b0, c3b1⟩ := eqf c3
  have c3b2 : (l0.length == l1.length) = false := by first | simpa using c3 | (simp at c3 ⊢; omega)
  obtain rfl := Zg H; go_enter Tryd.func19, Tryd.ntmps19; go_wp2
  repeat (go_quiet (fail); try go_wp2)
  go_ret; exact ⟨by first | rfl | (simp; done) | (simp [*]; done), by repeat (first | exact aG.refl _ | apply aG.step)⟩
def parallaxlaw09_ahead.f (k : Nat) (l0 : List (S38)) (l1 : List (S38)) : Option (Bool) := if (l0.length : Int) ≤ (l1.length : Int) then (if 0 ≤ (l0.length : Int) then ((bH.f k l0 (l1.take ((l0.length : Int) : Int).toNat)).bind fun t352 => (some t352)) else (none)) else (some false)
end Go.Proofs.YthckiolgpgplpaaDoor.YD
