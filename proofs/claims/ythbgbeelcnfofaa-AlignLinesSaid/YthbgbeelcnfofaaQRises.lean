/- What the document says of pairs. -/
import Derived.Test.YthbgbeelcnfofaaPx0
import Derived.Test.YthbgbeelcnfofaaPx12
import Derived.Test.YthbgbeelcnfofaaQBase
import Derived.Test.YthbgbeelcnfofaaQUp
-- use: QBase
-- use: QUp
namespace Go.Proofs.Ythbgbeelcnfofaa.Q
set_option linter.unusedVariables false
set_option linter.unusedSimpArgs false
open Go.RowKit Go.Proofs.YthbgbeelcnfofaaW.PrintWords Go.Proofs.YthbgbeelcnfofaaW.PrintLast Go.Proofs.YthbgbeelcnfofaaW.PrintMore Go.Proofs.Ythbgbeelcnfofaa.P

/-- What stands ahead of an index of the document's pairs. -/
def was (l : List S67) (i : Nat) : Int × Int := if i = 0 then (-1, -1) else ((rd_T67 l (((i - 1 : Nat)) : Int)).f0, (rd_T67 l (((i - 1 : Nat)) : Int)).f1)
theorem was_succ (l : List S67) (i : Nat) : was l (i + 1) = ((rd_T67 l (i : Int)).f0, (rd_T67 l (i : Int)).f1) := by simp [was]
theorem was_ge (l : List S67) (i : Nat) (h : i = 0 ∨ (0 ≤ (was l i).1 ∧ 0 ≤ (was l i).2)) : -1 ≤ (was l i).1 ∧ -1 ≤ (was l i).2 := by
  rcases h with rfl | h
  · exact ⟨Int.le_refl _, Int.le_refl _⟩
  · omega
theorem Rises_loop (n m : Int) (l : List S67) (hl : l.length ≤ 1000000) : ∀ (d i : Nat), i + d = l.length → (i = 0 ∨ (0 ≤ (was l i).1 ∧ 0 ≤ (was l i).2)) → Ev (fun k => parallaxref15_Rises.l0 k n m l (i : Int)) (up n m (was l i).1 (was l i).2 ((l.drop i).map o41)) := by
  intro d
  induction d with
  | zero =>
    intro i hi hw
    obtain rfl : i = l.length := by omega
    rw [List.drop_length]
    have c1 := ff (Int.lt_irrefl (l.length : Int))
    refine evs ?_
    simp only [parallaxref15_Rises.l0, c1, if_false]
    exact Ev.now _
  | succ d ih =>
    intro i hi hw
    have ih := ih (i + 1) (by omega)
    rw [drop67 l i (by omega), List.map_cons]
    rw [was_succ] at ih
    have c1 := tt (show (i : Int) < (l.length : Int) by omega)
    have c2 := tt (show (0 : Int) ≤ (i : Int) by omega)
    have b1 : i + 1 ≤ 1000000000000 := by omega
    have c3 := ff (show ¬ (false = true) by decide)
    have hw1 := was_ge l i hw
    have no : Ev (fun k => parallaxref15_Rises.j1 k n m l (i : Int) true) false := by
      refine evs ?_
      simp only [parallaxref15_Rises.j1, if_true]
      exact Ev.now _
    refine evs ?_
    simp only [parallaxref15_Rises.l0, c1, c2, if_true]
    by_cases h1 : (rd_T67 l (i : Int)).f0 < 0
    · rw [up_no (by simp only [o41]; omega)]
      simp only [tt h1, if_true]
      exact no
    by_cases h2 : (rd_T67 l (i : Int)).f1 < 0
    · rw [up_no (by simp only [o41]; omega)]
      simp only [ff h1, tt h2, if_true, if_false]
      exact no
    by_cases h3 : (rd_T67 l (i : Int)).f0 ≥ n
    · rw [up_no (by simp only [o41]; omega)]
      simp only [ff h1, ff h2, tt h3, if_true, if_false]
      exact no
    by_cases h4 : (rd_T67 l (i : Int)).f1 ≥ m
    · rw [up_no (by simp only [o41]; omega)]
      simp only [ff h1, ff h2, ff h3, decide_eq_true h4, if_true, if_false]
      exact no
    have ih := ih (.inr ⟨by omega, by omega⟩)
    simp only [ff h1, ff h2, ff h3, decide_eq_false h4, if_false]
    refine evs ?_
    cases i with
    | zero =>
      have k1 := ff (show ¬ (((0 : Nat) : Int) > 0) by decide)
      rw [up_yes (by simp only [o41, was, if_true]; omega)]
      simp only [parallaxref15_Rises.j1, c3, k1, wsucc b1, if_false]
      exact ih
    | succ i =>
      have k1 := tt (show (((i + 1 : Nat) : Int) > 0) by omega)
      have k2 : wrap64 (((i + 1 : Nat) : Int) - 1) = (i : Int) := by rw [w64 (by omega) (by omega)]; omega
      have k3 := tt (show (0 : Int) ≤ (i : Int) by omega)
      have k4 := tt (show (i : Int) < (l.length : Int) by omega)
      rw [was_succ]
      simp only [parallaxref15_Rises.j1, c1, c2, c3, k1, k2, k3, k4, wsucc b1, if_true, if_false]
      by_cases g1 : (rd_T67 l ((i + 1 : Nat) : Int)).f0 ≤ (rd_T67 l (i : Int)).f0
      · rw [up_no (by simp only [o41]; omega)]
        simp only [tt g1, if_true]
        exact Ev.now _
      by_cases g2 : (rd_T67 l ((i + 1 : Nat) : Int)).f1 ≤ (rd_T67 l (i : Int)).f1
      · rw [up_no (by simp only [o41]; omega)]
        simp only [ff g1, tt g2, if_true, if_false]
        exact Ev.now _
      rw [up_yes (by simp only [o41]; omega)]
      simp only [ff g1, ff g2, if_false]
      exact ih
theorem Rises_ok (n m : Int) (l : List S67) (hl : l.length ≤ 1000000) : Ev (fun k => parallaxref15_Rises.f k n m l) (up n m (-1) (-1) (l.map o41)) := Rises_loop n m l hl l.length 0 (Nat.zero_add _) (.inl rfl)

end Go.Proofs.Ythbgbeelcnfofaa.Q
