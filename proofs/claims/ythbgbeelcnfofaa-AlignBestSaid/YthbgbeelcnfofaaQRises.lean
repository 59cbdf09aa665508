/- What the document says of pairs. -/
import Derived.Test.YthbgbeelcnfofaaPx0
import Derived.Test.YthbgbeelcnfofaaPx17
import Derived.Test.YthbgbeelcnfofaaQBits
import Derived.Test.YthbgbeelcnfofaaQUp
-- use: QBits
-- use: QUp
namespace Go.Proofs.Ythbgbeelcnfofaa.Q
set_option linter.unusedVariables false
set_option linter.unusedSimpArgs false
open Go.RowKit Go.Proofs.YthbgbeelcnfofaaW.PrintWords Go.Proofs.YthbgbeelcnfofaaW.PrintLast Go.Proofs.YthbgbeelcnfofaaW.PrintMore Go.Proofs.Ythbgbeelcnfofaa.P

/-- What stands ahead of an index of the document's pairs. -/
def was (l : List S67) (i : Nat) : Int × Int := if i = 0 then (-1, -1) else ((rd_T67 l (((i - 1 : Nat)) : Int)).f0, (rd_T67 l (((i - 1 : Nat)) : Int)).f1)
theorem was_succ (l : List S67) (i : Nat) : was l (i + 1) = ((rd_T67 l (i : Int)).f0, (rd_T67 l (i : Int)).f1) := by simp [was]
theorem was_ge (l : List S67) (i : Nat) (h : i = 0 ∨ (0 ≤ (was l i).1 ∧ 0 ≤ (was l i).2)) : -1 ≤ (was l i).1 ∧ -1 ≤ (was l i).2 := by
  rcases h with rfl | h
  · exact ⟨Int.le_refl _, Int.le_refl _⟩
  · omega
theorem Rises_loop (n m : Int) (l : List S67) (hl : l.length ≤ 1000000) : ∀ (d i : Nat), i + d = l.length → (i = 0 ∨ (0 ≤ (was l i).1 ∧ 0 ≤ (was l i).2)) → Ev (fun k => parallaxref15_Rises.l0 k n m l (i : Int)) (up n m (was l i).1 (was l i).2 ((l.drop i).map o41)) := by
  intro d
  induction d with
  | zero =>
    intro i hi hw
    obtain rfl : i = l.length := by omega
    rw [List.drop_length]
    have c1 := ff (Int.lt_irrefl (l.length : Int))
    refine evs ?_
    simp only [parallaxref15_Rises.l0, c1, if_false]
    exact Ev.now _
  | succ d ih =>
    intro i hi hw
    have ih := ih (i + 1) (by omega)
    rw [drop67 l i (by omega), List.map_cons]
    rw [was_succ] at ih
    have c1 := tt (show (i : Int) < (l.length : Int) by omega)
    have c2 := tt (show (0 : Int) ≤ (i : Int) by omega)
    have b1 : i + 1 ≤ 1000000000000 := by omega
    have c3 := ff (show ¬ (false = true) by decide)
    have hw1 := was_ge l i hw
    have no : Ev (fun k => parallaxref15_Rises.j1 k n m l (i : Int) true) false := by
      refine evs ?_
      simp only [parallaxref15_Rises.j1, if_true]
      exact Ev.now _
    refine evs ?_
    simp only [parallaxref15_Rises.l0, c1, c2, if_true]
    by_cases h1 : (rd_T67 l (i : Int)).f0 < 0
    · rw [up_no (by simp only [o41]; omega)]
      simp only [tt h1, if_true]
      exact no
    by_cases h2 : (rd_T67 l (i : Int)).f1 < 0
    · rw [up_no (by simp only [o41]; omega)]
      simp only [ff h1, tt h2, if_true, if_false]
      exact no
    by_cases h3 : (rd_T67 l (i : Int)).f0 ≥ n
    · rw [up_no (by simp only [o41]; omega)]
      simp only [ff h1, ff h2, tt h3, if_true, if_false]
      exact no
    by_cases h4 : (rd_T67 l (i : Int)).f1 ≥ m
    · rw [up_no (by simp only [o41]; omega)]
      simp only [ff h1, ff h2, ff h3, decide_eq_true h4, if_true, if_false]
      exact no
    have ih := ih (.inr ⟨by omega, by omega⟩)
    simp only [ff h1, ff h2, ff h3, decide_eq_false h4, if_false]
    refine evs ?_
    cases i with
    | zero =>
      have k1 := ff (show ¬ (((0 : Nat) : Int) > 0) by decide)
      rw [up_yes (by simp only [o41, was, if_true]; omega)]
      simp only [parallaxref15_Rises.j1, c3, k1, wsucc b1, if_false]
      exact ih
    | succ i =>
      have k1 := tt (show (((i + 1 : Nat) : Int) > 0) by omega)
      have k2 : wrap64 (((i + 1 : Nat) : Int) - 1) = (i : Int) := by rw [w64 (by omega) (by omega)]; omega
      have k3 := tt (show (0 : Int) ≤ (i : Int) by omega)
      have k4 := tt (show (i : Int) < (l.length : Int) by omega)
      rw [was_succ]
      simp only [parallaxref15_Rises.j1, c1, c2, c3, k1, k2, k3, k4, wsucc b1, if_true, if_false]
      by_cases g1 : (rd_T67 l ((i + 1 : Nat) : Int)).f0 ≤ (rd_T67 l (i : Int)).f0
      · rw [up_no (by simp only [o41]; omega)]
        simp only [tt g1, if_true]
        exact Ev.now _
      by_cases g2 : (rd_T67 l ((i + 1 : Nat) : Int)).f1 ≤ (rd_T67 l (i : Int)).f1
      · rw [up_no (by simp only [o41]; omega)]
        simp only [ff g1, tt g2, if_true, if_false]
        exact Ev.now _
      rw [up_yes (by simp only [o41]; omega)]
      simp only [ff g1, ff g2, if_false]
      exact ih
theorem Rises_ok (n m : Int) (l : List S67) (hl : l.length ≤ 1000000) : Ev (fun k => parallaxref15_Rises.f k n m l) (up n m (-1) (-1) (l.map o41)) := Rises_loop n m l hl l.length 0 (Nat.zero_add _) (.inl rfl)
theorem refFits_loop (a b : List S24) (l : List S67) (hl : l.length ≤ 1000000) (h : ∀ x ∈ l.map o41, 0 ≤ x.f0 ∧ x.f0 < (a.length : Int) ∧ 0 ≤ x.f1 ∧ x.f1 < (b.length : Int)) : ∀ (d i : Nat), i + d = l.length → Ev (fun k => parallaxref15_Fits.l0 k a b l (i : Int)) (alike a b ((l.drop i).map o41)) := by
  intro d
  induction d with
  | zero =>
    intro i hi
    obtain rfl : i = l.length := by omega
    rw [List.drop_length]
    have c1 := ff (Int.lt_irrefl (l.length : Int))
    refine evs ?_
    simp only [parallaxref15_Fits.l0, c1, if_false]
    exact Ev.now _
  | succ d ih =>
    intro i hi
    have := ih (i + 1) (by omega)
    obtain ⟨k1, k2, k3, k4⟩ := h (o41 (rd_T67 l (i : Int))) (by rw [rd67_get l i (by omega)]; exact List.mem_map_of_mem (List.getElem_mem _))
    rw [drop67 l i (by omega), List.map_cons, alike_cons]
    simp only [o41] at k1 k2 k3 k4 ⊢
    have c1 := tt (show (i : Int) < (l.length : Int) by omega)
    have c2 := tt (show (0 : Int) ≤ (i : Int) by omega)
    have b1 : i + 1 ≤ 1000000000000 := by omega
    refine evs ?_
    simp only [parallaxref15_Fits.l0, c1, c2, tt k1, tt k2, tt k3, tt k4, wsucc b1, eqv_not, if_true]
    generalize rd_T24 a (rd_T67 l (i : Int)).f0 = x
    generalize rd_T24 b (rd_T67 l (i : Int)).f1 = y
    cases e : eqv x y with
    | true =>
      simp only [Bool.not_true, Bool.false_eq_true, if_false, Bool.true_and]
      exact this
    | false =>
      simp only [Bool.not_false, if_true, Bool.false_and]
      exact Ev.now _
theorem refFits_ok (a b : List S24) (l : List S67) (hl : l.length ≤ 1000000) : Ev (fun k => parallaxref15_Fits.f k a b l) (fit a b (l.map o41)) := by
  unfold parallaxref15_Fits.f fit
  refine Ev.bind (Rises_ok _ _ l hl) ?_
  cases e : up (a.length : Int) (b.length : Int) (-1) (-1) (l.map o41) with
  | true =>
    simp only [if_true, Bool.true_and]
    exact refFits_loop a b l hl (up_mem _ (-1) (-1) (by decide) (by decide) e) l.length 0 (Nat.zero_add _)
  | false =>
    simp only [Bool.false_eq_true, if_false, Bool.false_and]
    exact Ev.now _

end Go.Proofs.Ythbgbeelcnfofaa.Q
