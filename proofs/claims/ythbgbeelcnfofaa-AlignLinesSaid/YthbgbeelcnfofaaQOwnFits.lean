/- What the program says of a matching. -/
import Derived.Test.YthbgbeelcnfofaaPx0
import Derived.Test.YthbgbeelcnfofaaPx9
import Derived.Test.YthbgbeelcnfofaaQBase
import Derived.Test.YthbgbeelcnfofaaQUp
-- use: QBase
-- use: QUp
namespace Go.Proofs.Ythbgbeelcnfofaa.Q
set_option linter.unusedVariables false
set_option linter.unusedSimpArgs false
open Go.RowKit Go.Proofs.YthbgbeelcnfofaaW.PrintWords Go.Proofs.YthbgbeelcnfofaaW.PrintLast Go.Proofs.YthbgbeelcnfofaaW.PrintMore Go.Proofs.Ythbgbeelcnfofaa.P

theorem ownFits_loop (a b : List S24) (l : List S41) (hl : l.length ≤ 1000000) (h : ∀ x ∈ l, 0 ≤ x.f0 ∧ x.f0 < (a.length : Int) ∧ 0 ≤ x.f1 ∧ x.f1 < (b.length : Int)) : ∀ (d i : Nat), i + d = l.length → Ev (fun k => align_Fits.l0 k a b l (l.length : Int) (i : Int)) (alike a b (l.drop i)) := by
  intro d
  induction d with
  | zero =>
    intro i hi
    obtain rfl : i = l.length := by omega
    rw [List.drop_length]
    have c1 := ff (Int.lt_irrefl (l.length : Int))
    refine evs ?_
    simp only [align_Fits.l0, c1, if_false]
    exact Ev.now _
  | succ d ih =>
    intro i hi
    have := ih (i + 1) (by omega)
    obtain ⟨k1, k2, k3, k4⟩ := h (rd_T41 l (i : Int)) (by rw [rd41_get l i (by omega)]; exact List.getElem_mem _)
    rw [drop41 l i (by omega), alike_cons]
    have c1 := tt (show (i : Int) < (l.length : Int) by omega)
    have c2 := tt (show (0 : Int) ≤ (i : Int) by omega)
    have b1 : i + 1 ≤ 1000000000000 := by omega
    refine evs ?_
    simp only [align_Fits.l0, c1, c2, tt k1, tt k2, tt k3, tt k4, wsucc b1, eqv_not, if_true]
    generalize rd_T24 a (rd_T41 l (i : Int)).f0 = x
    generalize rd_T24 b (rd_T41 l (i : Int)).f1 = y
    cases e : eqv x y with
    | true =>
      simp only [Bool.not_true, Bool.false_eq_true, if_false, Bool.true_and]
      exact this
    | false =>
      simp only [Bool.not_false, if_true, Bool.false_and]
      exact Ev.now _
theorem ownFits_ok (a b : List S24) (l : List S41) (hl : l.length ≤ 1000000) : Ev (fun k => align_Fits.f k a b l) (fit a b l) := by
  unfold align_Fits.f fit
  refine Ev.bind (rising_ok _ _ l hl) ?_
  cases e : up (a.length : Int) (b.length : Int) (-1) (-1) l with
  | true =>
    simp only [if_true, Bool.true_and]
    exact ownFits_loop a b l hl (up_mem l (-1) (-1) (by decide) (by decide) e) l.length 0 (Nat.zero_add _)
  | false =>
    simp only [Bool.false_eq_true, if_false, Bool.false_and]
    exact Ev.now _

end Go.Proofs.Ythbgbeelcnfofaa.Q
