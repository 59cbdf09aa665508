/- Rows that are turned round have a matching of the same size. -/
import Derived.Test.YthbgbeelcnfofaaPx0
import Derived.Test.YthbgbeelcnfofaaPx28
import Derived.Test.YthbgbeelcnfofaaQPairs
import Derived.Test.YthbgbeelcnfofaaQKnown15
-- use: QPairs
-- use: QKnown15
namespace Go.Proofs.Ythbgbeelcnfofaa.Pure
set_option linter.unusedVariables false
set_option linter.unusedSimpArgs false
open Go.RowKit Go.Proofs.Ythbgbeelcnfofaa.P Go.Proofs.YthbgbeelcnfofaaW.PrintWords Go.Proofs.YthbgbeelcnfofaaW.PrintLast Go.Proofs.YthbgbeelcnfofaaW.PrintMore Go.Proofs.Ythbgbeelcnfofaa.Q

theorem pre_comm : ∀ a b : List S24, pre a b = pre b a
  | [], b => by cases b <;> rfl
  | x :: a, [] => rfl
  | x :: a, y :: b => by
    simp only [pre, pre_comm a b, eq_comm]
theorem cut_comm (a b : List S24) (lim : Int) : cut a b lim = cut b a lim := by
  unfold cut
  rw [pre_comm a b, Nat.mul_comm]
theorem AlignTurned : parallaxlaw15_AlignTurned.Pure := by
  intro a b lim _ _ hl
  obtain ⟨l0, l1⟩ := wf64 hl
  refine Ev.rounds ?_
  unfold parallaxlaw15_AlignTurned.f
  rcases many_or a b with h | ⟨ha, hb, h⟩
  · simp only [h]
    refine Ev.bind (Ev.now _) ?_
    simp only [if_true]
    exact known_fin
  · simp only [h]
    refine Ev.bind (Ev.now _) ?_
    have c := ff (show ¬ (false = true) by decide)
    simp only [c, if_false]
    refine Ev.bind (Match_ok a b lim (by omega) (by omega) l0 l1) (Ev.bind (Match_ok b a lim (by omega) (by omega) l0 l1) ?_)
    have e1 : (((Mt a b lim).map p41).length : Int) = (((Mt b a lim).map p41).length : Int) := by
      rw [List.length_map, List.length_map, Mt_length, Mt_length, cut_comm a b, pre_comm a b, L_comm a b]
    have e2 := cut_comm a b lim
    have c1 := tt e1
    simp only [c1, e2, beq_self_eq_true, if_true]
    exact known_fin

end Go.Proofs.Ythbgbeelcnfofaa.Pure
