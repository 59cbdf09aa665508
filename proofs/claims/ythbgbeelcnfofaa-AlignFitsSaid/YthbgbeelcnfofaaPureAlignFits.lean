/- Both programs tell alike whether pairs are a matching. -/
import Derived.Test.YthbgbeelcnfofaaPx19
import Derived.Test.YthbgbeelcnfofaaQFits
import Derived.Test.YthbgbeelcnfofaaQKnown15
-- use: QFits
-- use: QKnown15
namespace Go.Proofs.Ythbgbeelcnfofaa.Pure
set_option linter.unusedVariables false
set_option linter.unusedSimpArgs false
open Go.RowKit Go.Proofs.Ythbgbeelcnfofaa.P Go.Proofs.YthbgbeelcnfofaaW.PrintWords Go.Proofs.YthbgbeelcnfofaaW.PrintLast Go.Proofs.YthbgbeelcnfofaaW.PrintMore Go.Proofs.Ythbgbeelcnfofaa.Q

theorem AlignFits : parallaxlaw15_AlignFits.Pure := by
  intro a b l _ _ _
  refine Ev.rounds ?_
  unfold parallaxlaw15_AlignFits.f
  have jt : Ev (fun k => parallaxlaw15_AlignFits.j0 k a b l true) true := by
    refine evs ?_
    simp only [parallaxlaw15_AlignFits.j0, if_true]
    exact known_fin
  by_cases ha : (a.length : Int) > 1000
  · have c := tt ha
    simp only [c, if_true]
    exact jt
  by_cases hb : (b.length : Int) > 1000
  · simp only [ff ha, tt hb, if_true, if_false]
    exact jt
  simp only [ff ha, ff hb, if_false]
  by_cases hl : (l.length : Int) > 1000
  · rw [decide_eq_true hl]
    exact jt
  rw [decide_eq_false hl]
  refine evs ?_
  have c1 := ff (show ¬ (false = true) by decide)
  simp only [parallaxlaw15_AlignFits.j0, c1, if_false]
  refine Ev.bind (own_ok l (by omega)) (Ev.bind (ownFits_ok a b _ (by rw [List.length_map]; omega)) (Ev.bind (refFits_ok a b l (by omega)) ?_))
  simp only [beq_self_eq_true, if_true]
  exact known_fin

end Go.Proofs.Ythbgbeelcnfofaa.Pure
