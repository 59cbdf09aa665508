/- Any two rows have the matching that the document says. -/
import Derived.Test.YthbgbeelcnfofaaPx16
import Derived.Test.YthbgbeelcnfofaaQPairs
import Derived.Test.YthbgbeelcnfofaaQKnown15
-- use: QPairs
-- use: QKnown15
namespace Go.Proofs.Ythbgbeelcnfofaa.Pure
set_option linter.unusedVariables false
set_option linter.unusedSimpArgs false
open Go.RowKit Go.Proofs.Ythbgbeelcnfofaa.P Go.Proofs.YthbgbeelcnfofaaW.PrintWords Go.Proofs.YthbgbeelcnfofaaW.PrintLast Go.Proofs.YthbgbeelcnfofaaW.PrintMore Go.Proofs.Ythbgbeelcnfofaa.Q

theorem AlignMatches : parallaxlaw15_AlignMatches.Pure := by
  intro a b lim _ _ hl
  obtain ⟨l0, l1⟩ := wf64 hl
  refine Ev.rounds ?_
  unfold parallaxlaw15_AlignMatches.f
  rcases many_or a b with h | ⟨ha, hb, h⟩
  · simp only [h]
    refine Ev.bind (Ev.now _) ?_
    simp only [if_true]
    exact known_fin
  · simp only [h]
    refine Ev.bind (Ev.now _) ?_
    have c := ff (show ¬ (false = true) by decide)
    simp only [c, if_false]
    refine Ev.bind (Match_ok a b lim (by omega) (by omega) l0 l1) (Ev.bind (refMatch_ok a b lim (by omega) (by omega) l0 l1) ?_)
    have hlen : (Mt a b lim).length ≤ 1000 := by
      have := pre_le a b
      have := L_le a b
      rw [Mt_length]
      split <;> omega
    have hp := pairs_ok ((Mt a b lim).map p41) (by rw [List.length_map]; omega)
    rw [map_t67] at hp
    refine Ev.bind hp (Ev.bind (same_ok _ (by rw [List.length_map]; omega)) ?_)
    simp only [if_true, beq_self_eq_true]
    exact known_fin

end Go.Proofs.Ythbgbeelcnfofaa.Pure
