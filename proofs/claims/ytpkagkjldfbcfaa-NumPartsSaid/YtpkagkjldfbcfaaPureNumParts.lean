/- Any two integers have the quotient and the rest that the document says, or none, at every input, without a condition. -/
import Derived.Test.YtpkagkjldfbcfaaPx1
import Derived.Test.YtpkagkjldfbcfaaPx4
import Derived.Test.YtpkagkjldfbcfaaQArith
import Derived.Test.YtpkagkjldfbcfaaQKnown01
-- use: QArith
-- use: QKnown01
namespace Go.Proofs.Ytpkagkjldfbcfaa.Pure
set_option linter.unusedVariables false
set_option linter.unusedSimpArgs false
open Go.RowKit Go.Proofs.Ytpkagkjldfbcfaa.P Go.Proofs.YtpkagkjldfbcfaaW.PrintWords Go.Proofs.YtpkagkjldfbcfaaW.PrintLast Go.Proofs.YtpkagkjldfbcfaaW.PrintMore Go.Proofs.Ytpkagkjldfbcfaa.Q

theorem NumParts : parallaxlaw01_NumParts.Pure := by
  intro a b ha hb
  obtain ⟨a0, a1⟩ := wf64 ha
  obtain ⟨b0, b1⟩ := wf64 hb
  refine Ev.rounds ?_
  unfold parallaxlaw01_NumParts.f num_Div.f num_Mod.f
  by_cases h : b = 0
  · subst h
    simp only [if_true, Option.bind_some]
    refine Ev.bind (Div_zero a) (Ev.bind (Mod_zero a) ?_)
    simp only [if_true]
    exact known_fin
  · have c := ff h
    simp only [c, if_false, Option.bind_some]
    refine Ev.bind (Div_ok a b a0 a1 b0 b1 h) (Ev.bind (Mod_ok a b a0 a1 b0 b1 h) ?_)
    simp only [if_true]
    exact known_fin

end Go.Proofs.Ytpkagkjldfbcfaa.Pure
