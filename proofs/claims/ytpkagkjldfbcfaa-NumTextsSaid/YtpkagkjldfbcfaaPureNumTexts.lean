/- Any integer has its text, and any text is an integer's, or none's; at every input, without a condition. -/
import Derived.Test.YtpkagkjldfbcfaaPx5
import Derived.Test.YtpkagkjldfbcfaaQRefParse
import Derived.Test.YtpkagkjldfbcfaaQLong01
import Derived.Test.YtpkagkjldfbcfaaQKnown01
-- use: QRefParse
-- use: QLong01
-- use: QKnown01
namespace Go.Proofs.Ytpkagkjldfbcfaa.Pure
set_option linter.unusedVariables false
set_option linter.unusedSimpArgs false
open Go.RowKit Go.Proofs.Ytpkagkjldfbcfaa.P Go.Proofs.YtpkagkjldfbcfaaW.PrintWords Go.Proofs.YtpkagkjldfbcfaaW.PrintLast Go.Proofs.YtpkagkjldfbcfaaW.PrintMore Go.Proofs.Ytpkagkjldfbcfaa.Q

theorem NumTexts : parallaxlaw01_NumTexts.Pure := by
  intro a s ha hs
  obtain ⟨a0, a1⟩ := wf64 ha
  refine Ev.rounds ?_
  unfold parallaxlaw01_NumTexts.f
  obtain ⟨b, hb, _⟩ := long_one s hs
  refine Ev.bind hb ?_
  cases b with
  | true =>
    simp only [if_true]
    exact known_fin
  | false =>
    have c := ff (show ¬ (false = true) by decide)
    simp only [c, if_false]
    refine Ev.bind (Parse_ok s hs) (Ev.bind (refParse_ok s hs) ?_)
    simp only [Text_eq a a0 a1, Option.bind_some]
    refine Ev.bind (refText_ok a a0 a1) ?_
    simp only [if_true]
    exact known_fin

end Go.Proofs.Ytpkagkjldfbcfaa.Pure
