/- Any two integers have the product that the document says, at every input, without a condition. -/
import Derived.Test.YtpkagkjldfbcfaaPx1
import Derived.Test.YtpkagkjldfbcfaaPx3
import Derived.Test.YtpkagkjldfbcfaaQArith
import Derived.Test.YtpkagkjldfbcfaaQKnown01
-- use: QArith
-- use: QKnown01
namespace Go.Proofs.Ytpkagkjldfbcfaa.Pure
set_option linter.unusedVariables false
set_option linter.unusedSimpArgs false
open Go.RowKit Go.Proofs.Ytpkagkjldfbcfaa.P Go.Proofs.YtpkagkjldfbcfaaW.PrintWords Go.Proofs.YtpkagkjldfbcfaaW.PrintLast Go.Proofs.YtpkagkjldfbcfaaW.PrintMore Go.Proofs.Ytpkagkjldfbcfaa.Q

theorem NumProducts : parallaxlaw01_NumProducts.Pure := by
  intro a b ha hb
  refine Ev.rounds ?_
  unfold parallaxlaw01_NumProducts.f num_Mul.f
  refine Ev.bind (Ev.now _) (Ev.bind (Mul_ok a b) ?_)
  simp only [if_true]
  exact known_fin

end Go.Proofs.Ytpkagkjldfbcfaa.Pure
