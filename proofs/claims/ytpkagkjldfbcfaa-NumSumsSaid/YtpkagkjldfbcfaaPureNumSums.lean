/- Any two integers have the sum and the difference that the document says, at every input, without a condition. -/
import Derived.Test.YtpkagkjldfbcfaaPx5
import Derived.Test.YtpkagkjldfbcfaaPx6
import Derived.Test.YtpkagkjldfbcfaaQArith
import Derived.Test.YtpkagkjldfbcfaaQKnown01
-- use: QArith
-- use: QKnown01
namespace Go.Proofs.Ytpkagkjldfbcfaa.Pure
set_option linter.unusedVariables false
set_option linter.unusedSimpArgs false
open Go.RowKit Go.Proofs.Ytpkagkjldfbcfaa.P Go.Proofs.YtpkagkjldfbcfaaW.PrintWords Go.Proofs.YtpkagkjldfbcfaaW.PrintLast Go.Proofs.YtpkagkjldfbcfaaW.PrintMore Go.Proofs.Ytpkagkjldfbcfaa.Q

theorem Add_ok (a b : Int) : Ev (fun k => parallaxref01_Add.f k a b) (wrap64 (a + b)) := by
  obtain ⟨A, hA, pA⟩ := Bits_ok a
  obtain ⟨B, hB, pB⟩ := Bits_ok b
  obtain ⟨D, hD, pD⟩ := plus_ok pA pB 0 (Nat.zero_le _)
  have hn := number_ok pD
  have e : wrap64 (((um a + um b + 0) % 2 ^ 64 : Nat) : Int) = wrap64 (a + b) := by
    have := um_cast a
    have := um_cast b
    apply w64_eq
    omega
  rw [e] at hn
  exact Ev.bind hA (Ev.bind hB (Ev.bind hD (Ev.fin hn)))
theorem NumSums : parallaxlaw01_NumSums.Pure := by
  intro a b ha hb
  refine Ev.rounds ?_
  unfold parallaxlaw01_NumSums.f num_Add.f num_Sub.f num_Neg.f
  refine Ev.bind (Ev.now _) (Ev.bind (Add_ok a b) ?_)
  simp only [if_true]
  refine Ev.bind (Ev.now _) (Ev.bind (Sub_ok a b) ?_)
  simp only [if_true]
  refine Ev.bind (Ev.now _) (Ev.bind (Neg_ok a) ?_)
  simp only [if_true]
  exact known_fin

end Go.Proofs.Ytpkagkjldfbcfaa.Pure
