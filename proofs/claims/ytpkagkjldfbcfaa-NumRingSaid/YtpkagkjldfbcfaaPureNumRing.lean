/- Sums and products do not hang on the order, and share out over one another, at every input, without a condition. -/
import Derived.Test.YtpkagkjldfbcfaaPx6
import Derived.Test.YtpkagkjldfbcfaaQArith
import Derived.Test.YtpkagkjldfbcfaaQKnown01
-- use: QArith
-- use: QKnown01
namespace Go.Proofs.Ytpkagkjldfbcfaa.Pure
set_option linter.unusedVariables false
set_option linter.unusedSimpArgs false
open Go.RowKit Go.Proofs.Ytpkagkjldfbcfaa.P Go.Proofs.YtpkagkjldfbcfaaW.PrintWords Go.Proofs.YtpkagkjldfbcfaaW.PrintLast Go.Proofs.YtpkagkjldfbcfaaW.PrintMore Go.Proofs.Ytpkagkjldfbcfaa.Q

theorem NumRing : parallaxlaw01_NumRing.Pure := by
  intro a b c ha hb hc
  obtain ⟨a0, a1⟩ := wf64 ha
  refine Ev.rounds ?_
  unfold parallaxlaw01_NumRing.f
  have key : wrap64 (a + b) = wrap64 (b + a) ∧ wrap64 (a * b) = wrap64 (b * a) ∧ wrap64 (a * wrap64 (b + c)) = wrap64 (wrap64 (a * b) + wrap64 (a * c)) ∧ wrap64 (wrap64 (a + b) + c) = wrap64 (a + wrap64 (b + c)) ∧
    wrap64 (wrap64 (a * b) * c) = wrap64 (a * wrap64 (b * c)) ∧ wrap64 (wrap64 (a + b) - b) = a ∧ wrap64 (a + wrap64 (-a)) = 0 := by
    refine ⟨by rw [Int.add_comm], by rw [Int.mul_comm], w64_eq ?_, w64_eq ?_, w64_eq ?_, ?_, ?_⟩
    · rw [Int.mul_emod, w64_mod, ← Int.mul_emod, Int.add_emod, w64_mod, w64_mod, ← Int.add_emod, Int.mul_add]
    · rw [Int.add_emod, w64_mod, ← Int.add_emod, Int.add_emod a, w64_mod, ← Int.add_emod, Int.add_assoc]
    · rw [Int.mul_emod, w64_mod, ← Int.mul_emod, Int.mul_emod a, w64_mod, ← Int.mul_emod, Int.mul_assoc]
    · unfold wrap64; omega
    · unfold wrap64; omega
  have c1 := tt key
  simp only [c1, if_true]
  exact known_ok

end Go.Proofs.Ytpkagkjldfbcfaa.Pure
