/- Texts of integers go there and back; at every input, without a condition. -/
import Derived.Test.YtpkagkjldfbcfaaPx5
import Derived.Test.YtpkagkjldfbcfaaQRefParse
import Derived.Test.YtpkagkjldfbcfaaQLong01
import Derived.Test.YtpkagkjldfbcfaaQKnown01
-- use: QRefParse
-- use: QLong01
-- use: QKnown01
namespace Go.Proofs.Ytpkagkjldfbcfaa.Pure
set_option linter.unusedVariables false
set_option linter.unusedSimpArgs false
open Go.RowKit Go.Proofs.Ytpkagkjldfbcfaa.P Go.Proofs.YtpkagkjldfbcfaaW.PrintWords Go.Proofs.YtpkagkjldfbcfaaW.PrintLast Go.Proofs.YtpkagkjldfbcfaaW.PrintMore Go.Proofs.Ytpkagkjldfbcfaa.Q

theorem NumTextBack : parallaxlaw01_NumTextBack.Pure := by
  intro a s ha hs
  obtain ⟨a0, a1⟩ := wf64 ha
  refine Ev.rounds ?_
  unfold parallaxlaw01_NumTextBack.f
  obtain ⟨b, hb, _⟩ := long_one s hs
  refine Ev.bind hb ?_
  cases b with
  | true =>
    simp only [if_true]
    exact known_fin
  | false =>
    have c := ff (show ¬ (false = true) by decide)
    simp only [c, if_false, Text_eq a a0 a1, Option.bind_some]
    have h1 := Parse_ok (strOfNums (T a)) (by rw [strOfNums_size]; have := T_len a a0 a1; omega)
    rw [bytesOf_strOfNums (T_byte a a0 a1), P_T a a0 a1] at h1
    refine Ev.bind h1 (Ev.bind (Parse_ok s hs) ?_)
    simp only [if_true]
    rcases P_or (bytesOf s) with ⟨n, n0, n1, hn⟩ | hP
    · have c2 := tt ((text_same n n0 n1 s).2 hn)
      rw [← hn, P_T n n0 n1]
      simp only [if_true, Text_eq n n0 n1, Option.bind_some, c2]
      exact known_fin
    · rw [hP]
      have c2 := ff (show ¬ (10 : Int) = 0 by decide)
      simp only [if_true, if_false, c2]
      exact known_fin

end Go.Proofs.Ytpkagkjldfbcfaa.Pure
