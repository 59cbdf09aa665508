/- Lists of texts that are the same are told so. -/
import Derived.Test.YtpkagkjldfbcfaaPx6
import Derived.Test.YtpkagkjldfbcfaaQStr
-- use: QStr
namespace Go.Proofs.Ytpkagkjldfbcfaa.Q
set_option linter.unusedVariables false
set_option linter.unusedSimpArgs false
open Go.RowKit Go.Proofs.YtpkagkjldfbcfaaW.PrintWords Go.Proofs.YtpkagkjldfbcfaaW.PrintLast Go.Proofs.YtpkagkjldfbcfaaW.PrintMore Go.Proofs.Ytpkagkjldfbcfaa.P
theorem Same_loop (l : List ByteArray) (hl : l.length ≤ 9000000000000000000) : ∀ (d i : Nat), i + d = l.length → Ev (fun k => parallaxref01_Same.l0 k l l i) true := by
  intro d
  induction d with
  | zero =>
    intro i hd
    refine evs ?_
    have c1 := ff (show ¬ (i : Int) < (l.length : Int) by omega)
    simp only [parallaxref01_Same.l0, c1, if_false]
    exact Ev.now _
  | succ d ih =>
    intro i hd
    have c1 := tt (show (i : Int) < (l.length : Int) by omega)
    have c2 := tt (show (0 : Int) ≤ i by omega)
    have c3 : wrap64 ((i : Int) + 1) = ((i + 1 : Nat) : Int) := by rw [w64 (by omega) (by omega)]; rfl
    refine evs ?_
    simp only [parallaxref01_Same.l0, c1, c2, c3, if_true]
    exact ih (i + 1) (by omega)
theorem Same_ok (l : List ByteArray) (hl : l.length ≤ 9000000000000000000) : Ev (fun k => parallaxref01_Same.f k l l) true := by
  unfold parallaxref01_Same.f
  simp only [if_true]
  exact Same_loop l hl l.length 0 (by omega)
end Go.Proofs.Ytpkagkjldfbcfaa.Q
