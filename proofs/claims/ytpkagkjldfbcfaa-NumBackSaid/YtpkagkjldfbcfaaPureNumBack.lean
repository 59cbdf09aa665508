/- Quotient, divisor and rest make the number; the rest is nearer to 0 than the divisor, and has the number's sign, if it has one; at every input, without a condition. -/
import Derived.Test.YtpkagkjldfbcfaaPx1
import Derived.Test.YtpkagkjldfbcfaaPx5
import Derived.Test.YtpkagkjldfbcfaaPx6
import Derived.Test.YtpkagkjldfbcfaaQArith
import Derived.Test.YtpkagkjldfbcfaaQKnown01
-- use: QArith
-- use: QKnown01
namespace Go.Proofs.Ytpkagkjldfbcfaa.Pure
set_option linter.unusedVariables false
set_option linter.unusedSimpArgs false
open Go.RowKit Go.Proofs.Ytpkagkjldfbcfaa.P Go.Proofs.YtpkagkjldfbcfaaW.PrintWords Go.Proofs.YtpkagkjldfbcfaaW.PrintLast Go.Proofs.YtpkagkjldfbcfaaW.PrintMore Go.Proofs.Ytpkagkjldfbcfaa.Q

theorem away_ok (a : Int) (h0 : -9223372036854775808 ≤ a) (h1 : a ≤ 9223372036854775807) : parallaxlaw01_away.f a = some (a.natAbs : Int) := by
  unfold parallaxlaw01_away.f
  split
  · rw [u64w, u64w]; congr 1; omega
  · rw [u64w]; congr 1; omega
theorem NumBack : parallaxlaw01_NumBack.Pure := by
  intro a b ha hb
  obtain ⟨a0, a1⟩ := wf64 ha
  obtain ⟨b0, b1⟩ := wf64 hb
  refine Ev.rounds ?_
  unfold parallaxlaw01_NumBack.f num_Div.f num_Mod.f num_Mul.f num_Add.f
  by_cases h : b = 0
  · subst h
    simp only [if_true, Option.bind_some]
    exact known_fin
  · have c := ff h
    have ht := Int.mul_tdiv_add_tmod a b
    have h2 : (Int.tmod a b).natAbs < b.natAbs := by
      rw [Int.natAbs_tmod]
      exact Nat.mod_lt _ (by omega)
    have e : wrap64 (wrap64 (wrap64 (Int.tdiv a b) * b) + Int.tmod a b) = a := by
      have h1 : wrap64 (wrap64 (Int.tdiv a b) * b) % 18446744073709551616 = (b * Int.tdiv a b) % 18446744073709551616 := by
        rw [w64_mod, Int.mul_comm b, Int.mul_emod, w64_mod, ← Int.mul_emod]
      have h3 : wrap64 (wrap64 (wrap64 (Int.tdiv a b) * b) + Int.tmod a b) = wrap64 a := by
        apply w64_eq
        rw [Int.add_emod, h1, ← Int.add_emod, ht]
      rw [h3, w64 a0 a1]
    have w1 := away_ok (Int.tmod a b) (by omega) (by omega)
    have w2 := away_ok b b0 b1
    have c2 := tt (show ((Int.tmod a b).natAbs : Int) < (b.natAbs : Int) by omega)
    simp only [c, if_false, if_true, Option.bind_some, e, w1, w2, c2]
    by_cases hz : Int.tmod a b = 0
    · have c3 := tt hz
      simp only [c3, if_true]
      exact known_fin
    · have c3 := ff hz
      have c4 : (((decide (Int.tmod a b < 0)) == (decide (a < 0))) = true) = True := tt (by
        rw [beq_iff_eq, decide_eq_decide]
        rcases Int.lt_or_le a 0 with hn | hn
        · have h3 := Int.tmod_nonneg b (a := -a) (by omega)
          rw [Int.neg_tmod] at h3
          omega
        · have h3 := Int.tmod_nonneg b hn
          omega)
      simp only [c3, c4, if_true, if_false]
      exact known_fin

end Go.Proofs.Ytpkagkjldfbcfaa.Pure
