/- Lines go there and back, at every input, without a condition. -/
import Derived.Test.YtdbpdcjlbopkbaaDoorPx24
import Derived.Test.YtdbpdcjlbopkbaaDoorQCodeParse
import Derived.Test.YtdbpdcjlbopkbaaDoorQCode
-- use: QCodeParse
-- use: QCode
namespace Go.Proofs.YtdbpdcjlbopkbaaDoor.Pure
set_option linter.unusedVariables false
set_option linter.unusedSimpArgs false
open Go.RowKit Go.Proofs.YtdbpdcjlbopkbaaDoor.P Go.Proofs.YtdbpdcjlbopkbaaDoorW.PrintWords Go.Proofs.YtdbpdcjlbopkbaaDoorW.PrintLast Go.Proofs.YtdbpdcjlbopkbaaDoorW.PrintMore Go.Proofs.YtdbpdcjlbopkbaaDoor.Q

theorem TX_size (a b c : Int) (b0 : -9223372036854775808 ≤ b) (b1 : b ≤ 9223372036854775807) (c0 : -9223372036854775808 ≤ c) (c1 : c ≤ 9223372036854775807) : (TX a b c).1.size ≤ 100 := by
  have l1 := T_len b b0 b1
  have l2 := T_len c c0 c1
  by_cases hf : Fine a b c
  · have wl := (wd_len hf.1.1 hf.1.2).1
    rw [TX_fine hf]
    simp only [strOfNums_size]
    have := jn_len false (WX a b c)
    have h2 : tl (WX a b c) ≤ 60 := by
      unfold WX
      split
      · simp only [tl]; omega
      · split <;> simp only [tl] <;> omega
    omega
  · rw [TX_not hf]; decide
theorem back0 (s : ByteArray) (hs : ¬ (s.size : Int) > 500) : Ev (fun k => parallaxlaw08_CodeBack.j0 k s false) true := by
  refine evs ?_
  have c := ff (show ¬ (false = true) by decide)
  simp only [parallaxlaw08_CodeBack.j0, c, if_false]
  refine Ev.bind (Parse08_ok s (by omega)) ?_
  rcases PC_or s with ⟨op, n, m, n0, n1, m0, m1, hf, hL, hP⟩ | hP
  · rw [hP]
    simp only [if_true]
    refine Ev.bind (Text_ok op n m n0 n1 m0 m1) ?_
    rw [TX_fine hf]
    simp only [if_true, tt ((toList_iff _ _).2 ((fine_line hf n0 n1 m0 m1 s).2 hL))]
    exact known_fin
  · rw [hP]
    have c1 := ff (show ¬ (61 : Int) = 0 by decide)
    have e : ((0 : Int) == 0 && ((0 : Int) == 0 && ((0 : Int) == 0))) = true := by decide
    simp only [c1, if_false, tt e, if_true]
    exact known_fin
theorem CodeBack : parallaxlaw08_CodeBack.Pure := by
  intro a b c s ha hb hc hs
  obtain ⟨b0, b1⟩ := wf64 hb
  obtain ⟨c0, c1⟩ := wf64 hc
  refine Ev.rounds ?_
  unfold parallaxlaw08_CodeBack.f
  by_cases h : (s.size : Int) > 500
  · simp only [tt h, if_true]; exact known_fin
  simp only [ff h, if_false]
  have ts := TX_size a b c b0 b1 c0 c1
  refine Ev.bind (Text_ok a b c b0 b1 c0 c1) (Ev.bind (Parse08_ok (TX a b c).1 (by omega)) ?_)
  by_cases hf : Fine a b c
  · have hb := jn_byte false _ (WX_byte a b c b0 b1 c0 c1)
    have hL : wordsL (bytesOf (TX a b c).1) = WX a b c := by
      rw [TX_fine hf]
      show wordsL (bytesOf (strOfNums (jn false (WX a b c)))) = _
      rw [bytesOf_strOfNums hb]
      exact WX_words a b c hf.1.1 hf.1.2 b0 b1 c0 c1
    rw [PC_fine _ a b c b0 b1 c0 c1 hf hL, TX_fine hf]
    have e : ((!(a == a) || (!(b == b) || (!(c == c)))) : Bool) = false := by simp
    simp only [if_true, e]
    exact back0 s h
  · rw [TX_not hf]
    have c1 := ff (show ¬ (61 : Int) = 0 by decide)
    simp only [c1, if_false]
    exact back0 s h
end Go.Proofs.YtdbpdcjlbopkbaaDoor.Pure
