/- Any instruction has its line, or none; any text is an instruction's, or none's: both programs say the same at every input, without a condition. -/
import Derived.Test.YtdbpdcjlbopkbaaDoorPx15
import Derived.Test.YtdbpdcjlbopkbaaDoorQCodeParse
import Derived.Test.YtdbpdcjlbopkbaaDoorQCode
-- use: QCodeParse
-- use: QCode
namespace Go.Proofs.YtdbpdcjlbopkbaaDoor.Pure
set_option linter.unusedVariables false
set_option linter.unusedSimpArgs false
open Go.RowKit Go.Proofs.YtdbpdcjlbopkbaaDoor.P Go.Proofs.YtdbpdcjlbopkbaaDoorW.PrintWords Go.Proofs.YtdbpdcjlbopkbaaDoorW.PrintLast Go.Proofs.YtdbpdcjlbopkbaaDoorW.PrintMore Go.Proofs.YtdbpdcjlbopkbaaDoor.Q

theorem CodeTexts : parallaxlaw08_CodeTexts.Pure := by
  intro a b c s ha hb hc hs
  obtain ⟨b0, b1⟩ := wf64 hb
  obtain ⟨c0, c1⟩ := wf64 hc
  refine Ev.rounds ?_
  unfold parallaxlaw08_CodeTexts.f
  by_cases h : (s.size : Int) > 500
  · simp only [tt h, if_true]; exact known_fin
  simp only [ff h, if_false]
  refine Ev.bind (Text_ok a b c b0 b1 c0 c1) (Ev.bind (refText08_ok a b c b0 b1 c0 c1) (Ev.bind (Parse08_ok s (by omega)) (Ev.bind (refParse08_ok s (by omega)) ?_)))
  have e : ((PC (lineOf s)).1 == (PC (lineOf s)).1 && ((PC (lineOf s)).2.1 == (PC (lineOf s)).2.1 && ((PC (lineOf s)).2.2.1 == (PC (lineOf s)).2.2.1))) = true := by simp
  simp only [if_true, tt e]
  exact known_fin
end Go.Proofs.YtdbpdcjlbopkbaaDoor.Pure
