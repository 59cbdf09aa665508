/- Of any codes both programs tell alike whether they are sound, at every input, without a condition. -/
import Derived.Test.YtdbpdcjlbopkbaaDoorPx23
import Derived.Test.YtdbpdcjlbopkbaaDoorQSound
-- use: QSound
namespace Go.Proofs.YtdbpdcjlbopkbaaDoor.Pure
set_option linter.unusedVariables false
set_option linter.unusedSimpArgs false
open Go.RowKit Go.Proofs.YtdbpdcjlbopkbaaDoor.P Go.Proofs.YtdbpdcjlbopkbaaDoorW.PrintWords Go.Proofs.YtdbpdcjlbopkbaaDoorW.PrintLast Go.Proofs.YtdbpdcjlbopkbaaDoorW.PrintMore Go.Proofs.YtdbpdcjlbopkbaaDoor.Q

theorem CodeSound : parallaxlaw08_CodeSound.Pure := by
  intro l m hl hm
  have hlen : l.length ≤ 10000000000000 := by have := hl.1; omega
  have hf : FitC l := fun x hx => (hl.2 x hx).1.2
  have hb : ∀ x ∈ l, x.f0.length ≤ 1000000000000000 := fun x hx => by have := (hl.2 x hx).1.1; omega
  refine Ev.rounds ?_
  unfold parallaxlaw08_CodeSound.f
  have kt : Ev (fun k => parallaxlaw08_CodeSound.j0 k l m true) true := evs (by simp only [parallaxlaw08_CodeSound.j0, if_true]; exact known_fin)
  have kf : Ev (fun k => parallaxlaw08_CodeSound.j0 k l m false) true := by
    obtain ⟨r, h1, h2, _⟩ := Sound_both l hf m
    refine evs ?_
    have c3 := ff (show ¬ (false = true) by decide)
    simp only [parallaxlaw08_CodeSound.j0, c3, if_false]
    refine Ev.bind h1 (Ev.bind h2 ?_)
    have e : (r == r) = true := by simp
    simp only [e, if_true]
    exact known_fin
  obtain ⟨g, hg⟩ := great_ok l hlen hb
  obtain ⟨s, hs⟩ := Size_ok l hlen hb 70000 (by omega)
  refine Ev.bind hg ?_
  cases g with
  | true => simp only [if_true]; exact kt
  | false =>
    have c3 := ff (show ¬ (false = true) by decide)
    simp only [c3, if_false]
    refine Ev.bind hs ?_
    cases decide (s > 70000) with
    | true => exact kt
    | false => exact kf
end Go.Proofs.YtdbpdcjlbopkbaaDoor.Pure
