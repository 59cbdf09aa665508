/- Any text has its words, and any words are joined; at every input, without a condition. -/
import Derived.Test.YtpkagkjldfbcfaaPx7
import Derived.Test.YtpkagkjldfbcfaaQLong01
import Derived.Test.YtpkagkjldfbcfaaQSame
import Derived.Test.YtpkagkjldfbcfaaQWords
import Derived.Test.YtpkagkjldfbcfaaQRefWords
import Derived.Test.YtpkagkjldfbcfaaQJoin
import Derived.Test.YtpkagkjldfbcfaaQRefJoin
import Derived.Test.YtpkagkjldfbcfaaQKnown01
-- use: QLong01
-- use: QSame
-- use: QWords
-- use: QRefWords
-- use: QJoin
-- use: QRefJoin
-- use: QKnown01
namespace Go.Proofs.Ytpkagkjldfbcfaa.Pure
set_option linter.unusedVariables false
set_option linter.unusedSimpArgs false
open Go.RowKit Go.Proofs.Ytpkagkjldfbcfaa.P Go.Proofs.YtpkagkjldfbcfaaW.PrintWords Go.Proofs.YtpkagkjldfbcfaaW.PrintLast Go.Proofs.YtpkagkjldfbcfaaW.PrintMore Go.Proofs.Ytpkagkjldfbcfaa.Q

theorem total_tl (l : List ByteArray) : tl (l.map bytesOf) = total l := by
  induction l with
  | nil => rfl
  | cons s l ih => simp only [List.map_cons, tl, total, ih, bytesOf_length]
theorem NumWords : parallaxlaw01_NumWords.Pure := by
  intro s l hs hl
  refine Ev.rounds ?_
  unfold parallaxlaw01_NumWords.f
  obtain ⟨b, hb, hb2⟩ := long_one s hs
  obtain ⟨b', hb', hb2'⟩ := long_ok l (by omega) hl.2
  have jt : Ev (fun k => parallaxlaw01_NumWords.j0 k s l true) true := by
    refine evs ?_
    simp only [parallaxlaw01_NumWords.j0, if_true]
    exact known_fin
  refine Ev.bind hb ?_
  cases b with
  | true =>
    simp only [if_true]
    exact jt
  | false =>
    have c := ff (show ¬ (false = true) by decide)
    simp only [c, if_false]
    refine Ev.bind hb' ?_
    cases b' with
    | true => exact jt
    | false =>
      have h1 := hb2 rfl
      have h2 := hb2' rfl
      refine evs ?_
      simp only [parallaxlaw01_NumWords.j0, c, if_false]
      refine Ev.bind (Words_ok s (by omega)) (Ev.bind (refWords_ok s (by omega)) (Ev.bind (Same_ok _ (by
        have := words_len (bytesOf s)
        have := bytesOf_length s
        simp only [List.length_map]
        omega)) ?_))
      simp only [if_true]
      have hlen : l.length ≤ 9000000000000000000 := by omega
      have ht : tl (l.map bytesOf) < 140737488355328 := by rw [total_tl]; omega
      refine Ev.bind (Join_ok l hlen ht) (Ev.bind (refJoin_ok l hlen ht) ?_)
      simp only [if_true]
      exact known_fin

end Go.Proofs.Ytpkagkjldfbcfaa.Pure
