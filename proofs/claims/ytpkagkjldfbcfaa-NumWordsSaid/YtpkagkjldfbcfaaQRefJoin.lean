/- The reference's join of words. -/
import Derived.Test.YtpkagkjldfbcfaaPx7
import Derived.Test.YtpkagkjldfbcfaaQJoin
import Derived.Test.YtpkagkjldfbcfaaQRefWords
-- use: QJoin
-- use: QRefWords
namespace Go.Proofs.Ytpkagkjldfbcfaa.Q
set_option linter.unusedVariables false
set_option linter.unusedSimpArgs false
open Go.RowKit Go.Proofs.YtpkagkjldfbcfaaW.PrintWords Go.Proofs.YtpkagkjldfbcfaaW.PrintLast Go.Proofs.YtpkagkjldfbcfaaW.PrintMore Go.Proofs.Ytpkagkjldfbcfaa.P
theorem refJoin_loop (l : List ByteArray) : ∀ (d i : Nat) (out : List Int), i + d = l.length → l.length ≤ 9000000000000000000 → (i = 0 → out = []) → out.length + tl ((l.drop i).map bytesOf) < 140737488355328 →
    Ev (fun k => parallaxref01_Join.l0 k l (strOfNums out) i) (strOfNums (out ++ jn (decide (0 < i)) ((l.drop i).map bytesOf))) := by
  intro d
  induction d with
  | zero =>
    intro i out hd hlen h0 hsz
    rw [List.drop_of_length_le (by omega)]
    refine evs ?_
    have c1 := ff (show ¬ (i : Int) < (l.length : Int) by omega)
    simp only [parallaxref01_Join.l0, c1, if_false, List.map_nil, jn, List.append_nil]
    exact Ev.now _
  | succ d ih =>
    intro i out hd hlen h0 hsz
    have hi : i < l.length := by omega
    have c1 := tt (show (i : Int) < (l.length : Int) by omega)
    have c2 := tt (show (0 : Int) ≤ i by omega)
    have c4 : wrap64 ((i : Int) + 1) = ((i + 1 : Nat) : Int) := by rw [w64 (by omega) (by omega)]; rfl
    rw [bdrop_rd hi] at hsz ⊢
    have hs : rdOf ByteArray.empty l i = strOfNums (bytesOf (rdOf ByteArray.empty l i)) := (strOfNums_bytesOf _).symm
    simp only [List.map_cons, tl] at hsz
    simp only [List.map_cons]
    generalize bytesOf (rdOf ByteArray.empty l i) = b at hsz hs ⊢
    have hnext : decide (0 < i + 1) = true := by simp
    have e32 : (⟨#[32]⟩ : ByteArray) = strOfNums [32] := rfl
    by_cases h : 0 < i
    · have c5 := tt (show (i : Int) > 0 by omega)
      have c6 := tt (show (strOfNums out).size + 1 ≤ 9223372036854775807 by rw [strOf_size]; omega)
      have c7 := tt (show (strOfNums (out ++ [32])).size + (strOfNums b).size ≤ 9223372036854775807 by rw [strOf_size, strOf_size]; simp only [List.length_append, List.length_cons, List.length_nil]; omega)
      have := ih (i + 1) (out ++ [32] ++ b) (by omega) hlen (by omega) (by simp only [List.length_append, List.length_cons, List.length_nil]; omega)
      rw [hnext] at this
      have e : decide (0 < i) = true := decide_eq_true h
      rw [e]
      refine evs ?_
      simp only [parallaxref01_Join.l0, c1, c2, c4, c5, c6, if_true, hs, e32, strOf_append, c7]
      simp only [jn]
      rw [show out ++ 32 :: (b ++ jn true (List.map bytesOf (l.drop (i + 1)))) = out ++ [32] ++ b ++ jn true (List.map bytesOf (l.drop (i + 1))) by simp]
      exact this
    · have hz : i = 0 := by omega
      have c5 := ff (show ¬ (i : Int) > 0 by omega)
      have c7 := tt (show (strOfNums out).size + (strOfNums b).size ≤ 9223372036854775807 by rw [strOf_size, strOf_size]; omega)
      have := ih (i + 1) (out ++ b) (by omega) hlen (by omega) (by simp only [List.length_append]; omega)
      rw [hnext] at this
      have e : decide (0 < i) = false := decide_eq_false h
      rw [e]
      refine evs ?_
      simp only [parallaxref01_Join.l0, c1, c2, c4, c5, if_true, if_false, hs, strOf_append, c7]
      simp only [jn]
      rw [← List.append_assoc]
      exact this
theorem refJoin_ok (l : List ByteArray) (hlen : l.length ≤ 9000000000000000000) (hsz : tl (l.map bytesOf) < 140737488355328) : Ev (fun k => parallaxref01_Join.f k l) (strOfNums (jn false (l.map bytesOf))) :=
  refJoin_loop l l.length 0 [] (by omega) hlen (fun _ => rfl) (by simpa using hsz)
end Go.Proofs.Ytpkagkjldfbcfaa.Q
