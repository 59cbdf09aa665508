/- The reference's words of a text. -/
import Derived.Test.YtdbpdcjlbopkbaaDoorPx12
import Derived.Test.YtdbpdcjlbopkbaaDoorQWords
-- use: QWords
namespace Go.Proofs.YtdbpdcjlbopkbaaDoor.Q
set_option linter.unusedVariables false
set_option linter.unusedSimpArgs false
open Go.RowKit Go.Proofs.YtdbpdcjlbopkbaaDoorW.PrintWords Go.Proofs.YtdbpdcjlbopkbaaDoorW.PrintLast Go.Proofs.YtdbpdcjlbopkbaaDoorW.PrintMore Go.Proofs.YtdbpdcjlbopkbaaDoor.P
theorem strOf_append (a b : List Int) : strOfNums a ++ strOfNums b = strOfNums (a ++ b) := by
  apply data_inj
  simp [strOfNums]
theorem strOf_size (l : List Int) : (strOfNums l).size = l.length := by simp [strOfNums, ByteArray.size]
theorem refWords_loop (s : ByteArray) (hs : s.size ≤ 8000000000000) : ∀ (d i : Nat) (cur : List Int) (out : List ByteArray), i + d = s.size → cur.length ≤ i → out.length ≤ i →
    Ev (fun k => parallaxref01_Words.l0 k s out (strOfNums cur) i) (out ++ (ws ((bytesOf s).drop i) cur).map strOfNums) := by
  intro d
  induction d with
  | zero =>
    intro i cur out hd hf ho
    have hL := bytesOf_length s
    rw [List.drop_of_length_le (i := i) (by omega)]
    refine evs ?_
    have c1 := ff (show ¬ (i : Int) < (s.size : Int) by omega)
    have c4 := tt (show out.length < 8796093022208 by omega)
    simp only [parallaxref01_Words.l0, c1, c4, if_false, if_true, ws, List.map_cons, List.map_nil]
    exact Ev.now _
  | succ d ih =>
    intro i cur out hd hf ho
    have hL := bytesOf_length s
    have hi : i < s.size := by omega
    have c1 := tt (show (i : Int) < (s.size : Int) by omega)
    have c2 := tt (show (0 : Int) ≤ i by omega)
    have c3 := tt (show (i : Int) ≤ ((i + 1 : Nat) : Int) by omega)
    have c5 := tt (show ((i + 1 : Nat) : Int) ≤ (s.size : Int) by omega)
    have c6 := tt (show out.length < 8796093022208 by omega)
    have c7 : wrap64 ((i : Int) + 1) = ((i + 1 : Nat) : Int) := by rw [w64 (by omega) (by omega)]; rfl
    have e1 : s.extract i (i + 1) = strOfNums [rd (bytesOf s) i] := by
      rw [extract_eq, List.take_succ_eq_append_getElem (by omega), List.drop_append_of_le_length (by simp; omega), List.drop_of_length_le (by rw [List.length_take]; omega), rd_get (by omega)]
      rfl
    rw [drop_rd (show i < (bytesOf s).length by omega)]
    have hb := bt_cast s i
    generalize hc : rd (bytesOf s) i = c at hb e1
    have c9 := tt (show (strOfNums cur).size + (strOfNums [c]).size ≤ 9223372036854775807 by rw [strOf_size, strOf_size]; simp only [List.length_cons, List.length_nil]; omega)
    refine evs ?_
    simp only [ws]
    by_cases h : c = 32
    · have c8 := tt h
      rw [if_pos h]
      have := ih (i + 1) [] (out ++ [strOfNums cur]) (by omega) (by simp) (by simp; omega)
      simp only [parallaxref01_Words.l0, c1, c2, c6, c7, c8, hb, if_true, List.map_cons]
      rw [List.append_assoc] at this
      exact this
    · have c8 := ff h
      rw [if_neg h]
      have := ih (i + 1) (cur ++ [c]) out (by omega) (by simp; omega) (by omega)
      simp only [parallaxref01_Words.l0, c1, c2, c3, c5, c7, c8, hb, if_true, if_false, Int.toNat_natCast, e1, c9, strOf_append]
      exact this
theorem refWords_ok (s : ByteArray) (hs : s.size ≤ 8000000000000) : Ev (fun k => parallaxref01_Words.f k s) ((wordsL (bytesOf s)).map strOfNums) := by
  unfold parallaxref01_Words.f wordsL
  by_cases h : bytesOf s = []
  · have c1 := tt ((toList_nil s).2 h)
    simp only [c1, if_true, if_pos h, List.map_nil]
    exact Ev.now _
  · have c1 := ff (fun hh => h ((toList_nil s).1 hh))
    simp only [c1, if_false, if_neg h]
    exact refWords_loop s hs s.size 0 [] [] (by omega) (by simp) (by simp)
end Go.Proofs.YtdbpdcjlbopkbaaDoor.Q
