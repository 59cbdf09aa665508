/- An instruction's line: both programs say the same; a line's instruction, too. -/
import Derived.Test.YtdbpdcjlbopkbaaDoorPx10
import Derived.Test.YtdbpdcjlbopkbaaDoorPx12
import Derived.Test.YtdbpdcjlbopkbaaDoorPx2
import Derived.Test.YtdbpdcjlbopkbaaDoorQText
import Derived.Test.YtdbpdcjlbopkbaaDoorQJoin
import Derived.Test.YtdbpdcjlbopkbaaDoorQBase
import Derived.KernelRfl
-- use: QText
-- use: QJoin
-- use: QBase
namespace Go.Proofs.YtdbpdcjlbopkbaaDoor.Q
set_option linter.unusedVariables false
set_option linter.unusedSimpArgs false
open Go.RowKit Go.Proofs.YtdbpdcjlbopkbaaDoorW.PrintWords Go.Proofs.YtdbpdcjlbopkbaaDoorW.PrintLast Go.Proofs.YtdbpdcjlbopkbaaDoorW.PrintMore Go.Proofs.YtdbpdcjlbopkbaaDoor.P

theorem two (l : List Int) (x : Int) (hl : ∀ c ∈ l, Byte c) (hn : l.length ≤ 5) (h0 : -9223372036854775808 ≤ x) (h1 : x ≤ 9223372036854775807) : Ev (fun k => num_Join.f k [strOfNums l, strOfNums (T x)]) (strOfNums (l ++ 32 :: T x)) := by
  have bl := bytesOf_strOfNums hl
  have bt := bytesOf_strOfNums (T_byte x h0 h1)
  have := T_len x h0 h1
  have h := Join_ok [strOfNums l, strOfNums (T x)] (by simp) (by simp only [List.map_cons, List.map_nil, bl, bt, tl]; omega)
  simpa [bl, bt, jn] using h
theorem three (l : List Int) (y x : Int) (hl : ∀ c ∈ l, Byte c) (hn : l.length ≤ 5) (h0 : -9223372036854775808 ≤ x) (h1 : x ≤ 9223372036854775807) (g0 : -9223372036854775808 ≤ y) (g1 : y ≤ 9223372036854775807) : Ev (fun k => num_Join.f k [strOfNums l, strOfNums (T y), strOfNums (T x)]) (strOfNums (l ++ 32 :: (T y ++ 32 :: T x))) := by
  have bl := bytesOf_strOfNums hl
  have bt := bytesOf_strOfNums (T_byte x h0 h1)
  have by_ := bytesOf_strOfNums (T_byte y g0 g1)
  have := T_len x h0 h1
  have := T_len y g0 g1
  have h := Join_ok [strOfNums l, strOfNums (T y), strOfNums (T x)] (by simp) (by simp only [List.map_cons, List.map_nil, bl, bt, by_, tl]; omega)
  simpa [bl, bt, by_, jn] using h
theorem one (l : List Int) (hl : ∀ c ∈ l, Byte c) (hn : l.length ≤ 5) : Ev (fun k => num_Join.f k [strOfNums l]) (strOfNums l) := by
  have bl := bytesOf_strOfNums hl
  have h := Join_ok [strOfNums l] (by simp) (by simp only [List.map_cons, List.map_nil, bl, tl]; omega)
  simpa [bl, jn] using h

/-! The table. -/
def NUMS : List Int := [0, 1, 1, 1, 2, 2, 2, 0, 0, 0, 0, 0, 0, 0, 0, 0, 0, 1, 1, 2, 1, 0, 0, 0, 2, 0]
/-- An operation's word, how many numbers its line has. -/
def wd (op : Int) : List Int := bytesOf (rdOf ByteArray.empty code_WORDS op)
def nm (op : Int) : Int := rd NUMS op
theorem ops {op : Int} (h0 : 1 ≤ op) (h1 : op ≤ 25) : op = 1 ∨ op = 2 ∨ op = 3 ∨ op = 4 ∨ op = 5 ∨ op = 6 ∨ op = 7 ∨ op = 8 ∨ op = 9 ∨ op = 10 ∨ op = 11 ∨ op = 12 ∨ op = 13 ∨ op = 14 ∨ op = 15 ∨ op = 16 ∨ op = 17 ∨ op = 18 ∨ op = 19 ∨ op = 20 ∨ op = 21 ∨ op = 22 ∨ op = 23 ∨ op = 24 ∨ op = 25 := by omega
theorem numbers_at {op : Int} (h0 : 1 ≤ op) (h1 : op ≤ 25) : code_numbers.f 1 op = some (nm op) := by
  rcases ops h0 h1 with rfl | rfl | rfl | rfl | rfl | rfl | rfl | rfl | rfl | rfl | rfl | rfl | rfl | rfl | rfl | rfl | rfl | rfl | rfl | rfl | rfl | rfl | rfl | rfl | rfl <;> kernel_rfl
theorem numbers_ok {op : Int} (h0 : 1 ≤ op) (h1 : op ≤ 25) : Ev (fun k => code_numbers.f k op) (nm op) := Ev.of (fun k => code_numbers.mono _ k) (numbers_at h0 h1)
theorem Of_ok {op : Int} (h0 : 1 ≤ op) (h1 : op ≤ 25) : parallaxref08_Of.f op = some (rdOf ByteArray.empty code_WORDS op, nm op, rd code_STACK (op * 2), rd code_STACK (op * 2 + 1)) := by
  rcases ops h0 h1 with rfl | rfl | rfl | rfl | rfl | rfl | rfl | rfl | rfl | rfl | rfl | rfl | rfl | rfl | rfl | rfl | rfl | rfl | rfl | rfl | rfl | rfl | rfl | rfl | rfl <;> kernel_rfl
theorem Of_none {op : Int} (h : op < 1 ∨ 25 < op) : parallaxref08_Of.f op = some ((⟨#[]⟩ : ByteArray), 0, 0, 0) := by
  unfold parallaxref08_Of.f
  rw [Option.bind_some]
  rcases h with h | h
  · rw [if_pos h]
  · rw [if_neg (by omega), if_pos (by simp only [List.length_cons, List.length_nil]; omega)]
theorem nm_or {op : Int} (h0 : 1 ≤ op) (h1 : op ≤ 25) : nm op = 0 ∨ nm op = 1 ∨ nm op = 2 := by
  rcases ops h0 h1 with rfl | rfl | rfl | rfl | rfl | rfl | rfl | rfl | rfl | rfl | rfl | rfl | rfl | rfl | rfl | rfl | rfl | rfl | rfl | rfl | rfl | rfl | rfl | rfl | rfl <;> decide
theorem wd_len {op : Int} (h0 : 1 ≤ op) (h1 : op ≤ 25) : (wd op).length ≤ 5 ∧ (wd op ≠ []) ∧ ∀ c ∈ wd op, c ≠ 32 := by
  rcases ops h0 h1 with rfl | rfl | rfl | rfl | rfl | rfl | rfl | rfl | rfl | rfl | rfl | rfl | rfl | rfl | rfl | rfl | rfl | rfl | rfl | rfl | rfl | rfl | rfl | rfl | rfl <;> exact ⟨by decide +kernel, by decide +kernel, by decide +kernel⟩
theorem wd_byte (op : Int) : ∀ c ∈ wd op, Byte c := fun _ h => bytesOf_byte h
theorem wd_str (op : Int) : strOfNums (wd op) = rdOf ByteArray.empty code_WORDS op := strOfNums_bytesOf _

/-- An instruction's line. -/
def TX (op n m : Int) : ByteArray × Int :=
  if op < 1 ∨ 25 < op then (⟨#[]⟩, 61) else if nm op < 1 ∧ n ≠ 0 ∨ nm op < 2 ∧ m ≠ 0 then (⟨#[]⟩, 61) else
    (strOfNums (if nm op < 1 then wd op else if nm op < 2 then wd op ++ 32 :: T n else wd op ++ 32 :: (T n ++ 32 :: T m)), 0)

theorem Text_ok (op n m : Int) (n0 : -9223372036854775808 ≤ n) (n1 : n ≤ 9223372036854775807) (m0 : -9223372036854775808 ≤ m) (m1 : m ≤ 9223372036854775807) : Ev (fun k => code_Text.f k op n m) (TX op n m) := by
  unfold code_Text.f TX
  by_cases h0 : op < 1
  · rw [if_pos (.inl h0)]; simp only [tt h0, if_true]; exact Ev.now _
  by_cases h1 : 25 < op
  · rw [if_pos (.inr h1)]; simp only [ff h0, tt (show op > 25 from h1), if_true, if_false]; exact Ev.now _
  rw [if_neg (by omega)]
  simp only [ff h0, ff (show ¬ op > 25 from h1), if_false]
  refine Ev.bind (numbers_ok (by omega) (by omega)) ?_
  obtain ⟨wl, _, _⟩ := wd_len (op := op) (by omega) (by omega)
  have wb := wd_byte op
  simp only [← wd_str op]
  rw [show num_Text.f n = some (strOfNums (T n)) from Text_eq n n0 n1, show num_Text.f m = some (strOfNums (T m)) from Text_eq m m0 m1]
  rcases nm_or (op := op) (by omega) (by omega) with e | e | e <;> rw [e]
  · by_cases hn : n = 0
    · by_cases hm : m = 0
      · rw [if_neg (by omega)]
        simp only [show (0 : Int) < 1 by decide, if_true, tt hn, tt hm]
        exact Ev.bind (one _ wb wl) (Ev.now _)
      · rw [if_pos (.inr ⟨by decide, hm⟩)]
        simp only [show (0 : Int) < 1 by decide, if_true, if_false, tt hn, ff hm]
        exact Ev.now _
    · rw [if_pos (.inl ⟨by decide, hn⟩)]
      simp only [show (0 : Int) < 1 by decide, if_true, if_false, ff hn]
      exact Ev.now _
  · simp only [ff (show ¬ (1 : Int) < 1 by decide), tt (show (1 : Int) < 2 by decide), if_true, if_false, false_and, false_or, true_and, Option.bind_some]
    by_cases hm : m = 0
    · rw [if_neg (by simpa using hm)]
      simp only [tt hm, if_true]
      exact Ev.bind (two _ _ wb wl n0 n1) (Ev.now _)
    · rw [if_pos hm]
      simp only [ff hm, if_false]
      exact Ev.now _
  · simp only [ff (show ¬ (2 : Int) < 1 by decide), ff (show ¬ (2 : Int) < 2 by decide), if_true, if_false, false_and, false_or, or_self, Option.bind_some]
    exact Ev.bind (three _ _ _ wb wl m0 m1 n0 n1) (Ev.now _)

theorem strs (a b : List Int) : strOfNums a ++ strOfNums b = strOfNums (a ++ b) := by
  apply data_inj
  simp [strOfNums]
theorem blank : (⟨#[32]⟩ : ByteArray) = strOfNums [32] := by decide
theorem refj0_ok (op n m : Int) (w : List Int) (c t l : Int) (hc : c = 0 ∨ c = 1 ∨ c = 2) (hw : w.length ≤ 5) (n0 : -9223372036854775808 ≤ n) (n1 : n ≤ 9223372036854775807) (m0 : -9223372036854775808 ≤ m) (m1 : m ≤ 9223372036854775807) :
    Ev (fun k => parallaxref08_Text.j0 k false op n m (strOfNums w) c t l) (strOfNums (if c < 1 then w else if c < 2 then w ++ 32 :: T n else w ++ 32 :: (T n ++ 32 :: T m)), 0) := by
  refine evs ?_
  have c0 := ff (show ¬ (false = true) by decide)
  have hn := refText_ok n n0 n1
  have hm := refText_ok m m0 m1
  have ln := T_len n n0 n1
  have lm := T_len m m0 m1
  have d1 := tt (show w.length + 1 ≤ 9223372036854775807 by omega)
  have d2 := tt (show (w ++ [32]).length + (T n).length ≤ 9223372036854775807 by simp only [List.length_append, List.length_cons, List.length_nil]; omega)
  have d3 := tt (show ((w ++ [32]) ++ T n).length + 1 ≤ 9223372036854775807 by simp only [List.length_append, List.length_cons, List.length_nil]; omega)
  have d4 := tt (show (((w ++ [32]) ++ T n) ++ [32]).length + (T m).length ≤ 9223372036854775807 by simp only [List.length_append, List.length_cons, List.length_nil]; omega)
  simp only [parallaxref08_Text.j0, c0, if_false, blank, strs, strOfNums_size, d1, if_true]
  rcases hc with rfl | rfl | rfl
  · simp only [ff (show ¬ (0 : Int) > 0 by decide), ff (show ¬ (0 : Int) > 1 by decide), tt (show (0 : Int) < 1 by decide), if_true, if_false]
    exact Ev.now _
  · simp only [tt (show (1 : Int) > 0 by decide), ff (show ¬ (1 : Int) > 1 by decide), ff (show ¬ (1 : Int) < 1 by decide), tt (show (1 : Int) < 2 by decide), if_true, if_false]
    refine Ev.bind hn ?_
    simp only [strs, strOfNums_size, d2, if_true]
    rw [show w ++ 32 :: T n = w ++ [32] ++ T n by simp]
    exact Ev.now _
  · simp only [tt (show (2 : Int) > 0 by decide), tt (show (2 : Int) > 1 by decide), ff (show ¬ (2 : Int) < 1 by decide), ff (show ¬ (2 : Int) < 2 by decide), if_true, if_false]
    refine Ev.bind hn ?_
    simp only [strs, strOfNums_size, d2, d3, if_true]
    refine Ev.bind hm ?_
    simp only [strs, strOfNums_size, d4, if_true]
    rw [show w ++ 32 :: (T n ++ 32 :: T m) = w ++ [32] ++ T n ++ [32] ++ T m by simp]
    exact Ev.now _
theorem refj0_bad (op n m : Int) (w : ByteArray) (c t l : Int) : Ev (fun k => parallaxref08_Text.j0 k true op n m w c t l) ((⟨#[]⟩ : ByteArray), 61) := by
  refine evs ?_
  simp only [parallaxref08_Text.j0, if_true]
  exact Ev.now _
theorem bne_ff {m : Int} (h : m = 0) : (m != 0) = false := by simp [h]
theorem bne_tt {m : Int} (h : ¬ m = 0) : (m != 0) = true := by simp [h]
theorem refText08_ok (op n m : Int) (n0 : -9223372036854775808 ≤ n) (n1 : n ≤ 9223372036854775807) (m0 : -9223372036854775808 ≤ m) (m1 : m ≤ 9223372036854775807) : Ev (fun k => parallaxref08_Text.f k op n m) (TX op n m) := by
  unfold parallaxref08_Text.f TX
  by_cases h : op < 1 ∨ 25 < op
  · rw [if_pos h, Of_none h]
    simp only [Option.bind_some, tt ((toList_nil (⟨#[]⟩ : ByteArray)).2 rfl), if_true]
    exact refj0_bad _ _ _ _ _ _ _
  rw [if_neg h, Of_ok (op := op) (by omega) (by omega)]
  obtain ⟨wl, wn, _⟩ := wd_len (op := op) (by omega) (by omega)
  have hc := nm_or (op := op) (by omega) (by omega)
  have c1 := ff (show ¬ (rdOf ByteArray.empty code_WORDS op).toList = ([] : List UInt8) from fun h => wn ((toList_nil _).1 h))
  simp only [Option.bind_some, c1, if_false]
  rw [← wd_str op]
  have good := fun h0 h1 h2 h3 => refj0_ok op n m (wd op) (nm op) (rd code_STACK (op * 2)) (rd code_STACK (op * 2 + 1)) hc wl h0 h1 h2 h3
  have bad := refj0_bad op n m (strOfNums (wd op)) (nm op) (rd code_STACK (op * 2)) (rd code_STACK (op * 2 + 1))
  by_cases h1 : nm op < 1
  · have h2 : nm op < 2 := by omega
    by_cases hn : n = 0
    · by_cases hm : m = 0
      · rw [if_neg (by omega)]
        simp only [tt h1, tt h2, tt hn, if_true, bne_ff hm]
        have := good n0 n1 m0 m1
        rw [if_pos h1] at this
        exact this
      · rw [if_pos (.inr ⟨h2, hm⟩)]
        simp only [tt h1, tt h2, tt hn, if_true, bne_tt hm]
        exact bad
    · rw [if_pos (.inl ⟨h1, hn⟩)]
      simp only [tt h1, ff hn, if_true, if_false]
      exact bad
  · by_cases h2 : nm op < 2
    · by_cases hm : m = 0
      · rw [if_neg (by omega)]
        simp only [ff h1, tt h2, if_true, if_false, bne_ff hm]
        have := good n0 n1 m0 m1
        rw [if_neg h1, if_pos h2] at this
        exact this
      · rw [if_pos (.inr ⟨h2, hm⟩)]
        simp only [ff h1, tt h2, if_true, if_false, bne_tt hm]
        exact bad
    · rw [if_neg (by omega)]
      simp only [ff h1, ff h2, if_true, if_false]
      have := good n0 n1 m0 m1
      rw [if_neg h1, if_neg h2] at this
      exact this

theorem known_ok : Ev (fun k => parallaxlaw08_known.f k) true := Ev.of parallaxlaw08_known.mono parallaxlaw08_known.at_
theorem known_fin : Ev (fun k => (parallaxlaw08_known.f k).bind fun t => some t) true := Ev.bind known_ok (Ev.now _)
/-- The words of an instruction's line. -/
def WX (op n m : Int) : List (List Int) := if nm op < 1 then [wd op] else if nm op < 2 then [wd op, T n] else [wd op, T n, T m]
/-- Whether an instruction has a line. -/
def Fine (op n m : Int) : Prop := (1 ≤ op ∧ op ≤ 25) ∧ (nm op < 1 → n = 0) ∧ (nm op < 2 → m = 0)
theorem TX_fine {op n m : Int} (h : Fine op n m) : TX op n m = (strOfNums (jn false (WX op n m)), 0) := by
  obtain ⟨⟨h0, h1⟩, h2, h3⟩ := h
  unfold TX WX
  rw [if_neg (by omega), if_neg (by
    rintro (⟨a, b⟩ | ⟨a, b⟩)
    · exact b (h2 a)
    · exact b (h3 a))]
  split
  · simp [jn]
  · split <;> simp [jn]
theorem TX_not {op n m : Int} (h : ¬ Fine op n m) : TX op n m = (⟨#[]⟩, 61) := by
  unfold TX
  by_cases h0 : op < 1 ∨ 25 < op
  · rw [if_pos h0]
  rw [if_neg h0]
  by_cases h1 : nm op < 1 ∧ n ≠ 0 ∨ nm op < 2 ∧ m ≠ 0
  · rw [if_pos h1]
  refine absurd ⟨by omega, fun h2 => ?_, fun h2 => ?_⟩ h
  · by_cases e : n = 0
    · exact e
    · exact absurd (.inl ⟨h2, e⟩) h1
  · by_cases e : m = 0
    · exact e
    · exact absurd (.inr ⟨h2, e⟩) h1
instance (op n m : Int) : Decidable (Fine op n m) := by unfold Fine; exact inferInstance
end Go.Proofs.YtdbpdcjlbopkbaaDoor.Q
