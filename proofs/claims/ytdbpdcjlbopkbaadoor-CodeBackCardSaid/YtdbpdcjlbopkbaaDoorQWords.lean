/- A text's words: what num.Words comes to. -/
import Derived.Test.YtdbpdcjlbopkbaaDoorPx12
import Derived.Test.YtdbpdcjlbopkbaaDoorPx3
import Derived.Test.YtdbpdcjlbopkbaaDoorQStr
import Derived.Test.YtdbpdcjlbopkbaaDoorQJoin
-- use: QStr
-- use: QJoin
namespace Go.Proofs.YtdbpdcjlbopkbaaDoor.Q
set_option linter.unusedVariables false
set_option linter.unusedSimpArgs false
open Go.RowKit Go.Proofs.YtdbpdcjlbopkbaaDoorW.PrintWords Go.Proofs.YtdbpdcjlbopkbaaDoorW.PrintLast Go.Proofs.YtdbpdcjlbopkbaaDoorW.PrintMore Go.Proofs.YtdbpdcjlbopkbaaDoor.P

/-- The words of what is left, behind a word that has begun. -/
def ws : List Int → List Int → List (List Int)
  | [], cur => [cur]
  | c :: l, cur => if c = 32 then cur :: ws l [] else ws l (cur ++ [c])
/-- A text's words. -/
def wordsL (l : List Int) : List (List Int) := if l = [] then [] else ws l []
theorem ws_byte : ∀ (l cur : List Int), (∀ c ∈ l, Byte c) → (∀ c ∈ cur, Byte c) → ∀ w ∈ ws l cur, ∀ c ∈ w, Byte c
  | [], cur, _, h2 => fun w hw => by simp [ws] at hw; subst hw; exact h2
  | c :: l, cur, h1, h2 => by
    intro w hw
    simp only [ws] at hw
    split at hw
    · rcases List.mem_cons.1 hw with rfl | hw
      · exact h2
      · exact ws_byte l [] (fun x hx => h1 x (by simp [hx])) (fun _ h => by cases h) w hw
    · exact ws_byte l _ (fun x hx => h1 x (by simp [hx])) (fun x hx => by
        rcases List.mem_append.1 hx with hx | hx
        · exact h2 x hx
        · simp at hx; subst hx; exact h1 x (by simp)) w hw
theorem words_byte (s : ByteArray) : ∀ w ∈ wordsL (bytesOf s), ∀ c ∈ w, Byte c := by
  unfold wordsL
  split
  · intro w hw; cases hw
  · exact ws_byte _ _ (fun _ h => bytesOf_byte h) (fun _ h => by cases h)
theorem map_bytes {l : List (List Int)} (h : ∀ w ∈ l, ∀ c ∈ w, Byte c) : (l.map strOfNums).map bytesOf = l := by
  rw [List.map_map]
  conv => rhs; rw [← List.map_id l]
  exact List.map_congr_left (fun w hw => bytesOf_strOfNums (h w hw))
theorem ws_tl : ∀ (l cur : List Int), tl (ws l cur) = 1 + l.length + cur.length
  | [], cur => by simp [ws, tl]
  | c :: l, cur => by
    simp only [ws]
    split
    · simp only [tl, ws_tl l [], List.length_nil, List.length_cons]; omega
    · rw [ws_tl l _]; simp only [List.length_append, List.length_cons, List.length_nil]; omega
theorem ws_len : ∀ (l cur : List Int), (ws l cur).length ≤ l.length + 1
  | [], cur => by simp [ws]
  | c :: l, cur => by
    simp only [ws]
    split
    · have := ws_len l []; simp only [List.length_cons]; omega
    · have := ws_len l (cur ++ [c]); simp only [List.length_cons]; omega
theorem words_tl (l : List Int) : tl (wordsL l) ≤ 1 + l.length := by
  unfold wordsL
  split
  · simp [tl]
  · rw [ws_tl]; simp
theorem words_len (l : List Int) : (wordsL l).length ≤ 1 + l.length := by
  unfold wordsL
  split
  · simp
  · have := ws_len l []; omega

theorem extract_eq (s : ByteArray) (i j : Nat) : s.extract i j = strOfNums (((bytesOf s).take j).drop i) := by
  rw [← bytesOf_extract, strOfNums_bytesOf]
theorem Words_loop (s : ByteArray) (hs : s.size ≤ 8000000000000) : ∀ (d i f : Nat) (out : List ByteArray), i + d = s.size → f ≤ i → out.length ≤ i →
    Ev (fun k => num_Words.l0 k s out f i) (out ++ (ws ((bytesOf s).drop i) (((bytesOf s).take i).drop f)).map strOfNums) := by
  intro d
  induction d with
  | zero =>
    intro i f out hd hf ho
    have hL := bytesOf_length s
    rw [List.drop_of_length_le (i := i) (by omega), List.take_of_length_le (by omega)]
    refine evs ?_
    have c1 := ff (show ¬ (i : Int) < (s.size : Int) by omega)
    have c2 := tt (show (0 : Int) ≤ f by omega)
    have c3 := tt (show (f : Int) ≤ (s.size : Int) by omega)
    have c4 := tt (show out.length < 8796093022208 by omega)
    simp only [num_Words.l0, c1, c2, c3, c4, if_false, if_true, ws, List.map_cons, List.map_nil, Int.toNat_natCast]
    rw [extract_eq, List.take_of_length_le (by omega)]
    exact Ev.now _
  | succ d ih =>
    intro i f out hd hf ho
    have hL := bytesOf_length s
    have hi : i < s.size := by omega
    have c1 := tt (show (i : Int) < (s.size : Int) by omega)
    have c2 := tt (show (0 : Int) ≤ i by omega)
    have c3 := tt (show (0 : Int) ≤ f by omega)
    have c4 := tt (show (f : Int) ≤ (i : Int) by omega)
    have c5 := tt (show (i : Int) ≤ (s.size : Int) by omega)
    have c6 := tt (show out.length < 8796093022208 by omega)
    have c7 : wrap64 ((i : Int) + 1) = ((i + 1 : Nat) : Int) := by rw [w64 (by omega) (by omega)]; rfl
    rw [drop_rd (show i < (bytesOf s).length by omega)]
    have hb := bt_cast s i
    have htake : (bytesOf s).take (i + 1) = (bytesOf s).take i ++ [rd (bytesOf s) i] := by
      rw [List.take_succ_eq_append_getElem (by omega), rd_get (by omega)]
    generalize hc : rd (bytesOf s) i = c at hb htake
    refine evs ?_
    simp only [ws]
    by_cases h : c = 32
    · have c8 := tt h
      rw [if_pos h]
      have := ih (i + 1) (i + 1) (out ++ [s.extract f i]) (by omega) (Nat.le_refl _) (by simp; omega)
      rw [List.drop_of_length_le (i := i + 1) (l := List.take (i + 1) (bytesOf s)) (by simp; omega)] at this
      simp only [num_Words.l0, c1, c2, c3, c4, c5, c6, c7, c8, hb, if_true, Int.toNat_natCast, List.map_cons]
      rw [extract_eq] at this ⊢
      rw [List.append_assoc] at this
      exact this
    · have c8 := ff h
      rw [if_neg h]
      have := ih (i + 1) f out (by omega) (by omega) (by omega)
      rw [htake, List.drop_append_of_le_length (by simp; omega)] at this
      simp only [num_Words.l0, c1, c2, c7, c8, hb, if_true, if_false]
      exact this
theorem Words_ok (s : ByteArray) (hs : s.size ≤ 8000000000000) : Ev (fun k => num_Words.f k s) ((wordsL (bytesOf s)).map strOfNums) := by
  unfold num_Words.f wordsL
  by_cases h : bytesOf s = []
  · have c1 := tt ((toList_nil s).2 h)
    simp only [c1, if_true, if_pos h, List.map_nil]
    exact Ev.now _
  · have c1 := ff (fun hh => h ((toList_nil s).1 hh))
    simp only [c1, if_false, if_neg h]
    exact Words_loop s hs s.size 0 0 [] (by omega) (Nat.le_refl _) (by simp)
/-- Words that are joined again are the text. -/
theorem jn_cons (l : List (List Int)) (h : l ≠ []) : jn true l = 32 :: jn false l := by
  cases l with
  | nil => exact absurd rfl h
  | cons w l => simp [jn]
theorem ws_ne : ∀ (l cur : List Int), ws l cur ≠ []
  | [], cur => by simp [ws]
  | c :: l, cur => by
    simp only [ws]
    split
    · simp
    · exact ws_ne l _
theorem jn_ws : ∀ (l cur : List Int), jn false (ws l cur) = cur ++ l
  | [], cur => by simp [ws, jn]
  | c :: l, cur => by
    simp only [ws]
    split
    · rename_i h
      simp only [jn]
      rw [jn_cons _ (ws_ne l []), jn_ws l [], h]
      simp
    · rw [jn_ws l _]; simp
theorem jn_words (l : List Int) : jn false (wordsL l) = l := by
  unfold wordsL
  split
  · rename_i h; rw [h]; rfl
  · rw [jn_ws]; rfl
/-- Words that have no blank are those of what they are joined to. -/
theorem ws_word : ∀ (w r cur : List Int), (∀ c ∈ w, c ≠ 32) → ws (w ++ r) cur = ws r (cur ++ w)
  | [], r, cur, _ => by simp
  | c :: w, r, cur, h => by
    simp only [List.cons_append, ws]
    rw [if_neg (h c (by simp)), ws_word w r _ (fun x hx => h x (by simp [hx]))]
    simp
theorem ws_jn : ∀ (l : List (List Int)) (cur : List Int), (∀ w ∈ l, ∀ c ∈ w, c ≠ 32) → ws (jn true l) cur = cur :: l
  | [], cur, _ => by simp [jn, ws]
  | w :: l, cur, h => by
    simp only [jn, ws, if_true]
    rw [ws_word w _ [] (h w (by simp)), ws_jn l _ (fun x hx => h x (by simp [hx]))]
    simp
theorem words_jn (l : List (List Int)) (h : ∀ w ∈ l, ∀ c ∈ w, c ≠ 32) (hl : l ≠ []) (h1 : l ≠ [[]]) : wordsL (jn false l) = l := by
  cases l with
  | nil => exact absurd rfl hl
  | cons w l =>
    simp only [jn]
    unfold wordsL
    rw [if_neg, ws_word w _ [] (h w (by simp)), ws_jn l _ (fun x hx => h x (by simp [hx]))]
    · simp
    · intro he
      obtain ⟨rfl, h2⟩ := List.append_eq_nil_iff.1 he
      cases l with
      | nil => exact h1 rfl
      | cons x l => simp [jn] at h2

theorem strOf_append (a b : List Int) : strOfNums a ++ strOfNums b = strOfNums (a ++ b) := by
  apply data_inj
  simp [strOfNums]
theorem strOf_size (l : List Int) : (strOfNums l).size = l.length := by simp [strOfNums, ByteArray.size]
theorem refWords_loop (s : ByteArray) (hs : s.size ≤ 8000000000000) : ∀ (d i : Nat) (cur : List Int) (out : List ByteArray), i + d = s.size → cur.length ≤ i → out.length ≤ i →
    Ev (fun k => parallaxref01_Words.l0 k s out (strOfNums cur) i) (out ++ (ws ((bytesOf s).drop i) cur).map strOfNums) := by
  intro d
  induction d with
  | zero =>
    intro i cur out hd hf ho
    have hL := bytesOf_length s
    rw [List.drop_of_length_le (i := i) (by omega)]
    refine evs ?_
    have c1 := ff (show ¬ (i : Int) < (s.size : Int) by omega)
    have c4 := tt (show out.length < 8796093022208 by omega)
    simp only [parallaxref01_Words.l0, c1, c4, if_false, if_true, ws, List.map_cons, List.map_nil]
    exact Ev.now _
  | succ d ih =>
    intro i cur out hd hf ho
    have hL := bytesOf_length s
    have hi : i < s.size := by omega
    have c1 := tt (show (i : Int) < (s.size : Int) by omega)
    have c2 := tt (show (0 : Int) ≤ i by omega)
    have c3 := tt (show (i : Int) ≤ ((i + 1 : Nat) : Int) by omega)
    have c5 := tt (show ((i + 1 : Nat) : Int) ≤ (s.size : Int) by omega)
    have c6 := tt (show out.length < 8796093022208 by omega)
    have c7 : wrap64 ((i : Int) + 1) = ((i + 1 : Nat) : Int) := by rw [w64 (by omega) (by omega)]; rfl
    have e1 : s.extract i (i + 1) = strOfNums [rd (bytesOf s) i] := by
      rw [extract_eq, List.take_succ_eq_append_getElem (by omega), List.drop_append_of_le_length (by simp; omega), List.drop_of_length_le (by rw [List.length_take]; omega), rd_get (by omega)]
      rfl
    rw [drop_rd (show i < (bytesOf s).length by omega)]
    have hb := bt_cast s i
    generalize hc : rd (bytesOf s) i = c at hb e1
    have c9 := tt (show (strOfNums cur).size + (strOfNums [c]).size ≤ 9223372036854775807 by rw [strOf_size, strOf_size]; simp only [List.length_cons, List.length_nil]; omega)
    refine evs ?_
    simp only [ws]
    by_cases h : c = 32
    · have c8 := tt h
      rw [if_pos h]
      have := ih (i + 1) [] (out ++ [strOfNums cur]) (by omega) (by simp) (by simp; omega)
      simp only [parallaxref01_Words.l0, c1, c2, c6, c7, c8, hb, if_true, List.map_cons]
      rw [List.append_assoc] at this
      exact this
    · have c8 := ff h
      rw [if_neg h]
      have := ih (i + 1) (cur ++ [c]) out (by omega) (by simp; omega) (by omega)
      simp only [parallaxref01_Words.l0, c1, c2, c3, c5, c7, c8, hb, if_true, if_false, Int.toNat_natCast, e1, c9, strOf_append]
      exact this
theorem refWords_ok (s : ByteArray) (hs : s.size ≤ 8000000000000) : Ev (fun k => parallaxref01_Words.f k s) ((wordsL (bytesOf s)).map strOfNums) := by
  unfold parallaxref01_Words.f wordsL
  by_cases h : bytesOf s = []
  · have c1 := tt ((toList_nil s).2 h)
    simp only [c1, if_true, if_pos h, List.map_nil]
    exact Ev.now _
  · have c1 := ff (fun hh => h ((toList_nil s).1 hh))
    simp only [c1, if_false, if_neg h]
    exact refWords_loop s hs s.size 0 [] [] (by omega) (by simp) (by simp)
end Go.Proofs.YtdbpdcjlbopkbaaDoor.Q
