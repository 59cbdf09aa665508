/- An event's text: both programs say the same. -/
import Derived.Test.YthbgbeelcnfofaaPx11
import Derived.Test.YthbgbeelcnfofaaPx3
import Derived.Test.YthbgbeelcnfofaaQText
import Derived.Test.YthbgbeelcnfofaaQJoin
-- use: QText
-- use: QJoin
namespace Go.Proofs.Ythbgbeelcnfofaa.Q
set_option linter.unusedVariables false
set_option linter.unusedSimpArgs false
open Go.RowKit Go.Proofs.YthbgbeelcnfofaaW.PrintWords Go.Proofs.YthbgbeelcnfofaaW.PrintLast Go.Proofs.YthbgbeelcnfofaaW.PrintMore Go.Proofs.Ythbgbeelcnfofaa.P

theorem two (l : List Int) (x : Int) (hl : ∀ c ∈ l, Byte c) (hn : l.length ≤ 5) (h0 : -9223372036854775808 ≤ x) (h1 : x ≤ 9223372036854775807) : Ev (fun k => num_Join.f k [strOfNums l, strOfNums (T x)]) (strOfNums (l ++ 32 :: T x)) := by
  have bl := bytesOf_strOfNums hl
  have bt := bytesOf_strOfNums (T_byte x h0 h1)
  have := T_len x h0 h1
  have h := Join_ok [strOfNums l, strOfNums (T x)] (by simp) (by simp only [List.map_cons, List.map_nil, bl, bt, tl]; omega)
  simpa [bl, bt, jn] using h
theorem three (l : List Int) (y x : Int) (hl : ∀ c ∈ l, Byte c) (hn : l.length ≤ 5) (h0 : -9223372036854775808 ≤ x) (h1 : x ≤ 9223372036854775807) (g0 : -9223372036854775808 ≤ y) (g1 : y ≤ 9223372036854775807) : Ev (fun k => num_Join.f k [strOfNums l, strOfNums (T y), strOfNums (T x)]) (strOfNums (l ++ 32 :: (T y ++ 32 :: T x))) := by
  have bl := bytesOf_strOfNums hl
  have bt := bytesOf_strOfNums (T_byte x h0 h1)
  have by_ := bytesOf_strOfNums (T_byte y g0 g1)
  have := T_len x h0 h1
  have := T_len y g0 g1
  have h := Join_ok [strOfNums l, strOfNums (T y), strOfNums (T x)] (by simp) (by simp only [List.map_cons, List.map_nil, bl, bt, by_, tl]; omega)
  simpa [bl, bt, by_, jn] using h
/-- An event's text. -/
def txt (c x : Int) : List Int :=
  if c = 1 then [112, 114, 105, 110, 116] ++ 32 :: T x else if c = 2 then [114, 101, 97, 100] ++ 32 :: T x else if c = 3 then [101, 110, 100] else if c = 4 then [116, 114, 97, 112] ++ 32 :: T x else if c = 5 then [102, 117, 101, 108] else [101, 118, 101, 110, 116] ++ 32 :: (T c ++ 32 :: T x)
theorem Text15_ok (c x : Int) (h0 : -9223372036854775808 ≤ x) (h1 : x ≤ 9223372036854775807) (g0 : -9223372036854775808 ≤ c) (g1 : c ≤ 9223372036854775807) : Ev (fun k => align_Text.f k c x) (strOfNums (txt c x)) := by
  unfold align_Text.f txt
  have tx := Text_eq x h0 h1
  have tc := Text_eq c g0 g1
  by_cases c1 : c = 1
  · have e := tt c1
    simp only [e, if_true, tx, Option.bind_some]
    exact Ev.bind (two [112, 114, 105, 110, 116] x (by intro z hz; simp at hz; unfold Byte; omega) (by decide) h0 h1) (Ev.now _)
  have e1 := ff c1
  by_cases c2 : c = 2
  · have e := tt c2
    simp only [e1, e, if_true, if_false, tx, Option.bind_some]
    exact Ev.bind (two [114, 101, 97, 100] x (by intro z hz; simp at hz; unfold Byte; omega) (by decide) h0 h1) (Ev.now _)
  have e2 := ff c2
  by_cases c3 : c = 3
  · have e := tt c3
    simp only [e1, e2, e, if_true, if_false, tx, Option.bind_some]
    exact Ev.now _
  have e3 := ff c3
  by_cases c4 : c = 4
  · have e := tt c4
    simp only [e1, e2, e3, e, if_true, if_false, tx, Option.bind_some]
    exact Ev.bind (two [116, 114, 97, 112] x (by intro z hz; simp at hz; unfold Byte; omega) (by decide) h0 h1) (Ev.now _)
  have e4 := ff c4
  by_cases c5 : c = 5
  · have e := tt c5
    simp only [e1, e2, e3, e4, e, if_true, if_false, tx, Option.bind_some]
    exact Ev.now _
  have e5 := ff c5
  simp only [e1, e2, e3, e4, e5, if_true, if_false, tx, tc, Option.bind_some]
  exact Ev.bind (three [101, 118, 101, 110, 116] c x (by intro z hz; simp at hz; unfold Byte; omega) (by decide) h0 h1 g0 g1) (Ev.now _)
theorem strs (a b : List Int) : strOfNums a ++ strOfNums b = strOfNums (a ++ b) := by
  induction a with
  | nil => exact ByteArray.ext (by simp [strOfNums])
  | cons c a ih => rw [← strOfNums_cons c a, ByteArray.append_assoc, ih, strOfNums_cons]; rfl
theorem refText15_ok (c x : Int) (h0 : -9223372036854775808 ≤ x) (h1 : x ≤ 9223372036854775807) (g0 : -9223372036854775808 ≤ c) (g1 : c ≤ 9223372036854775807) : Ev (fun k => parallaxref15_Text.f k c x) (strOfNums (txt c x)) := by
  unfold parallaxref15_Text.f
  refine Ev.bind (refText_ok x h0 h1) ?_
  have lx := T_len x h0 h1
  have lc := T_len c g0 g1
  have z : ∀ u, (strOfNums u).size = u.length := strOfNums_size
  have s0 : (⟨#[]⟩ : ByteArray) = strOfNums [] := rfl
  have s1 : (⟨#[112, 114, 105, 110, 116, 32]⟩ : ByteArray) = strOfNums [112, 114, 105, 110, 116, 32] := rfl
  have s2 : (⟨#[114, 101, 97, 100, 32]⟩ : ByteArray) = strOfNums [114, 101, 97, 100, 32] := rfl
  have s3 : (⟨#[101, 110, 100]⟩ : ByteArray) = strOfNums [101, 110, 100] := rfl
  have s4 : (⟨#[116, 114, 97, 112, 32]⟩ : ByteArray) = strOfNums [116, 114, 97, 112, 32] := rfl
  have s5 : (⟨#[102, 117, 101, 108]⟩ : ByteArray) = strOfNums [102, 117, 101, 108] := rfl
  have s6 : (⟨#[101, 118, 101, 110, 116, 32]⟩ : ByteArray) = strOfNums [101, 118, 101, 110, 116, 32] := rfl
  have s7 : (⟨#[32]⟩ : ByteArray) = strOfNums [32] := rfl
  have k1 := tt (show 6 + (strOfNums (T x)).size ≤ 9223372036854775807 by rw [z]; omega)
  have k2 := tt (show 5 + (strOfNums (T x)).size ≤ 9223372036854775807 by rw [z]; omega)
  have k3 := tt (show 6 + (strOfNums (T c)).size ≤ 9223372036854775807 by rw [z]; omega)
  have k4 := tt (show (strOfNums ([101, 118, 101, 110, 116, 32] ++ T c)).size + 1 ≤ 9223372036854775807 by rw [z]; simp only [List.length_append, List.length_cons, List.length_nil]; omega)
  have k5 := tt (show (strOfNums ([101, 118, 101, 110, 116, 32] ++ T c ++ [32])).size + (strOfNums (T x)).size ≤ 9223372036854775807 by rw [z, z]; simp only [List.length_append, List.length_cons, List.length_nil]; omega)
  have other : ∀ (h : ¬ (1 ≤ c ∧ c ≤ 5)), txt c x = [101, 118, 101, 110, 116, 32] ++ T c ++ [32] ++ T x := by
    intro h
    unfold txt
    rw [if_neg (by omega), if_neg (by omega), if_neg (by omega), if_neg (by omega), if_neg (by omega)]
    simp
  simp only [s0, s1, s2, s3, s4, s5, s6, s7, strs, k1, k2, if_true, Option.bind_some]
  by_cases a1 : c < 1
  · have e := tt a1
    simp only [e, if_true]
    refine Ev.bind (refText_ok c g0 g1) ?_
    simp only [strs, k3, k4, k5, if_true]
    rw [other (by omega)]
    exact Ev.now _
  have e1 := ff a1
  by_cases a2 : c > 5
  · have e := tt a2
    simp only [e1, e, if_true, if_false]
    refine Ev.bind (refText_ok c g0 g1) ?_
    simp only [strs, k3, k4, k5, if_true]
    rw [other (by omega)]
    exact Ev.now _
  have e2 := ff a2
  have k6 := tt (show 0 ≤ c by omega)
  have k7 := tt (show c < (6 : Int) by omega)
  simp only [e1, e2, k6, if_true, if_false, List.length_cons, List.length_nil]
  have k8 := tt (show c < ((0 + 1 + 1 + 1 + 1 + 1 + 1 : Nat) : Int) by omega)
  simp only [k8, if_true]
  have hc : c = 1 ∨ c = 2 ∨ c = 3 ∨ c = 4 ∨ c = 5 := by omega
  rcases hc with rfl | rfl | rfl | rfl | rfl <;> exact Ev.now _

end Go.Proofs.Ythbgbeelcnfofaa.Q
