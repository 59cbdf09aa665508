/- The reference reads a number's text as num.Parse does. -/
import Derived.Test.YtdbpdcjlbopkbaaDoorPx11
import Derived.Test.YtdbpdcjlbopkbaaDoorPx13
import Derived.Test.YtdbpdcjlbopkbaaDoorQParse
-- use: QParse
namespace Go.Proofs.YtdbpdcjlbopkbaaDoor.Q
set_option linter.unusedVariables false
set_option linter.unusedSimpArgs false
open Go.RowKit Go.Proofs.YtdbpdcjlbopkbaaDoorW.PrintWords Go.Proofs.YtdbpdcjlbopkbaaDoorW.PrintLast Go.Proofs.YtdbpdcjlbopkbaaDoorW.PrintMore Go.Proofs.YtdbpdcjlbopkbaaDoor.P

/-- The number that the reference makes of the digits among the first 25 signs. -/
def rl : List Int → Nat → Int → Int
  | [], _, n => n
  | c :: l, i, n => if i < 25 then (if 48 ≤ c ∧ c ≤ 57 then rl l (i + 1) (wrap64 (wrap64 (n * 10) + (c - 48))) else rl l (i + 1) n) else n
theorem rl_range : ∀ (l : List Int) (i : Nat) (n : Int), -9223372036854775808 ≤ n → n ≤ 9223372036854775807 → -9223372036854775808 ≤ rl l i n ∧ rl l i n ≤ 9223372036854775807
  | [], _, n, h0, h1 => ⟨h0, h1⟩
  | c :: l, i, n, h0, h1 => by
    simp only [rl]
    split
    · split
      · exact rl_range l _ _ (w64_range _).1 (w64_range _).2
      · exact rl_range l _ _ h0 h1
    · exact ⟨h0, h1⟩
theorem rl_digits : ∀ (l : List Int) (i u : Nat), (∀ c ∈ l, Digit c) → i + l.length ≤ 25 → rl l i (wrap64 u) = wrap64 (dv l u)
  | [], _, _, _, _ => rfl
  | c :: l, i, u, hd, hl => by
    obtain ⟨h1, h2⟩ := hd c (by simp)
    simp only [List.length_cons] at hl
    simp only [rl, dv]
    rw [if_pos (by omega), if_pos ⟨h1, h2⟩, ← rl_digits l (i + 1) (u * 10 + (c - 48).toNat) (fun x hx => hd x (by simp [hx])) (by omega)]
    congr 1
    unfold wrap64
    omega
/-- What is made of the number in the end. -/
def tail (l : List Int) (n : Int) : Int × Int := if T n = l then (n, 0) else (0, 10)
def signed (l : List Int) (n : Int) : Int := if l ≠ [] ∧ rd l 0 = 45 then wrap64 (-n) else n
theorem text_same (a : Int) (h0 : -9223372036854775808 ≤ a) (h1 : a ≤ 9223372036854775807) (s : ByteArray) : (strOfNums (T a)).toList = s.toList ↔ T a = bytesOf s := by
  rw [toList_bytes, bytesOf_strOfNums (T_byte a h0 h1)]
theorem tail_ok (s : ByteArray) (n : Int) (h0 : -9223372036854775808 ≤ n) (h1 : n ≤ 9223372036854775807) :
    Ev (fun k => (parallaxref01_Text.f k n).bind fun t => if t.toList = s.toList then some (n, 0) else some ((0 : Int), (10 : Int))) (tail (bytesOf s) n) := by
  refine Ev.bind (refText_ok n h0 h1) ?_
  unfold tail
  by_cases h : T n = bytesOf s
  · have c1 := tt ((text_same n h0 h1 s).2 h)
    simp only [c1, if_true, if_pos h]
    exact Ev.now _
  · have c1 := ff (fun hh => h ((text_same n h0 h1 s).1 hh))
    simp only [c1, if_false, if_neg h]
    exact Ev.now _
theorem refj2_ok (s : ByteArray) (n : Int) (h0 : -9223372036854775808 ≤ n) (h1 : n ≤ 9223372036854775807) (b : Bool) : Ev (fun k => parallaxref01_Parse.j2 k s n b) (tail (bytesOf s) (if b = true then wrap64 (-n) else n)) := by
  refine evs ?_
  cases b with
  | true =>
    simp only [parallaxref01_Parse.j2, if_true]
    exact Ev.bind (Neg_ok n) (tail_ok s _ (w64_range _).1 (w64_range _).2)
  | false =>
    have c := ff (show ¬ (false = true) by decide)
    simp only [parallaxref01_Parse.j2, c, if_false]
    exact tail_ok s n h0 h1
theorem refj1_end (s : ByteArray) (n : Int) (i : Nat) (h0 : -9223372036854775808 ≤ n) (h1 : n ≤ 9223372036854775807) : Ev (fun k => parallaxref01_Parse.j1 k s n i false) (tail (bytesOf s) (signed (bytesOf s) n)) := by
  refine evs ?_
  have c := ff (show ¬ (false = true) by decide)
  unfold signed
  by_cases h : bytesOf s = []
  · have hz : s.size = 0 := by rw [size_len, h]; rfl
    have c1 := ff (show ¬ (s.size : Int) > 0 by omega)
    rw [if_neg (fun hh => hh.1 h)]
    simp only [parallaxref01_Parse.j1, c, c1, if_false]
    have := refj2_ok s n h0 h1 false
    exact this
  · have hp : 0 < s.size := by rw [size_len]; exact List.length_pos_iff.2 h
    have c1 := tt (show (s.size : Int) > 0 by omega)
    have c2 := tt (show 0 < (s.size : Int) by omega)
    have hb : bt s 0 = rd (bytesOf s) 0 := bt_cast s 0
    simp only [parallaxref01_Parse.j1, c, c1, c2, hb, if_true, if_false]
    by_cases h45 : rd (bytesOf s) 0 = 45
    · have c3 : (rd (bytesOf s) 0 == 45) = true := by rw [h45]; rfl
      rw [if_pos ⟨h, h45⟩]
      simp only [c3]
      exact refj2_ok s n h0 h1 true
    · have c3 : (rd (bytesOf s) 0 == 45) = false := beq_eq_false_iff_ne.mpr h45
      rw [if_neg (fun hh => h45 hh.2)]
      simp only [c3]
      exact refj2_ok s n h0 h1 false
theorem ref_loop (s : ByteArray) (hs : s.size ≤ 140737488351232) : ∀ (d i : Nat) (n : Int), i + d = s.size → -9223372036854775808 ≤ n → n ≤ 9223372036854775807 →
    Ev (fun k => parallaxref01_Parse.l0 k s n i) (tail (bytesOf s) (signed (bytesOf s) (rl ((bytesOf s).drop i) i n))) := by
  intro d
  induction d with
  | zero =>
    intro i n hd h0 h1
    rw [List.drop_of_length_le (by rw [bytesOf_length]; omega)]
    refine evs ?_
    have c1 := ff (show ¬ (i : Int) < (s.size : Int) by omega)
    simp only [parallaxref01_Parse.l0, c1, if_false]
    exact refj1_end s n i h0 h1
  | succ d ih =>
    intro i n hd h0 h1
    have hi : i < s.size := by omega
    have c1 := tt (show (i : Int) < (s.size : Int) by omega)
    have c2 := tt (show (0 : Int) ≤ i by omega)
    have c4 : wrap64 ((i : Int) + 1) = ((i + 1 : Nat) : Int) := by rw [w64 (by omega) (by omega)]; rfl
    obtain ⟨y0, y1⟩ := rd_byte s hi
    rw [drop_rd (show i < (bytesOf s).length by rw [bytesOf_length]; exact hi)]
    have hb := bt_cast s i
    generalize rd (bytesOf s) i = c at y0 y1 hb
    refine evs ?_
    simp only [rl]
    by_cases h25 : i < 25
    · have c5 : decide ((i : Int) < 25) = true := decide_eq_true (by omega)
      rw [if_pos h25]
      simp only [parallaxref01_Parse.l0, c1, c5, if_true]
      refine evs ?_
      by_cases h48 : 48 ≤ c
      · have c6 := tt (show c ≥ 48 by omega)
        by_cases h57 : c ≤ 57
        · have c7 := tt h57
          have e : (c - 48) % 256 = c - 48 := by omega
          rw [if_pos ⟨h48, h57⟩]
          simp only [parallaxref01_Parse.j1, c1, c2, c4, hb, c6, c7, e, if_true]
          exact ih (i + 1) _ (by omega) (w64_range _).1 (w64_range _).2
        · have c7 := ff h57
          rw [if_neg (fun hh => h57 hh.2)]
          simp only [parallaxref01_Parse.j1, c1, c2, c4, hb, c6, c7, if_true, if_false]
          exact ih (i + 1) _ (by omega) h0 h1
      · have c6 := ff (show ¬ c ≥ 48 by omega)
        rw [if_neg (fun hh => h48 hh.1)]
        simp only [parallaxref01_Parse.j1, c1, c2, c4, hb, c6, if_true, if_false]
        exact ih (i + 1) _ (by omega) h0 h1
    · have c5 : decide ((i : Int) < 25) = false := decide_eq_false (by omega)
      rw [if_neg h25]
      simp only [parallaxref01_Parse.l0, c1, c5, if_true]
      exact refj1_end s n i h0 h1
theorem tail_P (l : List Int) : tail l (signed l (rl l 0 0)) = P l := by
  have hr := rl_range l 0 0 (by omega) (by omega)
  have hsr : -9223372036854775808 ≤ signed l (rl l 0 0) ∧ signed l (rl l 0 0) ≤ 9223372036854775807 := by
    unfold signed
    split
    · exact w64_range _
    · exact hr
  rcases P_or l with ⟨a, h0, h1, rfl⟩ | hP
  · rw [P_T a h0 h1]
    obtain ⟨ds, ⟨c1, c2, c3⟩, hv, hl, e⟩ := T_form a h0 h1
    have hs : signed (T a) (rl (T a) 0 0) = a := by
      rw [e]
      by_cases hn : a < 0
      · rw [if_pos hn]
        unfold signed
        rw [if_pos ⟨by simp, rfl⟩]
        simp only [rl]
        rw [if_pos (by omega), if_neg (by omega)]
        have := rl_digits ds 1 0 c1 (by omega)
        rw [show wrap64 ((0 : Nat) : Int) = 0 by unfold wrap64; omega] at this
        rw [this, hv]
        unfold wrap64
        omega
      · rw [if_neg hn]
        unfold signed
        rw [if_neg]
        · have := rl_digits ds 0 0 c1 (by omega)
          rw [show wrap64 ((0 : Nat) : Int) = 0 by unfold wrap64; omega] at this
          rw [this, hv]
          unfold wrap64
          omega
        · rintro ⟨_, h45⟩
          cases ds with
          | nil => exact c2 rfl
          | cons x r =>
            have := (c1 x (by simp)).1
            have : x = 45 := h45
            omega
    rw [hs]
    unfold tail
    rw [if_pos rfl]
  · rw [hP]
    unfold tail
    split
    · rename_i h
      have := P_T _ hsr.1 hsr.2
      rw [h, hP] at this
      simp only [Prod.mk.injEq] at this
      exact absurd this.2 (by decide)
    · rfl
theorem refParse_ok (s : ByteArray) (hs : s.size ≤ 140737488351232) : Ev (fun k => parallaxref01_Parse.f k s) (P (bytesOf s)) := by
  rw [← tail_P]
  exact ref_loop s hs s.size 0 0 (by omega) (by omega) (by omega)
theorem P_range (l : List Int) : -9223372036854775808 ≤ (P l).1 ∧ (P l).1 ≤ 9223372036854775807 := by
  rcases P_or l with ⟨a, h0, h1, rfl⟩ | hP
  · rw [P_T a h0 h1]; exact ⟨h0, h1⟩
  · rw [hP]; exact ⟨by decide, by decide⟩
end Go.Proofs.YtdbpdcjlbopkbaaDoor.Q
