/- Texts of numbers: the digits, and that both programs lay the same. -/
import Derived.Test.YtdbpdcjlbopkbaaDoorPx11
import Derived.Test.YtdbpdcjlbopkbaaDoorPx2
import Derived.Test.YtdbpdcjlbopkbaaDoorQBits
import Derived.Test.YtdbpdcjlbopkbaaDoorQStr
import Derived.Test.YtdbpdcjlbopkbaaDoorQNeg
-- use: QBits
-- use: QStr
-- use: QNeg
namespace Go.Proofs.YtdbpdcjlbopkbaaDoor.Q
set_option linter.unusedVariables false
set_option linter.unusedSimpArgs false
open Go.RowKit Go.Proofs.YtdbpdcjlbopkbaaDoorW.PrintWords Go.Proofs.YtdbpdcjlbopkbaaDoorW.PrintLast Go.Proofs.YtdbpdcjlbopkbaaDoorW.PrintMore Go.Proofs.YtdbpdcjlbopkbaaDoor.P

/-- A digit's sign. -/
def Digit (c : Int) : Prop := 48 ≤ c ∧ c ≤ 57
/-- What digits are worth, behind some number. -/
def dv : List Int → Nat → Nat
  | [], u => u
  | c :: l, u => dv l (u * 10 + (c - 48).toNat)
theorem dv_append (a b : List Int) : ∀ u, dv (a ++ b) u = dv b (dv a u) := by
  induction a with
  | nil => intro u; rfl
  | cons c a ih => intro u; exact ih _
theorem dv_mono (l : List Int) : ∀ u, u ≤ dv l u := by
  induction l with
  | nil => intro u; exact Nat.le_refl _
  | cons c l ih => intro u; have := ih (u * 10 + (c - 48).toNat); simp only [dv]; omega
/-- A row of digits as one writes a number: the first one not 0, unless it is alone. -/
def Canon (l : List Int) : Prop := (∀ c ∈ l, Digit c) ∧ l ≠ [] ∧ (rd l 0 = 48 → l.length = 1)

theorem digs_canon : ∀ (k : Nat) (u : Nat) (acc : List Int), 1 ≤ k → u < 10 ^ k → ∃ ds, num_Text.digs k u acc = ds ++ acc ∧ Canon ds ∧ dv ds 0 = u ∧ ds.length ≤ k
  | 0, u, acc, h, _ => absurd h (by omega)
  | k + 1, u, acc, _, hu => by
    have hdig : Digit (48 + (u : Int) % 10) := ⟨by omega, by omega⟩
    rw [num_Text.digs_succ]
    by_cases h : (u : Int) / 10 = 0
    · rw [if_pos h]
      refine ⟨[48 + (u : Int) % 10], rfl, ⟨?_, by simp, fun _ => rfl⟩, ?_, by simp⟩
      · intro c hc
        simp at hc
        subst hc
        exact hdig
      · simp only [dv]; omega
    · rw [if_neg h]
      have hk : 1 ≤ k := by
        rcases Nat.eq_zero_or_pos k with e | e
        · subst e
          simp at hu
          omega
        · exact e
      obtain ⟨ds, e, ⟨c1, c2, c3⟩, hv, hl⟩ := digs_canon k (u / 10) ((48 + (u : Int) % 10) :: acc) hk (by rw [Nat.pow_succ] at hu; omega)
      have e2 : num_Text.digs k ((u : Int) / 10) ((48 + (u : Int) % 10) :: acc) = num_Text.digs k ((u / 10 : Nat) : Int) ((48 + (u : Int) % 10) :: acc) := by congr 1
      rw [e2, e]
      refine ⟨ds ++ [48 + (u : Int) % 10], by simp, ⟨?_, by simp, ?_⟩, ?_, by simp; omega⟩
      · intro c hc
        rcases List.mem_append.1 hc with h | h
        · exact c1 c h
        · simp at h
          subst h
          exact hdig
      · intro h0
        exfalso
        have hl0 : 0 < ds.length := List.length_pos_iff.2 c2
        have h48 : rd ds 0 = 48 := by
          have h1 : rd (ds ++ [48 + (u : Int) % 10]) ((0 : Nat) : Int) = rd ds ((0 : Nat) : Int) := by
            rw [rd_get (by simp), rd_get hl0, List.getElem_append_left hl0]
          exact h1.symm.trans h0
        have h1 := c3 h48
        obtain ⟨x, rfl⟩ := List.length_eq_one_iff.1 h1
        have : x = 48 := h48
        subst this
        simp [dv] at hv
        omega
      · rw [dv_append, hv]
        simp only [dv]
        omega

theorem digs_of (n : Nat) : ∀ (ds : List Int) (k : Nat) (acc : List Int), ds.length = n → Canon ds → n ≤ k → num_Text.digs k (dv ds 0) acc = ds ++ acc := by
  induction n with
  | zero =>
    intro ds k acc hn hc hk
    exact absurd (List.eq_nil_of_length_eq_zero hn) hc.2.1
  | succ n ih =>
    intro ds k acc hn ⟨c1, c2, c3⟩ hk
    obtain ⟨k, rfl⟩ : ∃ m, k = m + 1 := ⟨k - 1, by omega⟩
    have hds : ds = ds.dropLast ++ [ds.getLast c2] := (List.dropLast_concat_getLast c2).symm
    have hdl : ds.dropLast.length = n := by simp; omega
    have hg := c1 _ (List.getLast_mem c2)
    generalize ds.getLast c2 = c at hds hg
    generalize hes : ds.dropLast = es at hds hdl
    clear hes
    subst hds
    rw [dv_append]
    simp only [dv]
    rw [num_Text.digs_succ]
    obtain ⟨g1, g2⟩ := hg
    have e1 : (((dv es 0 * 10 + (c - 48).toNat : Nat)) : Int) / 10 = (dv es 0 : Int) := by omega
    have e2 : 48 + (((dv es 0 * 10 + (c - 48).toNat : Nat)) : Int) % 10 = c := by omega
    rw [e1, e2]
    rcases Nat.eq_zero_or_pos n with h0 | h0
    · subst h0
      obtain rfl := List.eq_nil_of_length_eq_zero hdl
      rw [if_pos (by rfl)]
      rfl
    · have hz : rd es ((0 : Nat) : Int) ≠ 48 := by
        intro h
        have h1 : rd (es ++ [c]) ((0 : Nat) : Int) = rd es ((0 : Nat) : Int) := by
          rw [rd_get (by simp), rd_get (by omega), List.getElem_append_left (by omega)]
        have := c3 (h1.trans h)
        rw [List.length_append] at this
        simp only [List.length_cons, List.length_nil] at this
        omega
      have hpos : 0 < dv es 0 := by
        obtain ⟨x, es', rfl⟩ : ∃ x es', es = x :: es' := by
          cases es with
          | nil => simp at hdl; omega
          | cons x es' => exact ⟨x, es', rfl⟩
        have hx := c1 x (by simp)
        have hx2 : x ≠ 48 := hz
        have := dv_mono es' (0 * 10 + (x - 48).toNat)
        obtain ⟨y1, y2⟩ := hx
        simp only [dv]
        omega
      rw [if_neg (by omega), ih es k (c :: acc) hdl ⟨fun x hx => c1 x (by simp [hx]), by intro h; subst h; simp at hdl; omega, fun h => absurd h hz⟩ (by omega)]
      simp

/-- A number's text, as a list of byte values. -/
def T (a : Int) : List Int := if a < 0 then 45 :: num_Text.digs 20 (num_Text.abs a) [] else num_Text.digs 20 (num_Text.abs a) []
theorem num_abs (a : Int) : num_Text.abs a = ((a.natAbs : Nat) : Int) := by unfold num_Text.abs; split <;> omega
theorem T_form (a : Int) (h0 : -9223372036854775808 ≤ a) (h1 : a ≤ 9223372036854775807) : ∃ ds, Canon ds ∧ dv ds 0 = a.natAbs ∧ ds.length ≤ 20 ∧ T a = if a < 0 then 45 :: ds else ds := by
  obtain ⟨ds, e, hc, hv, hl⟩ := digs_canon 20 a.natAbs [] (by omega) (by omega)
  refine ⟨ds, hc, hv, hl, ?_⟩
  unfold T
  rw [num_abs, e, List.append_nil]
theorem T_byte (a : Int) (h0 : -9223372036854775808 ≤ a) (h1 : a ≤ 9223372036854775807) : ∀ c ∈ T a, Byte c := by
  obtain ⟨ds, ⟨c1, _, _⟩, _, _, e⟩ := T_form a h0 h1
  intro c hc
  rw [e] at hc
  split at hc
  · rcases List.mem_cons.1 hc with rfl | h
    · exact ⟨by omega, by omega⟩
    · obtain ⟨x, y⟩ := c1 c h; exact ⟨by omega, by omega⟩
  · obtain ⟨x, y⟩ := c1 c hc; exact ⟨by omega, by omega⟩
theorem Text_eq (a : Int) (h0 : -9223372036854775808 ≤ a) (h1 : a ≤ 9223372036854775807) : num_Text.f a = some (strOfNums (T a)) := by
  unfold num_Text.f T
  rw [if_pos h0, if_pos h1]
  split <;> rfl
theorem T_len (a : Int) (h0 : -9223372036854775808 ≤ a) (h1 : a ≤ 9223372036854775807) : (T a).length ≤ 21 := by
  obtain ⟨ds, _, _, hl, e⟩ := T_form a h0 h1
  rw [e]
  split
  · simp; omega
  · omega

theorem strOfNums_cons (d : Int) (l : List Int) : strOfNums [d] ++ strOfNums l = strOfNums (d :: l) := by
  apply data_inj
  simp [strOfNums]
theorem strOfNums_size (l : List Int) : (strOfNums l).size = l.length := by
  simp [strOfNums, ByteArray.size]
theorem strOfNums_nil (l : List Int) : (strOfNums l).toList = ([] : List UInt8) ↔ l = [] := by
  rw [toList_data]
  simp [strOfNums]

/-- The reference lays the same digits. -/
theorem refText_loop (a : Int) : ∀ (k : Nat) (u : Nat) (acc : List Int), (acc = [] ∨ 0 < u) → u < 10 ^ k → 1 ≤ k → acc.length + k ≤ 40 → u < 18446744073709551616 →
    Ev (fun n => parallaxref01_Text.l0 n a (strOfNums acc) u) (if a < 0 then strOfNums (45 :: num_Text.digs k u acc) else strOfNums (num_Text.digs k u acc))
  | 0, u, acc, _, _, h, _, _ => absurd h (by omega)
  | k + 1, u, acc, hs, hu, _, hlen, hu2 => by
    have hd : (IntKind.u64.wrap (48 + Int.tmod (u : Int) 10)) % 256 = 48 + (u : Int) % 10 := by
      rw [Int.tmod_eq_emod_of_nonneg (by omega), u64w]; omega
    have hq : IntKind.u64.wrap (Int.tdiv (u : Int) 10) = ((u / 10 : Nat) : Int) := by
      rw [Int.tdiv_eq_ediv_of_nonneg (by omega), u64w]; omega
    have c1 := tt (show (strOfNums [48 + (u : Int) % 10]).size + (strOfNums acc).size ≤ 9223372036854775807 by
      rw [strOfNums_size, strOfNums_size]; simp; omega)
    have hdiv : (u : Int) / 10 = ((u / 10 : Nat) : Int) := by omega
    have next : Ev (fun n => parallaxref01_Text.l0 n a (strOfNums ((48 + (u : Int) % 10) :: acc)) ((u / 10 : Nat) : Int)) (if a < 0 then strOfNums (45 :: num_Text.digs (k + 1) u acc) else strOfNums (num_Text.digs (k + 1) u acc)) := by
      rw [num_Text.digs_succ]
      by_cases h : (u : Int) / 10 = 0
      · rw [if_pos h]
        have hz : u / 10 = 0 := by omega
        refine evs ?_
        have c2 := ff (show ¬ (strOfNums ((48 + (u : Int) % 10) :: acc)).toList = ([] : List UInt8) by rw [strOfNums_nil]; simp)
        have c3 := ff (show ¬ ((0 : Nat) : Int) > 0 by omega)
        have c4 := tt (show 1 + (strOfNums ((48 + (u : Int) % 10) :: acc)).size ≤ 9223372036854775807 by rw [strOfNums_size]; simp; omega)
        have e45 : (⟨#[45]⟩ : ByteArray) = strOfNums [45] := rfl
        simp only [parallaxref01_Text.l0, hz, if_true, if_false, c2, c3, c4]
        by_cases ha : a < 0
        · simp only [if_pos ha]
          rw [e45, strOfNums_cons]
          exact Ev.now _
        · simp only [if_neg ha]
          exact Ev.now _
      · rw [if_neg h, hdiv]
        exact refText_loop a k (u / 10) _ (.inr (by omega)) (by rw [Nat.pow_succ] at hu; omega) (by
          rcases Nat.eq_zero_or_pos k with e | e
          · subst e; simp at hu; omega
          · exact e) (by simp; omega) (by omega)
    refine evs ?_
    rcases hs with hs | hs
    · have c2 := tt (show (strOfNums acc).toList = ([] : List UInt8) by rw [strOfNums_nil]; exact hs)
      simp only [parallaxref01_Text.l0, if_true, c1, c2, hd, hq, Option.bind_some, strOfNums_cons]
      exact next
    · by_cases hn : acc = []
      · have c2 := tt (show (strOfNums acc).toList = ([] : List UInt8) by rw [strOfNums_nil]; exact hn)
        simp only [parallaxref01_Text.l0, if_true, c1, c2, hd, hq, Option.bind_some, strOfNums_cons]
        exact next
      · have c2 := ff (show ¬ (strOfNums acc).toList = ([] : List UInt8) by rw [strOfNums_nil]; exact hn)
        have c3 := tt (show (u : Int) > 0 by omega)
        simp only [parallaxref01_Text.l0, if_true, if_false, c1, c2, c3, hd, hq, Option.bind_some, strOfNums_cons]
        exact next
theorem refText_ok (a : Int) (h0 : -9223372036854775808 ≤ a) (h1 : a ≤ 9223372036854775807) : Ev (fun k => parallaxref01_Text.f k a) (strOfNums (T a)) := by
  unfold parallaxref01_Text.f
  refine Ev.bind (size_ok a h0 h1) ?_
  have := refText_loop a 20 a.natAbs [] (.inl rfl) (by omega) (by omega) (by simp) (by omega)
  have e : (if a < 0 then strOfNums (45 :: num_Text.digs 20 (a.natAbs : Int) []) else strOfNums (num_Text.digs 20 (a.natAbs : Int) [])) = strOfNums (T a) := by
    unfold T
    rw [num_abs]
    split <;> rfl
  rw [e] at this
  exact this
theorem T_inj {a b : Int} (a0 : -9223372036854775808 ≤ a) (a1 : a ≤ 9223372036854775807) (b0 : -9223372036854775808 ≤ b) (b1 : b ≤ 9223372036854775807) (h : T a = T b) : a = b := by
  obtain ⟨x, ⟨x1, x2, _⟩, vx, _, ex⟩ := T_form a a0 a1
  obtain ⟨y, ⟨y1, y2, _⟩, vy, _, ey⟩ := T_form b b0 b1
  have h45 : ∀ {l : List Int}, (∀ c ∈ l, Digit c) → ∀ r, l ≠ 45 :: r := by
    rintro l hl r rfl
    have := (hl 45 (by simp)).1
    omega
  rw [ex, ey] at h
  by_cases ha : a < 0 <;> by_cases hb : b < 0
  · rw [if_pos ha, if_pos hb] at h
    simp only [List.cons.injEq, true_and] at h
    subst h
    omega
  · rw [if_pos ha, if_neg hb] at h
    exact absurd h.symm (h45 y1 _)
  · rw [if_neg ha, if_pos hb] at h
    exact absurd h (h45 x1 _)
  · rw [if_neg ha, if_neg hb] at h
    subst h
    omega
end Go.Proofs.YtdbpdcjlbopkbaaDoor.Q
