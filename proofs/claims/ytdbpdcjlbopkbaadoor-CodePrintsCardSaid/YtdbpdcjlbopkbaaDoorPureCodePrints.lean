/- Any code's lines are told: both programs say the same at every input, without a condition. -/
import Derived.Test.YtdbpdcjlbopkbaaDoorPx0
import Derived.Test.YtdbpdcjlbopkbaaDoorPx16
import Derived.Test.YtdbpdcjlbopkbaaDoorPx17
import Derived.Test.YtdbpdcjlbopkbaaDoorPx5
import Derived.Test.YtdbpdcjlbopkbaaDoorQCode
import Derived.Test.YtdbpdcjlbopkbaaDoorQKnown08
-- use: QCode
-- use: QKnown08
namespace Go.Proofs.YtdbpdcjlbopkbaaDoor.Pure
set_option linter.unusedVariables false
set_option linter.unusedSimpArgs false
open Go.RowKit Go.Proofs.YtdbpdcjlbopkbaaDoor.P Go.Proofs.YtdbpdcjlbopkbaaDoorW.PrintWords Go.Proofs.YtdbpdcjlbopkbaaDoorW.PrintLast Go.Proofs.YtdbpdcjlbopkbaaDoorW.PrintMore Go.Proofs.YtdbpdcjlbopkbaaDoor.Q

def Fit (l : List S23) : Prop := ∀ y ∈ l, (Lit.int .i64 y.f0).wf = true ∧ ((Lit.int .i64 y.f1).wf = true ∧ (Lit.int .i64 y.f2).wf = true)
theorem rdIns_get (l : List S23) (i : Nat) (h : i < l.length) : rd_T23 l (i : Int) = l[i] := by simp [rd_T23, List.getD, h]
theorem TX_size (a b c : Int) (b0 : -9223372036854775808 ≤ b) (b1 : b ≤ 9223372036854775807) (c0 : -9223372036854775808 ≤ c) (c1 : c ≤ 9223372036854775807) : (TX a b c).1.size ≤ 100 := by
  have l1 := T_len b b0 b1
  have l2 := T_len c c0 c1
  unfold TX
  split
  · decide
  split
  · decide
  rename_i h _
  have wl := (wd_len (op := a) (by omega) (by omega)).1
  simp only [strOfNums_size]
  split
  · omega
  · split <;> simp only [List.length_append, List.length_cons] <;> omega
/-- What a line is: the number, the text or '?', a line's end. -/
def lineB (k : Nat) (x : S23) : List Int := T k ++ [32] ++ (if (TX x.f0 x.f1 x.f2).2 = 0 then bytesOf (TX x.f0 x.f1 x.f2).1 else [63]) ++ [10]
def linesB : Nat → List S23 → List Int
  | _, [] => []
  | k, x :: l => lineB k x ++ linesB (k + 1) l
theorem lineB_byte (k : Nat) (hk : k ≤ 1000) (x : S23) : ∀ c ∈ lineB k x, Byte c := by
  intro c hc
  have hb := T_byte (k : Int) (by omega) (by omega)
  simp only [lineB, List.mem_append] at hc
  rcases hc with ((h | h) | h) | h
  · exact hb c h
  · simp at h; subst h; exact ⟨by decide, by decide⟩
  · split at h
    · exact bytesOf_byte h
    · simp at h; subst h; exact ⟨by decide, by decide⟩
  · simp at h; subst h; exact ⟨by decide, by decide⟩
theorem lineB_len (k : Nat) (hk : k ≤ 1000) (x : S23) (b0 : -9223372036854775808 ≤ x.f1) (b1 : x.f1 ≤ 9223372036854775807) (c0 : -9223372036854775808 ≤ x.f2) (c1 : x.f2 ≤ 9223372036854775807) : (lineB k x).length ≤ 1000 := by
  have l1 := T_len (k : Int) (by omega) (by omega)
  have l2 := TX_size x.f0 x.f1 x.f2 b0 b1 c0 c1
  rw [size_len] at l2
  simp only [lineB, List.length_append, List.length_cons, List.length_nil]
  split
  · omega
  · simp; omega
theorem print_loop (l : List S23) (hl : l.length ≤ 500) (hf : Fit l) : ∀ (d i : Nat) (out : List Int), i + d = l.length → out.length ≤ 1000 * i →
    Ev (fun k => code_Print.l0 k out l l.length i) (strOfNums (out ++ linesB i (l.drop i))) := by
  intro d
  induction d with
  | zero =>
    intro i out hi ho
    obtain rfl : i = l.length := by omega
    rw [List.drop_length]
    refine evs ?_
    have c1 := ff (Int.lt_irrefl (l.length : Int))
    simp only [code_Print.l0, c1, if_false, linesB, List.append_nil]
    exact Ev.now _
  | succ d ih =>
    intro i out hi ho
    have hlt : i < l.length := by omega
    obtain ⟨_, hb, hc⟩ := hf l[i] (List.getElem_mem hlt)
    obtain ⟨b0, b1⟩ := wf64 hb
    obtain ⟨c0, c1⟩ := wf64 hc
    have ll := lineB_len i (by omega) l[i] b0 b1 c0 c1
    have := ih (i + 1) (out ++ lineB i l[i]) (by omega) (by simp only [List.length_append]; omega)
    rw [List.drop_eq_getElem_cons hlt]
    have g1 := rdIns_get l i hlt
    generalize hx : l[i] = x at *
    have d1 := tt (show (i : Int) < (l.length : Int) by omega)
    have d2 := tt (show (0 : Int) ≤ (i : Int) by omega)
    have bs : i + 1 ≤ 1000000000000 := by omega
    have tb := bytesOf_strOfNums (T_byte (i : Int) (by omega) (by omega))
    have tl_ := T_len (i : Int) (by omega) (by omega)
    have ts := TX_size x.f0 x.f1 x.f2 b0 b1 c0 c1
    have te := Text_eq (i : Int) (by omega) (by omega)
    refine evs ?_
    simp only [code_Print.l0, d1, d2, if_true, g1]
    refine Ev.bind (Text_ok x.f0 x.f1 x.f2 b0 b1 c0 c1) ?_
    rw [te]
    simp only [Option.bind_some, strOfNums_size, tb, wsucc bs]
    have q63 : bytesOf (⟨#[63]⟩ : ByteArray) = [63] := by decide
    have e1 := tt (show out.length + (T (i : Int)).length < 140737488355328 by omega)
    have e2 := tt (show (out ++ T (i : Int)).length < 140737488355328 by simp only [List.length_append]; omega)
    have e3 := tt (show (out ++ T (i : Int) ++ [32]).length + (TX x.f0 x.f1 x.f2).1.size < 140737488355328 by simp only [List.length_append, List.length_cons, List.length_nil]; omega)
    have e4 := tt (show (out ++ T (i : Int) ++ [32] ++ bytesOf (TX x.f0 x.f1 x.f2).1).length < 140737488355328 by simp only [List.length_append, List.length_cons, List.length_nil, bytesOf_length]; omega)
    have e5 := tt (show (out ++ T (i : Int) ++ [32]).length + 1 < 140737488355328 by simp only [List.length_append, List.length_cons, List.length_nil]; omega)
    have e6 := tt (show (out ++ T (i : Int) ++ [32] ++ [63]).length < 140737488355328 by simp only [List.length_append, List.length_cons, List.length_nil]; omega)
    by_cases h : (TX x.f0 x.f1 x.f2).2 = 0
    · simp only [tt h, e1, e2, e3, e4, if_true]
      have hh : out ++ T (i : Int) ++ [32] ++ bytesOf (TX x.f0 x.f1 x.f2).1 ++ [10] = out ++ lineB i x := by simp [lineB, h]
      rw [hh, linesB, ← List.append_assoc]
      exact this
    · simp only [ff h, e1, e2, e5, e6, q63, if_true, if_false]
      have hh : out ++ T (i : Int) ++ [32] ++ [63] ++ [10] = out ++ lineB i x := by simp [lineB, h]
      rw [hh, linesB, ← List.append_assoc]
      exact this
theorem blank_ : (⟨#[32]⟩ : ByteArray) = strOfNums [32] := by decide
theorem ten : (⟨#[10]⟩ : ByteArray) = strOfNums [10] := by decide
theorem sixty : (⟨#[63]⟩ : ByteArray) = strOfNums [63] := by decide
theorem refprint_loop (l : List S23) (a b : Int) (c : Bool) (hl : l.length ≤ 500) (hf : Fit l) : ∀ (d i : Nat) (out : List Int), i + d = l.length → out.length ≤ 1000 * i →
    Ev (fun k => parallaxref08_Print.l0 k (strOfNums out) i l a b c) (strOfNums (out ++ linesB i (l.drop i))) := by
  intro d
  induction d with
  | zero =>
    intro i out hi ho
    obtain rfl : i = l.length := by omega
    rw [List.drop_length]
    refine evs ?_
    have c1 := ff (Int.lt_irrefl (l.length : Int))
    simp only [parallaxref08_Print.l0, c1, if_false, linesB, List.append_nil]
    exact Ev.now _
  | succ d ih =>
    intro i out hi ho
    have hlt : i < l.length := by omega
    obtain ⟨_, hb, hc⟩ := hf l[i] (List.getElem_mem hlt)
    obtain ⟨b0, b1⟩ := wf64 hb
    obtain ⟨c0, c1⟩ := wf64 hc
    have ll := lineB_len i (by omega) l[i] b0 b1 c0 c1
    have := ih (i + 1) (out ++ lineB i l[i]) (by omega) (by simp only [List.length_append]; omega)
    rw [List.drop_eq_getElem_cons hlt]
    have g1 := rdIns_get l i hlt
    generalize hx : l[i] = x at *
    have d1 := tt (show (i : Int) < (l.length : Int) by omega)
    have d2 := tt (show (0 : Int) ≤ (i : Int) by omega)
    have bs : i + 1 ≤ 1000000000000 := by omega
    have tl_ := T_len (i : Int) (by omega) (by omega)
    have ts := TX_size x.f0 x.f1 x.f2 b0 b1 c0 c1
    have te := refText_ok (i : Int) (by omega) (by omega)
    refine evs ?_
    simp only [parallaxref08_Print.l0, d1, d2, if_true, g1]
    refine Ev.bind (refText08_ok x.f0 x.f1 x.f2 b0 b1 c0 c1) ?_
    have hstr : (TX x.f0 x.f1 x.f2).1 = strOfNums (bytesOf (TX x.f0 x.f1 x.f2).1) := (strOfNums_bytesOf _).symm
    rw [size_len] at ts
    simp only [wsucc bs]
    have e1 := tt (show out.length + (T (i : Int)).length ≤ 9223372036854775807 by omega)
    have e2 := tt (show (out ++ T (i : Int)).length + 1 ≤ 9223372036854775807 by simp only [List.length_append]; omega)
    have e3 := tt (show (out ++ T (i : Int) ++ [32]).length + (bytesOf (TX x.f0 x.f1 x.f2).1).length ≤ 9223372036854775807 by simp only [List.length_append, List.length_cons, List.length_nil]; omega)
    have e4 := tt (show (out ++ T (i : Int) ++ [32] ++ bytesOf (TX x.f0 x.f1 x.f2).1).length + 1 ≤ 9223372036854775807 by simp only [List.length_append, List.length_cons, List.length_nil]; omega)
    have e5 := tt (show (out ++ T (i : Int) ++ [32]).length + 1 ≤ 9223372036854775807 by simp only [List.length_append, List.length_cons, List.length_nil]; omega)
    have e6 := tt (show (out ++ T (i : Int) ++ [32] ++ [63]).length + 1 ≤ 9223372036854775807 by simp only [List.length_append, List.length_cons, List.length_nil]; omega)
    by_cases h : (TX x.f0 x.f1 x.f2).2 = 0
    · simp only [tt h, if_true]
      refine Ev.bind te ?_
      rw [hstr]
      simp only [blank_, ten, strs, strOfNums_size, e1, e2, e3, e4, if_true]
      have hh : out ++ T (i : Int) ++ [32] ++ bytesOf (TX x.f0 x.f1 x.f2).1 ++ [10] = out ++ lineB i x := by simp [lineB, h]
      rw [hh, linesB, ← List.append_assoc]
      exact this
    · simp only [ff h, if_false]
      refine Ev.bind te ?_
      simp only [blank_, ten, sixty, strs, strOfNums_size, e1, e2, e5, e6, if_true]
      have hh : out ++ T (i : Int) ++ [32] ++ [63] ++ [10] = out ++ lineB i x := by simp [lineB, h]
      rw [hh, linesB, ← List.append_assoc]
      exact this
theorem CodePrints : parallaxlaw08_CodePrints.Pure := by
  intro l a b c hl ha hb
  refine Ev.rounds ?_
  unfold parallaxlaw08_CodePrints.f
  by_cases h : (l.length : Int) > 500
  · simp only [tt h, if_true]; exact Ev.now _
  simp only [ff h, if_false]
  have p1 := print_loop l (by omega) hl.2 l.length 0 [] (by omega) (by simp)
  have p2 := refprint_loop l a b c (by omega) hl.2 l.length 0 [] (by omega) (by simp)
  refine Ev.bind p1 (Ev.bind p2 ?_)
  simp only [if_true]
  exact known_fin
end Go.Proofs.YtdbpdcjlbopkbaaDoor.Pure
