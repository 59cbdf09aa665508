/- Pairs turned, pairs alike. -/
import Derived.Test.YthbgbeelcnfofaaPx0
import Derived.Test.YthbgbeelcnfofaaPx13
import Derived.Test.YthbgbeelcnfofaaPx8
import Derived.Test.YthbgbeelcnfofaaQBits
import Derived.Test.YthbgbeelcnfofaaQMatch
-- use: QBits
-- use: QMatch
namespace Go.Proofs.Ythbgbeelcnfofaa.Q
set_option linter.unusedVariables false
set_option linter.unusedSimpArgs false
open Go.RowKit Go.Proofs.YthbgbeelcnfofaaW.PrintWords Go.Proofs.YthbgbeelcnfofaaW.PrintLast Go.Proofs.YthbgbeelcnfofaaW.PrintMore Go.Proofs.Ythbgbeelcnfofaa.P

def t67 (x : S41) : S67 := ⟨x.f0, x.f1⟩
theorem rd41_get (l : List S41) (i : Nat) (h : i < l.length) : rd_T41 l (i : Int) = l[i] := by simp [rd_T41, List.getD, h]
theorem rd67_get (l : List S67) (i : Nat) (h : i < l.length) : rd_T67 l (i : Int) = l[i] := by simp [rd_T67, List.getD, h]
theorem pairs_loop (l : List S41) (hl : l.length ≤ 1000000) : ∀ (d i : Nat), i + d = l.length → Ev (fun k => parallaxlaw15_pairs.l0 k l ((l.take i).map t67) (i : Int)) (l.map t67) := by
  intro d
  induction d with
  | zero =>
    intro i hi
    obtain rfl : i = l.length := by omega
    rw [List.take_length]
    have c1 := ff (Int.lt_irrefl (l.length : Int))
    refine evs ?_
    simp only [parallaxlaw15_pairs.l0, c1, if_false]
    exact Ev.now _
  | succ d ih =>
    intro i hi
    have := ih (i + 1) (by omega)
    rw [List.take_succ_eq_append_getElem (show i < l.length by omega), List.map_append] at this
    have c1 := tt (show (i : Int) < (l.length : Int) by omega)
    have c2 := tt (show (0 : Int) ≤ (i : Int) by omega)
    have c3 := tt (show ((l.take i).map t67).length < 8796093022208 by rw [List.length_map, List.length_take]; omega)
    have b1 : i + 1 ≤ 1000000000000 := by omega
    have hr := rd41_get l i (by omega)
    refine evs ?_
    simp only [parallaxlaw15_pairs.l0, c1, c2, c3, wsucc b1, hr, if_true]
    exact this
theorem pairs_ok (l : List S41) (hl : l.length ≤ 1000000) : Ev (fun k => parallaxlaw15_pairs.f k l) (l.map t67) := pairs_loop l hl l.length 0 (Nat.zero_add _)
theorem map_t67 (m : List (Nat × Nat)) : (m.map p41).map t67 = m.map p67 := by rw [List.map_map]; rfl
theorem same_loop (l : List S67) (hl : l.length ≤ 1000000) : ∀ (d i : Nat), i + d = l.length → Ev (fun k => parallaxref15_SamePairs.l0 k l l (i : Int)) true := by
  intro d
  induction d with
  | zero =>
    intro i hi
    obtain rfl : i = l.length := by omega
    have c1 := ff (Int.lt_irrefl (l.length : Int))
    refine evs ?_
    simp only [parallaxref15_SamePairs.l0, c1, if_false]
    exact Ev.now _
  | succ d ih =>
    intro i hi
    have := ih (i + 1) (by omega)
    have c1 := tt (show (i : Int) < (l.length : Int) by omega)
    have c2 := tt (show (0 : Int) ≤ (i : Int) by omega)
    have b1 : i + 1 ≤ 1000000000000 := by omega
    refine evs ?_
    simp only [parallaxref15_SamePairs.l0, c1, c2, wsucc b1, beq_self_eq_true, Bool.not_true, Bool.or_self, Bool.false_eq_true, if_true, if_false]
    exact this
theorem same_ok (l : List S67) (hl : l.length ≤ 1000000) : Ev (fun k => parallaxref15_SamePairs.f k l l) true := by
  unfold parallaxref15_SamePairs.f
  simp only [if_true]
  exact same_loop l hl l.length 0 (Nat.zero_add _)
theorem many_true {a b : List S24} (h : a.length > 24 ∨ b.length > 24) : parallaxlaw15_many.f a b = some true := by
  unfold parallaxlaw15_many.f
  by_cases c : (a.length : Int) > 24
  · rw [if_pos c]
  · rw [if_neg c, decide_eq_true (by omega)]
theorem many_false {a b : List S24} (h1 : a.length ≤ 24) (h2 : b.length ≤ 24) : parallaxlaw15_many.f a b = some false := by
  unfold parallaxlaw15_many.f
  rw [if_neg (by omega), decide_eq_false (by omega)]
theorem many_or (a b : List S24) : parallaxlaw15_many.f a b = some true ∨ (a.length ≤ 24 ∧ b.length ≤ 24 ∧ parallaxlaw15_many.f a b = some false) := by
  by_cases h : a.length > 24 ∨ b.length > 24
  · exact .inl (many_true h)
  · exact .inr ⟨by omega, by omega, many_false (by omega) (by omega)⟩

end Go.Proofs.Ythbgbeelcnfofaa.Q
