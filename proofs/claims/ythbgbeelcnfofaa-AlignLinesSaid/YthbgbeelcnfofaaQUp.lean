/- Pairs that are a matching: plain Lean. -/
import Derived.Test.YthbgbeelcnfofaaPx0
import Derived.Test.YthbgbeelcnfofaaPx7
import Derived.Test.YthbgbeelcnfofaaQBase
import Derived.Test.YthbgbeelcnfofaaQEqv
-- use: QBase
-- use: QEqv
namespace Go.Proofs.Ythbgbeelcnfofaa.Q
set_option linter.unusedVariables false
set_option linter.unusedSimpArgs false
open Go.RowKit Go.Proofs.YthbgbeelcnfofaaW.PrintWords Go.Proofs.YthbgbeelcnfofaaW.PrintLast Go.Proofs.YthbgbeelcnfofaaW.PrintMore Go.Proofs.Ythbgbeelcnfofaa.P

def o41 (x : S67) : S41 := ⟨x.f0, x.f1⟩
theorem rd41_get (l : List S41) (i : Nat) (h : i < l.length) : rd_T41 l (i : Int) = l[i] := by simp [rd_T41, List.getD, h]
theorem rd67_get (l : List S67) (i : Nat) (h : i < l.length) : rd_T67 l (i : Int) = l[i] := by simp [rd_T67, List.getD, h]
/-- Pairs that rise from a pair, below two bounds. -/
def up (n m : Int) : Int → Int → List S41 → Bool
  | _, _, [] => true
  | p, q, x :: l => decide (p < x.f0 ∧ q < x.f1 ∧ x.f0 < n ∧ x.f1 < m) && up n m x.f0 x.f1 l
theorem up_cons {n m p q : Int} {x : S41} {l : List S41} : up n m p q (x :: l) = true ↔ (p < x.f0 ∧ q < x.f1 ∧ x.f0 < n ∧ x.f1 < m) ∧ up n m x.f0 x.f1 l = true := by
  simp only [up, Bool.and_eq_true, decide_eq_true_eq]
theorem up_no {n m p q : Int} {x : S41} {l : List S41} (h : ¬ (p < x.f0 ∧ q < x.f1 ∧ x.f0 < n ∧ x.f1 < m)) : up n m p q (x :: l) = false := by
  simp only [up, decide_eq_false h, Bool.false_and]
theorem up_yes {n m p q : Int} {x : S41} {l : List S41} (h : p < x.f0 ∧ q < x.f1 ∧ x.f0 < n ∧ x.f1 < m) : up n m p q (x :: l) = up n m x.f0 x.f1 l := by
  simp only [up, decide_eq_true h, Bool.true_and]
theorem up_mem {n m : Int} : ∀ (l : List S41) (p q : Int), -1 ≤ p → -1 ≤ q → up n m p q l = true → ∀ x ∈ l, 0 ≤ x.f0 ∧ x.f0 < n ∧ 0 ≤ x.f1 ∧ x.f1 < m
  | [], _, _, _, _, _ => fun x h => by cases h
  | y :: l, p, q, hp, hq, h => fun x hx => by
    obtain ⟨h1, h2⟩ := up_cons.1 h
    rcases List.mem_cons.1 hx with rfl | hx
    · omega
    · exact up_mem l y.f0 y.f1 (by omega) (by omega) h2 x hx
theorem drop41 (l : List S41) (i : Nat) (h : i < l.length) : l.drop i = rd_T41 l (i : Int) :: l.drop (i + 1) := by
  rw [List.drop_eq_getElem_cons h, rd41_get l i h]
theorem drop67 (l : List S67) (i : Nat) (h : i < l.length) : l.drop i = rd_T67 l (i : Int) :: l.drop (i + 1) := by
  rw [List.drop_eq_getElem_cons h, rd67_get l i h]
theorem rising_loop (n m : Int) (l : List S41) (hl : l.length ≤ 1000000) : ∀ (d i : Nat) (p q : Int), i + d = l.length → Ev (fun k => align_rising.l0 k n m l (l.length : Int) (i : Int) p q) (up n m p q (l.drop i)) := by
  intro d
  induction d with
  | zero =>
    intro i p q hi
    obtain rfl : i = l.length := by omega
    rw [List.drop_length]
    have c1 := ff (Int.lt_irrefl (l.length : Int))
    refine evs ?_
    simp only [align_rising.l0, c1, if_false]
    exact Ev.now _
  | succ d ih =>
    intro i p q hi
    have := ih (i + 1) (rd_T41 l (i : Int)).f0 (rd_T41 l (i : Int)).f1 (by omega)
    rw [drop41 l i (by omega)]
    have c1 := tt (show (i : Int) < (l.length : Int) by omega)
    have c2 := tt (show (0 : Int) ≤ (i : Int) by omega)
    have b1 : i + 1 ≤ 1000000000000 := by omega
    refine evs ?_
    simp only [align_rising.l0, c1, c2, wsucc b1, if_true]
    generalize rd_T41 l (i : Int) = x at this ⊢
    by_cases h1 : x.f0 ≤ p
    · rw [up_no (by omega)]
      simp only [tt h1, if_true]
      exact Ev.now _
    by_cases h2 : x.f1 ≤ q
    · rw [up_no (by omega)]
      simp only [ff h1, tt h2, if_true, if_false]
      exact Ev.now _
    by_cases h3 : x.f0 ≥ n
    · rw [up_no (by omega)]
      simp only [ff h1, ff h2, tt h3, if_true, if_false]
      exact Ev.now _
    by_cases h4 : x.f1 ≥ m
    · rw [up_no (by omega)]
      simp only [ff h1, ff h2, ff h3, tt h4, if_true, if_false]
      exact Ev.now _
    rw [up_yes (by omega)]
    simp only [ff h1, ff h2, ff h3, ff h4, if_false]
    exact this
theorem rising_ok (n m : Int) (l : List S41) (hl : l.length ≤ 1000000) : Ev (fun k => align_rising.f k n m l) (up n m (-1) (-1) l) := rising_loop n m l hl l.length 0 (-1) (-1) (Nat.zero_add _)
/-- Pairs whose events are alike. -/
def alike (a b : List S24) (l : List S41) : Bool := l.all (fun x => eqv (rd_T24 a x.f0) (rd_T24 b x.f1))
def fit (a b : List S24) (l : List S41) : Bool := up (a.length : Int) (b.length : Int) (-1) (-1) l && alike a b l
theorem alike_cons (a b : List S24) (x : S41) (l : List S41) : alike a b (x :: l) = (eqv (rd_T24 a x.f0) (rd_T24 b x.f1) && alike a b l) := rfl

end Go.Proofs.Ythbgbeelcnfofaa.Q
