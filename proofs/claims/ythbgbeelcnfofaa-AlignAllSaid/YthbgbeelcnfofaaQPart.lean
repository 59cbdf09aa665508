/- Where two rows of events part: both programs say the same. -/
import Derived.Test.YthbgbeelcnfofaaPx0
import Derived.Test.YthbgbeelcnfofaaPx10
import Derived.Test.YthbgbeelcnfofaaPx4
import Derived.Test.YthbgbeelcnfofaaQBits
-- use: QBits
namespace Go.Proofs.Ythbgbeelcnfofaa.Q
set_option linter.unusedVariables false
set_option linter.unusedSimpArgs false
open Go.RowKit Go.Proofs.YthbgbeelcnfofaaW.PrintWords Go.Proofs.YthbgbeelcnfofaaW.PrintLast Go.Proofs.YthbgbeelcnfofaaW.PrintMore Go.Proofs.Ythbgbeelcnfofaa.P

def eqv (x y : S24) : Bool := x.f0 == y.f0 && (x.f1 == y.f1)
theorem eqv_iff (x y : S24) : eqv x y = true ↔ x = y := by
  cases x; cases y
  simp [eqv]
instance : DecidableEq S24 := fun x y => decidable_of_iff (eqv x y = true) (eqv_iff x y)
theorem eqv_not (x y : S24) : (!(x.f0 == y.f0) || !(x.f1 == y.f1)) = !eqv x y := by
  simp [eqv, Bool.not_and]
/-- The length of the two rows' common beginning. -/
def pre : List S24 → List S24 → Nat
  | x :: a, y :: b => if x = y then pre a b + 1 else 0
  | _, _ => 0
theorem pre_le : ∀ (a b : List S24), pre a b ≤ a.length ∧ pre a b ≤ b.length
  | [], b => by simp [pre]
  | x :: a, [] => by simp [pre]
  | x :: a, y :: b => by
    simp only [pre]
    split
    · have := pre_le a b
      simp only [List.length_cons]
      omega
    · simp
/-- Where the rows part. -/
def part (a b : List S24) : Int := if pre a b = a.length ∧ pre a b = b.length then -1 else (pre a b : Int)
theorem rd24_get (l : List S24) (i : Nat) (h : i < l.length) : rd_T24 l (i : Int) = l[i] := by simp [rd_T24, List.getD, h]
theorem drop24 (l : List S24) (i : Nat) (h : i < l.length) : l.drop i = rd_T24 l (i : Int) :: l.drop (i + 1) := by
  rw [List.drop_eq_getElem_cons h, rd24_get l i h]
theorem Parting_loop (a b : List S24) (ha : a.length ≤ 9000000000000000000) (hb : b.length ≤ 9000000000000000000) : ∀ (d i : Nat), i + d = min a.length b.length → i + pre (a.drop i) (b.drop i) = pre a b →
    Ev (fun k => align_Parting.l0 k a b (mn (a.length : Int) (b.length : Int)) (mn (a.length : Int) (b.length : Int)) i) (part a b) := by
  have em : mn (a.length : Int) (b.length : Int) = ((min a.length b.length : Nat) : Int) := by unfold mn; split <;> omega
  rw [em]
  have pl := pre_le a b
  intro d
  induction d with
  | zero =>
    intro i hi hp
    refine evs ?_
    have c1 := ff (show ¬ ((i : Int) < ((min a.length b.length : Nat) : Int)) by omega)
    have p0 : pre (a.drop i) (b.drop i) = 0 := by
      have := pre_le (a.drop i) (b.drop i)
      simp only [List.length_drop] at this
      omega
    simp only [align_Parting.l0, c1, if_false]
    by_cases h : a.length = b.length
    · have c2 := tt (show (a.length : Int) = (b.length : Int) by omega)
      simp only [c2, if_true]
      have : part a b = -1 := by unfold part; rw [if_pos (by omega)]
      rw [this]
      exact Ev.now _
    · have c2 := ff (show ¬ (a.length : Int) = (b.length : Int) by omega)
      simp only [c2, if_false]
      have : part a b = ((min a.length b.length : Nat) : Int) := by unfold part; rw [if_neg (by omega)]; omega
      rw [this]
      exact Ev.now _
  | succ d ih =>
    intro i hi hp
    refine evs ?_
    have c1 := tt (show ((i : Int) < ((min a.length b.length : Nat) : Int)) by omega)
    have c2 := tt (show (0 : Int) ≤ i by omega)
    have c3 := tt (show (i : Int) < (a.length : Int) by omega)
    have c4 := tt (show (i : Int) < (b.length : Int) by omega)
    have c5 : wrap64 ((i : Int) + 1) = ((i + 1 : Nat) : Int) := by rw [w64 (by omega) (by omega)]; rfl
    rw [drop24 a i (by omega), drop24 b i (by omega), pre] at hp
    simp only [align_Parting.l0, c1, c2, c3, c4, c5, eqv_not, if_true]
    by_cases h : rd_T24 a (i : Int) = rd_T24 b (i : Int)
    · have c6 := ff (show ¬ ((!eqv (rd_T24 a (i : Int)) (rd_T24 b (i : Int))) = true) by rw [(eqv_iff _ _).2 h]; decide)
      rw [if_pos h] at hp
      simp only [c6, if_false]
      exact ih (i + 1) (by omega) (by omega)
    · have e : eqv (rd_T24 a (i : Int)) (rd_T24 b (i : Int)) = false := by
        rw [Bool.eq_false_iff]
        exact fun h2 => h ((eqv_iff _ _).1 h2)
      have c6 := tt (show ((!eqv (rd_T24 a (i : Int)) (rd_T24 b (i : Int))) = true) by rw [e]; rfl)
      rw [if_neg h] at hp
      simp only [c6, if_true]
      have : part a b = (i : Int) := by unfold part; rw [if_neg (by omega)]; omega
      rw [this]
      exact Ev.now _
theorem Parting_ok (a b : List S24) (ha : a.length ≤ 9000000000000000000) (hb : b.length ≤ 9000000000000000000) : Ev (fun k => align_Parting.f k a b) (part a b) := Parting_loop a b ha hb (min a.length b.length) 0 (by omega) (by simp)
theorem refParting_loop (a b : List S24) (ha : a.length ≤ 9000000000000000000) (hb : b.length ≤ 9000000000000000000) : ∀ (d i : Nat), i + d = min a.length b.length → i + pre (a.drop i) (b.drop i) = pre a b →
    Ev (fun k => parallaxref15_Parting.l0 k a b i) (part a b) := by
  have pl := pre_le a b
  intro d
  induction d with
  | zero =>
    intro i hi hp
    refine evs ?_
    have p0 : pre (a.drop i) (b.drop i) = 0 := by
      have := pre_le (a.drop i) (b.drop i)
      simp only [List.length_drop] at this
      omega
    by_cases h1 : (i : Int) < (a.length : Int)
    · have c1 := tt h1
      have c2 := ff (show ¬ (i : Int) < (b.length : Int) by omega)
      have c3 := ff (show ¬ (i : Int) = (a.length : Int) by omega)
      simp only [parallaxref15_Parting.l0, c1, c2, c3, if_true, if_false]
      have : part a b = (i : Int) := by unfold part; rw [if_neg (by omega)]; omega
      rw [this]
      exact Ev.now _
    · have c1 := ff h1
      have c3 := tt (show (i : Int) = (a.length : Int) by omega)
      by_cases h2 : (i : Int) = (b.length : Int)
      · have c4 := tt h2
        rw [h2] at c1 c3
        simp only [parallaxref15_Parting.l0, h2, c1, c3, if_true, if_false]
        have : part a b = -1 := by unfold part; rw [if_pos (by omega)]
        rw [this]
        exact Ev.now _
      · have c4 := ff h2
        simp only [parallaxref15_Parting.l0, c1, c3, c4, if_true, if_false]
        have : part a b = (i : Int) := by unfold part; rw [if_neg (by omega)]; omega
        rw [this]
        exact Ev.now _
  | succ d ih =>
    intro i hi hp
    refine evs ?_
    have c2 := tt (show (0 : Int) ≤ i by omega)
    have c3 := tt (show (i : Int) < (a.length : Int) by omega)
    have c4 := tt (show (i : Int) < (b.length : Int) by omega)
    have c7 := ff (show ¬ (i : Int) = (a.length : Int) by omega)
    have c5 : wrap64 ((i : Int) + 1) = ((i + 1 : Nat) : Int) := by rw [w64 (by omega) (by omega)]; rfl
    rw [drop24 a i (by omega), drop24 b i (by omega), pre] at hp
    simp only [parallaxref15_Parting.l0, c2, c3, c4, c5, c7, if_true, if_false]
    by_cases h : rd_T24 a (i : Int) = rd_T24 b (i : Int)
    · have c6 := tt (show (((rd_T24 a (i : Int)).f0 == (rd_T24 b (i : Int)).f0 && ((rd_T24 a (i : Int)).f1 == (rd_T24 b (i : Int)).f1)) = true) from (eqv_iff _ _).2 h)
      rw [if_pos h] at hp
      simp only [c6, if_true]
      exact ih (i + 1) (by omega) (by omega)
    · have c6 := ff (show ¬ (((rd_T24 a (i : Int)).f0 == (rd_T24 b (i : Int)).f0 && ((rd_T24 a (i : Int)).f1 == (rd_T24 b (i : Int)).f1)) = true) from fun h2 => h ((eqv_iff _ _).1 h2))
      rw [if_neg h] at hp
      simp only [c6, if_false]
      have : part a b = (i : Int) := by unfold part; rw [if_neg (by omega)]; omega
      rw [this]
      exact Ev.now _
theorem refParting_ok (a b : List S24) (ha : a.length ≤ 9000000000000000000) (hb : b.length ≤ 9000000000000000000) : Ev (fun k => parallaxref15_Parting.f k a b) (part a b) := refParting_loop a b ha hb (min a.length b.length) 0 (by omega) (by simp)

end Go.Proofs.Ythbgbeelcnfofaa.Q
