/- Both programs' tables are the table of the greatest matchings' sizes. -/
import Derived.Test.YthbgbeelcnfofaaPx0
import Derived.Test.YthbgbeelcnfofaaPx13
import Derived.Test.YthbgbeelcnfofaaPx5
import Derived.Test.YthbgbeelcnfofaaQBits
import Derived.Test.YthbgbeelcnfofaaQLcs
-- use: QBits
-- use: QLcs
namespace Go.Proofs.Ythbgbeelcnfofaa.Q
set_option linter.unusedVariables false
set_option linter.unusedSimpArgs false
open Go.RowKit Go.Proofs.YthbgbeelcnfofaaW.PrintWords Go.Proofs.YthbgbeelcnfofaaW.PrintLast Go.Proofs.YthbgbeelcnfofaaW.PrintMore Go.Proofs.Ythbgbeelcnfofaa.P

/-- The sizes of what stands from an index of the second row on. -/
def Row (a : List S24) : List S24 → List Int
  | [] => [0]
  | y :: b => (L a (y :: b) : Int) :: Row a b
def Tab : List S24 → List S24 → List (List Int)
  | [], b => [Row [] b]
  | x :: a, b => Row (x :: a) b :: Tab a b
theorem Row_length (a : List S24) : ∀ b, (Row a b).length = b.length + 1
  | [] => rfl
  | y :: b => by simp only [Row, List.length_cons, Row_length a b]
theorem Row_head (a b : List S24) : rd (Row a b) 0 = (L a b : Int) := by
  cases b with
  | nil => rw [L_nil']; rfl
  | cons y b => rfl
theorem Row_at (a : List S24) : ∀ (b : List S24) (j : Nat), j ≤ b.length → rd (Row a b) (j : Int) = (L a (b.drop j) : Int)
  | b, 0, _ => Row_head a b
  | [], j + 1, h => by simp at h
  | y :: b, j + 1, h => by
    have := Row_at a b j (by simpa using h)
    simpa [Row, rd] using this
theorem Row_zero : ∀ b : List S24, Row [] b = List.replicate (b.length + 1) 0
  | [] => rfl
  | y :: b => by
    simp only [Row, L_nil, List.length_cons, Row_zero b]
    rfl
theorem rd_zero_cons (v : Int) (l : List Int) : rd (v :: l) 0 = v := rfl
theorem rd_one_cons (v : Int) (l : List Int) : rd (v :: l) 1 = rd l 0 := rfl
theorem row_ok (x : S24) (a : List S24) : ∀ b : List S24, b.length ≤ 1000000000 → align_sizes.row x b (Row a b) = Row (x :: a) b
  | [], _ => rfl
  | y :: b, h => by
    have ih := row_ok x a b (by simp only [List.length_cons] at h; omega)
    have hl := L_le a b
    simp only [List.length_cons] at h
    simp only [align_sizes.row, Row, List.tail_cons, ih, rd_zero_cons, rd_one_cons, Row_head]
    rw [L_cons]
    congr 1
    by_cases hxy : x = y
    · have e : align_sizes.eqv x y = true := (eqv_iff x y).2 hxy
      rw [if_pos e, if_pos hxy, w64 (by omega) (by omega)]
      rfl
    · have e : ¬ align_sizes.eqv x y = true := fun h2 => hxy ((eqv_iff x y).1 h2)
      rw [if_neg e, if_neg hxy]
      unfold mx
      split <;> omega
theorem refRow_ok (x : S24) (a : List S24) : ∀ b : List S24, b.length ≤ 1000000000 → parallaxref15_Sizes.row x b (Row a b) = Row (x :: a) b
  | [], _ => rfl
  | y :: b, h => by
    have ih := refRow_ok x a b (by simp only [List.length_cons] at h; omega)
    have hl := L_le a b
    have h1 := L_right y a b
    have h2 := L_left x a b
    simp only [List.length_cons] at h
    simp only [parallaxref15_Sizes.row, Row, List.tail_cons, ih, rd_zero_cons, rd_one_cons, Row_head]
    rw [L_cons]
    congr 1
    unfold parallaxref15_Sizes.cell
    rw [w64 (by omega) (by omega)]
    by_cases hxy : x = y
    · have e : parallaxref15_Sizes.eqv x y = true := (eqv_iff x y).2 hxy
      rw [if_pos e, if_pos hxy]
      split <;> split <;> omega
    · have e : ¬ parallaxref15_Sizes.eqv x y = true := fun h2 => hxy ((eqv_iff x y).1 h2)
      rw [if_neg e, if_neg hxy]
      split <;> omega
theorem Tab_head (a b : List S24) : (Tab a b).headD [] = Row a b := by cases a <;> rfl
theorem tab_ok : ∀ a b : List S24, b.length ≤ 1000000000 → align_sizes.tab a b = Tab a b
  | [], b, _ => by simp only [align_sizes.tab, Tab, Row_zero]
  | x :: a, b, h => by simp only [align_sizes.tab, Tab, tab_ok a b h, Tab_head, row_ok x a b h]
theorem refTab_ok : ∀ a b : List S24, b.length ≤ 1000000000 → parallaxref15_Sizes.tab a b = Tab a b
  | [], b, _ => by simp only [parallaxref15_Sizes.tab, Tab, Row_zero]
  | x :: a, b, h => by simp only [parallaxref15_Sizes.tab, Tab, refTab_ok a b h, Tab_head, refRow_ok x a b h]
theorem Tab_length : ∀ a b : List S24, (Tab a b).length = a.length + 1
  | [], b => rfl
  | x :: a, b => by simp only [Tab, List.length_cons, Tab_length a b]
theorem Tab_at : ∀ (a b : List S24) (i : Nat), i ≤ a.length → (Tab a b)[i]? = some (Row (a.drop i) b)
  | [], b, 0, _ => rfl
  | x :: a, b, 0, _ => rfl
  | [], b, i + 1, h => by simp at h
  | x :: a, b, i + 1, h => by
    simp only [Tab, List.getElem?_cons_succ, List.drop_succ_cons]
    exact Tab_at a b i (by simpa using h)
theorem Tab_flat : ∀ (a b : List S24) (i j : Nat), i ≤ a.length → j ≤ b.length → rd (Tab a b).flatten ((i * (b.length + 1) + j : Nat) : Int) = (L (a.drop i) (b.drop j) : Int)
  | a, b, 0, j, _, h => by
    have : (Tab a b).flatten = Row a b ++ ((Tab a b).tail).flatten := by cases a <;> simp [Tab]
    rw [this, Nat.zero_mul, Nat.zero_add, List.drop_zero, ← Row_at a b j h]
    unfold rd
    rw [Int.toNat_natCast, List.getD_eq_getElem?_getD, List.getD_eq_getElem?_getD, List.getElem?_append_left (by rw [Row_length]; omega)]
  | [], b, i + 1, j, h, _ => by simp at h
  | x :: a, b, i + 1, j, h, hj => by
    have ih := Tab_flat a b i j (by simpa using h) hj
    rw [List.drop_succ_cons, ← ih]
    simp only [Tab, List.flatten_cons]
    unfold rd
    rw [Int.toNat_natCast, Int.toNat_natCast, List.getD_eq_getElem?_getD, List.getD_eq_getElem?_getD, Nat.add_mul, Nat.one_mul, List.getElem?_append_right (by rw [Row_length]; omega), Row_length]
    congr 2
    omega
theorem Tab_flat_length (a b : List S24) : (Tab a b).flatten.length = (a.length + 1) * (b.length + 1) := by
  induction a with
  | nil => simp [Tab, Row_length]
  | cons x a ih =>
    simp only [Tab, List.flatten_cons, List.length_append, ih, Row_length, List.length_cons]
    rw [Nat.add_mul (a.length + 1) 1]
    omega
theorem table_at_ok (a b : List S24) (ha : a.length ≤ 1000) (hb : b.length ≤ 1000) (i j : Nat) (hi : i ≤ a.length) (hj : j ≤ b.length) : align_table_at.f ((b.length : Int) + 1) (Tab a b).flatten (i : Int) (j : Int) = some ((L (a.drop i) (b.drop j) : Int), (b.length : Int) + 1) := by
  have h1 : i * (b.length + 1) ≤ 1000 * 1001 := Nat.mul_le_mul (by omega) (by omega)
  have h2 : i * (b.length + 1) + j < (a.length + 1) * (b.length + 1) := by
    have : (i + 1) * (b.length + 1) ≤ (a.length + 1) * (b.length + 1) := Nat.mul_le_mul_right _ (by omega)
    rw [Nat.add_mul, Nat.one_mul] at this
    omega
  have e0 : (i : Int) * ((b.length : Int) + 1) = ((i * (b.length + 1) : Nat) : Int) := by rw [Int.natCast_mul]; rfl
  have e1 : wrap64 (wrap64 ((i : Int) * ((b.length : Int) + 1)) + (j : Int)) = ((i * (b.length + 1) + j : Nat) : Int) := by
    rw [e0]
    generalize i * (b.length + 1) = p at h1
    rw [w64 (n := (p : Int)) (by omega) (by omega), w64 (by omega) (by omega)]
    rfl
  have c1 := tt (show (0 : Int) ≤ ((i * (b.length + 1) + j : Nat) : Int) by omega)
  have c2 := tt (show ((i * (b.length + 1) + j : Nat) : Int) < ((Tab a b).flatten.length : Int) by rw [Tab_flat_length]; omega)
  unfold align_table_at.f
  rw [e1]
  simp only [c1, c2, if_true, Tab_flat a b i j hi hj]

end Go.Proofs.Ythbgbeelcnfofaa.Q
