/- Gaps and pairs hold each index once: plain Lean. -/
import Derived.Test.YthbgbeelcnfofaaPx0
import Derived.Test.YthbgbeelcnfofaaQBits
import Derived.Test.YthbgbeelcnfofaaQRegs
-- use: QBits
-- use: QRegs
namespace Go.Proofs.Ythbgbeelcnfofaa.Q
set_option linter.unusedVariables false
set_option linter.unusedSimpArgs false
open Go.RowKit Go.Proofs.YthbgbeelcnfofaaW.PrintWords Go.Proofs.YthbgbeelcnfofaaW.PrintLast Go.Proofs.YthbgbeelcnfofaaW.PrintMore Go.Proofs.Ythbgbeelcnfofaa.P

/-- In how many pairs, in how many gaps an index stands. -/
def inP (key : S41 → Int) : List S41 → Int → Nat
  | [], _ => 0
  | x :: l, i => (if key x = i then 1 else 0) + inP key l i
def inR (lo hi : S49 → Int) : List S49 → Int → Nat
  | [], _ => 0
  | x :: l, i => (if lo x ≤ i ∧ i < hi x then 1 else 0) + inR lo hi l i
theorem inR_append (lo hi : S49 → Int) : ∀ (a b : List S49) (i : Int), inR lo hi (a ++ b) i = inR lo hi a i + inR lo hi b i
  | [], b, i => by simp [inR]
  | x :: a, b, i => by simp only [List.cons_append, inR, inR_append lo hi a b i]; omega
theorem hole_A (fa ta fb tb i : Int) : inR S49.f0 S49.f1 (hole fa ta fb tb) i = if fa ≤ i ∧ i < ta then 1 else 0 := by
  unfold hole
  split
  · simp only [inR]; omega
  · rw [if_neg (by omega)]
    rfl
theorem hole_B (fa ta fb tb i : Int) : inR S49.f2 S49.f3 (hole fa ta fb tb) i = if fb ≤ i ∧ i < tb then 1 else 0 := by
  unfold hole
  split
  · simp only [inR]; omega
  · rw [if_neg (by omega)]
    rfl
theorem once_A (n m : Int) : ∀ (l : List S41) (p q : Int), up n m p q l = true → ∀ i, inP S41.f0 l i + inR S49.f0 S49.f1 (regs n m (p + 1) (q + 1) l) i = if p + 1 ≤ i ∧ i < n then 1 else 0
  | [], p, q, _, i => by simp only [inP, regs, hole_A]; omega
  | x :: l, p, q, h, i => by
    obtain ⟨h1, h2⟩ := up_cons.1 h
    have := once_A n m l x.f0 x.f1 h2 i
    simp only [inP, regs, inR_append, hole_A]
    split at this <;> (repeat' split) <;> omega
theorem once_B (n m : Int) : ∀ (l : List S41) (p q : Int), up n m p q l = true → ∀ i, inP S41.f1 l i + inR S49.f2 S49.f3 (regs n m (p + 1) (q + 1) l) i = if q + 1 ≤ i ∧ i < m then 1 else 0
  | [], p, q, _, i => by simp only [inP, regs, hole_B]; omega
  | x :: l, p, q, h, i => by
    obtain ⟨h1, h2⟩ := up_cons.1 h
    have := once_B n m l x.f0 x.f1 h2 i
    simp only [inP, regs, inR_append, hole_B]
    split at this <;> (repeat' split) <;> omega
theorem hole_mem {fa ta fb tb : Int} {r : S49} (h : r ∈ hole fa ta fb tb) : r = ⟨fa, ta, fb, tb⟩ := by
  unfold hole at h
  split at h
  · simpa using h
  · cases h
theorem regs_mem (n m : Int) : ∀ (l : List S41) (p q : Int), -1 ≤ p → -1 ≤ q → p < n → q < m → up n m p q l = true → ∀ r ∈ regs n m (p + 1) (q + 1) l, 0 ≤ r.f0 ∧ r.f1 ≤ n ∧ 0 ≤ r.f2 ∧ r.f3 ≤ m
  | [], p, q, hp, hq, hn, hm, _, r, hr => by
    rw [hole_mem hr]
    simp only
    omega
  | x :: l, p, q, hp, hq, hn, hm, h, r, hr => by
    obtain ⟨h1, h2⟩ := up_cons.1 h
    rcases List.mem_append.1 hr with hr | hr
    · rw [hole_mem hr]
      simp only
      omega
    · exact regs_mem n m l x.f0 x.f1 (by omega) (by omega) (by omega) (by omega) h2 r hr
/-- So much is wanting to one at each index. -/
def Wants (x : List Int) (n : Nat) (g : Int → Nat) : Prop := x.length = n ∧ ∀ i : Nat, i < n → rd x (i : Int) + (g (i : Int) : Int) = 1 ∧ g (i : Int) ≤ 1
theorem rd_set (x : List Int) (j : Nat) (v : Int) (hj : j < x.length) (i : Nat) : rd (x.set j v) (i : Int) = if i = j then v else rd x (i : Int) := by
  unfold rd
  rw [Int.toNat_natCast, List.getD_eq_getElem?_getD, List.getD_eq_getElem?_getD, List.getElem?_set]
  by_cases h : i = j
  · subst h
    simp [hj]
  · rw [if_neg (fun h2 => h h2.symm), if_neg h]
theorem Wants_set {x : List Int} {n : Nat} {g : Int → Nat} (h : Wants x n g) (g' : Int → Nat) (j : Nat) (hj : j < n) (hg : ∀ i, g i = (if (j : Int) = i then 1 else 0) + g' i) : Wants (x.set (j : Int).toNat (wrap64 (rd x (j : Int) + 1))) n g' := by
  obtain ⟨h1, h2⟩ := h
  refine ⟨by rw [List.length_set]; exact h1, fun i hi => ?_⟩
  rw [Int.toNat_natCast, rd_set _ _ _ (by omega)]
  obtain ⟨a1, a2⟩ := h2 i hi
  have := hg (i : Int)
  by_cases e : i = j
  · subst e
    rw [if_pos rfl] at this
    rw [if_pos rfl, w64 (by omega) (by omega)]
    omega
  · rw [if_neg (by omega)] at this
    rw [if_neg e]
    omega
theorem Wants_eq {x : List Int} {n : Nat} {g g' : Int → Nat} (h : Wants x n g) (hg : ∀ i, g i = g' i) : Wants x n g' := by
  obtain rfl : g = g' := funext hg
  exact h
theorem Wants_first (n : Nat) (g : Int → Nat) (hg : ∀ i : Nat, i < n → g (i : Int) = 1) : Wants (List.replicate n 0) n g := by
  refine ⟨List.length_replicate .., fun i hi => ?_⟩
  rw [hg i hi]
  unfold rd
  rw [Int.toNat_natCast, List.getD_eq_getElem?_getD, List.getElem?_replicate, if_pos hi]
  exact ⟨rfl, Nat.le_refl _⟩

end Go.Proofs.Ythbgbeelcnfofaa.Q
