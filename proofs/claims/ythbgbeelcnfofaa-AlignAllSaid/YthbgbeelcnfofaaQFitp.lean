/- The matching is one, of the greatest size: plain Lean. -/
import Derived.Test.YthbgbeelcnfofaaPx0
import Derived.Test.YthbgbeelcnfofaaQBits
import Derived.Test.YthbgbeelcnfofaaQUp
-- use: QBits
-- use: QUp
namespace Go.Proofs.Ythbgbeelcnfofaa.Q
set_option linter.unusedVariables false
set_option linter.unusedSimpArgs false
open Go.RowKit Go.Proofs.YthbgbeelcnfofaaW.PrintWords Go.Proofs.YthbgbeelcnfofaaW.PrintLast Go.Proofs.YthbgbeelcnfofaaW.PrintMore Go.Proofs.Ythbgbeelcnfofaa.P

theorem pre_eq : ∀ (a b : List S24) (i : Nat), i < pre a b → rd_T24 a (i : Int) = rd_T24 b (i : Int)
  | [], b, i, h => by simp [pre] at h
  | x :: a, [], i, h => by simp [pre] at h
  | x :: a, y :: b, i, h => by
    simp only [pre] at h
    split at h
    case isTrue hxy =>
      cases i with
      | zero => simpa [rd_T24] using hxy
      | succ i =>
        have := pre_eq a b i (by omega)
        simpa [rd_T24] using this
    case isFalse => omega
/-- Pairs that are a matching, behind a pair. -/
def fitp (a b : List S24) (p q : Int) (l : List S41) : Prop := up (a.length : Int) (b.length : Int) p q l = true ∧ alike a b l = true
theorem fitp_cons {a b : List S24} {p q : Int} {x : S41} {l : List S41} : fitp a b p q (x :: l) ↔ (p < x.f0 ∧ q < x.f1 ∧ x.f0 < (a.length : Int) ∧ x.f1 < (b.length : Int)) ∧ rd_T24 a x.f0 = rd_T24 b x.f1 ∧ fitp a b x.f0 x.f1 l := by
  unfold fitp
  rw [up_cons, alike_cons, Bool.and_eq_true, eqv_iff]
  constructor
  · rintro ⟨⟨h1, h2⟩, h3, h4⟩
    exact ⟨h1, h3, h2, h4⟩
  · rintro ⟨h1, h3, h2, h4⟩
    exact ⟨⟨h1, h2⟩, h3, h4⟩
theorem fitp_nil (a b : List S24) (p q : Int) : fitp a b p q [] := ⟨rfl, rfl⟩
theorem fit_iff {a b : List S24} {l : List S41} : fit a b l = true ↔ fitp a b (-1) (-1) l := by
  unfold fit fitp
  rw [Bool.and_eq_true]
theorem fitp_less {a b : List S24} {p q p' q' : Int} {l : List S41} (hp : p' ≤ p) (hq : q' ≤ q) (h : fitp a b p q l) : fitp a b p' q' l := by
  cases l with
  | nil => exact fitp_nil _ _ _ _
  | cons x l =>
    rw [fitp_cons] at h ⊢
    exact ⟨by omega, h.2⟩
/-- A matching is a common row. -/
theorem fitp_L {a b : List S24} : ∀ (l : List S41) (p q : Nat), fitp a b ((p : Int) - 1) ((q : Int) - 1) l → l.length ≤ L (a.drop p) (b.drop q)
  | [], _, _, _ => Nat.zero_le _
  | x :: l, p, q, h => by
    obtain ⟨⟨h1, h2, h3, h4⟩, h5, h6⟩ := fitp_cons.1 h
    obtain ⟨i, hi⟩ : ∃ i : Nat, x.f0 = (i : Int) := ⟨x.f0.toNat, by omega⟩
    obtain ⟨j, hj⟩ : ∃ j : Nat, x.f1 = (j : Int) := ⟨x.f1.toNat, by omega⟩
    rw [hi] at h1 h3 h5 h6
    rw [hj] at h2 h4 h5 h6
    have ih := fitp_L l (i + 1) (j + 1) (fitp_less (by omega) (by omega) h6)
    have e := L_cons (rd_T24 a (i : Int)) (rd_T24 b (j : Int)) (a.drop (i + 1)) (b.drop (j + 1))
    rw [if_pos h5, ← drop24 a i (by omega), ← drop24 b j (by omega)] at e
    have m1 : (a.drop i).Sublist (a.drop p) := by
      rw [show i = p + (i - p) by omega, ← List.drop_drop]
      exact List.drop_sublist _ _
    have m2 : (b.drop j).Sublist (b.drop q) := by
      rw [show j = q + (j - q) by omega, ← List.drop_drop]
      exact List.drop_sublist _ _
    have := L_mono m1 m2
    rw [List.length_cons]
    omega
/-- The least matching of the greatest size is one. -/
theorem G_fits (a b : List S24) : ∀ (d i j : Nat), i + d = a.length → j ≤ b.length → fitp a b ((i : Int) - 1) ((j : Int) - 1) ((G (a.drop i) (b.drop j) i j).map p41) := by
  intro d
  induction d with
  | zero =>
    intro i j hi hj
    rw [List.drop_of_length_le (by omega)]
    exact fitp_nil _ _ _ _
  | succ d ih =>
    intro i j hi hj
    rw [drop24 a i (by omega)]
    unfold G
    split
    · exact fitp_nil _ _ _ _
    split
    case _ h e =>
      obtain ⟨h1, h2, h3⟩ := hit_some _ _ _ _ _ e
      rw [List.length_drop] at h1
      rw [List.map_cons, List.drop_drop, fitp_cons]
      refine ⟨?_, ?_, ?_⟩
      · simp only [p41]
        omega
      · simp only [p41]
        rw [rd24_get b (j + h) (by omega)]
        rw [List.getElem?_drop, List.getElem?_eq_getElem (by omega)] at h2
        injection h2 with h2
        exact h2.symm
      · have := ih (i + 1) (j + h + 1) (by omega) (by omega)
        simp only [p41]
        rw [show j + (h + 1) = j + h + 1 by omega]
        exact fitp_less (by omega) (by omega) this
    case _ e =>
      exact fitp_less (by omega) (by omega) (ih (i + 1) j (by omega) hj)
theorem DG_fits (a b : List S24) (r : List S41) : ∀ i, i ≤ pre a b → fitp a b ((i : Int) - 1) ((i : Int) - 1) r → fitp a b (-1) (-1) ((DG i).map p41 ++ r)
  | 0, _, h => h
  | i + 1, hi, h => by
    obtain ⟨pa, pb⟩ := pre_le a b
    rw [DG_succ, List.map_append, List.append_assoc]
    refine DG_fits a b _ i (by omega) ?_
    refine fitp_cons.2 ⟨?_, pre_eq a b i (by omega), ?_⟩
    · simp only [p41]
      omega
    · simp only [p41]
      exact fitp_less (by omega) (by omega) h
theorem Mt_fits (a b : List S24) (lim : Int) : fit a b ((Mt a b lim).map p41) = true := by
  obtain ⟨pa, pb⟩ := pre_le a b
  rw [fit_iff]
  unfold Mt
  split
  · have := DG_fits a b [] (pre a b) (Nat.le_refl _) (fitp_nil _ _ _ _)
    rwa [List.append_nil] at this
  · rw [List.map_append]
    exact DG_fits a b _ (pre a b) (Nat.le_refl _) (G_fits a b (a.length - pre a b) (pre a b) (pre a b) (by omega) pb)
theorem Mt_at (a b : List S24) (lim : Int) (i : Nat) (hi : i < pre a b) : rd_T41 ((Mt a b lim).map p41) (i : Int) = ⟨(i : Int), (i : Int)⟩ := by
  have hd : (DG (pre a b))[i]? = some (i, i) := by simp [DG, hi]
  have : (Mt a b lim)[i]? = some (i, i) := by
    unfold Mt
    split
    · exact hd
    · rw [List.getElem?_append_left (by rw [DG_length]; exact hi)]
      exact hd
  simp [rd_T41, List.getD, this, p41]

end Go.Proofs.Ythbgbeelcnfofaa.Q
