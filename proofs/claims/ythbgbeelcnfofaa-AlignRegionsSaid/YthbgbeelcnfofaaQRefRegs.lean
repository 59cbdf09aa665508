/- The document's gaps of a matching are the program's. -/
import Derived.Test.YthbgbeelcnfofaaPx0
import Derived.Test.YthbgbeelcnfofaaPx11
import Derived.Test.YthbgbeelcnfofaaQBase
import Derived.Test.YthbgbeelcnfofaaQRegs
import Derived.Test.YthbgbeelcnfofaaQRises
-- use: QBase
-- use: QRegs
-- use: QRises
namespace Go.Proofs.Ythbgbeelcnfofaa.Q
set_option linter.unusedVariables false
set_option linter.unusedSimpArgs false
open Go.RowKit Go.Proofs.YthbgbeelcnfofaaW.PrintWords Go.Proofs.YthbgbeelcnfofaaW.PrintLast Go.Proofs.YthbgbeelcnfofaaW.PrintMore Go.Proofs.Ythbgbeelcnfofaa.P

def o60 (x : S49) : S60 := ⟨x.f0, x.f1, x.f2, x.f3⟩
theorem rd67_mid (a b : List S67) (x : S67) : rd_T67 (a ++ x :: b) (a.length : Int) = x := by simp [rd_T67, List.getD]
theorem rd67_mid' (a b : List S67) (y x : S67) : rd_T67 (a ++ y :: x :: b) ((a.length + 1 : Nat) : Int) = x := by
  have := rd67_mid (a ++ [y]) b x
  simpa using this
theorem hole60 (fa ta fb tb : Int) : (hole fa ta fb tb).map o60 = if fa < ta then [(⟨fa, ta, fb, tb⟩ : S60)] else if fb < tb then [(⟨fa, ta, fb, tb⟩ : S60)] else [] := by
  unfold hole
  by_cases h1 : fa < ta
  · rw [if_pos (.inl h1), if_pos h1]; rfl
  · rw [if_neg h1]
    by_cases h2 : fb < tb
    · rw [if_pos (.inr h2), if_pos h2]; rfl
    · rw [if_neg (fun h => h.elim h1 h2), if_neg h2]; rfl
/-- One round of the document's loop. -/
theorem refRegs_step (P S : List S67) (y x : S67) (out : List S60) (hP : P.length ≤ 1000000) (ho : out.length ≤ 1000000) (h1 : -1 ≤ y.f0 ∧ y.f0 ≤ 1000000) (h2 : -1 ≤ y.f1 ∧ y.f1 ≤ 1000000) (r : List S60 × Int)
    (h : Ev (fun k => parallaxref15_Regions.l0 k (P ++ y :: x :: S) (out ++ (hole (y.f0 + 1) x.f0 (y.f1 + 1) x.f1).map o60) ((P.length + 2 : Nat) : Int)) r) :
    Ev (fun k => parallaxref15_Regions.l0 k (P ++ y :: x :: S) out ((P.length + 1 : Nat) : Int)) r := by
  have k1 := tt (show ((P.length + 1 : Nat) : Int) < ((P ++ y :: x :: S).length : Int) by simp only [List.length_append, List.length_cons]; omega)
  have k2 : wrap64 (((P.length + 1 : Nat) : Int) - 1) = (P.length : Int) := by rw [w64 (by omega) (by omega)]; omega
  have k3 := tt (show (0 : Int) ≤ (P.length : Int) by omega)
  have k4 := tt (show (P.length : Int) < ((P ++ y :: x :: S).length : Int) by simp only [List.length_append, List.length_cons]; omega)
  have k5 := tt (show (0 : Int) ≤ ((P.length + 1 : Nat) : Int) by omega)
  have k6 : wrap64 (y.f0 + 1) = y.f0 + 1 := w64 (by omega) (by omega)
  have k7 : wrap64 (y.f1 + 1) = y.f1 + 1 := w64 (by omega) (by omega)
  have k8 := tt (show out.length < 4398046511104 by omega)
  have b1 : P.length + 1 + 1 ≤ 1000000000000 := by omega
  have e1 := rd67_mid P (x :: S) y
  have e2 := rd67_mid' P S y x
  rw [hole60] at h
  refine evs ?_
  simp only [parallaxref15_Regions.l0, k1, k2, k3, k4, k5, e1, e2, k6, k7, k8, wsucc b1, if_true]
  by_cases h3 : y.f0 + 1 < x.f0
  · rw [if_pos h3] at h
    simp only [tt h3, if_true]
    exact h
  · rw [if_neg h3] at h
    simp only [ff h3, if_false]
    by_cases h4 : y.f1 + 1 < x.f1
    · rw [if_pos h4] at h
      simp only [tt h4, if_true]
      exact h
    · rw [if_neg h4, List.append_nil] at h
      simp only [ff h4, if_false]
      exact h
theorem refRegs_loop (n m : Int) (hn : n ≤ 1000000) (hm : m ≤ 1000000) : ∀ (S P : List S67) (y : S67) (out : List S60), P.length + S.length ≤ 500000 → out.length ≤ P.length → -1 ≤ y.f0 ∧ y.f0 ≤ 1000000 → -1 ≤ y.f1 ∧ y.f1 ≤ 1000000 → up n m y.f0 y.f1 (S.map o41) = true →
    Ev (fun k => parallaxref15_Regions.l0 k (P ++ y :: (S ++ [⟨n, m⟩])) out ((P.length + 1 : Nat) : Int)) (out ++ (regs n m (y.f0 + 1) (y.f1 + 1) (S.map o41)).map o60, 0)
  | [], P, y, out, hP, ho, h1, h2, hu => by
    refine refRegs_step P [] y ⟨n, m⟩ out (by simp only [List.length_nil] at hP; omega) (by simp only [List.length_nil] at hP; omega) h1 h2 _ ?_
    have c1 := ff (show ¬ (((P.length + 2 : Nat) : Int) < ((P ++ y :: [(⟨n, m⟩ : S67)]).length : Int)) by simp only [List.length_append, List.length_cons, List.length_nil]; omega)
    refine evs ?_
    simp only [parallaxref15_Regions.l0, c1, if_false]
    exact Ev.now _
  | x :: S, P, y, out, hP, ho, h1, h2, hu => by
    rw [List.map_cons] at hu
    obtain ⟨⟨u1, u2, u3, u4⟩, u5⟩ := up_cons.1 hu
    simp only [o41] at u1 u2 u3 u4 u5
    rw [List.length_cons] at hP
    have hh : ((hole (y.f0 + 1) x.f0 (y.f1 + 1) x.f1).map o60).length ≤ 1 := by
      rw [List.length_map]
      unfold hole
      split <;> simp
    refine refRegs_step P (S ++ [⟨n, m⟩]) y x out (by omega) (by omega) h1 h2 _ ?_
    have ih := refRegs_loop n m hn hm S (P ++ [y]) x (out ++ (hole (y.f0 + 1) x.f0 (y.f1 + 1) x.f1).map o60) (by rw [List.length_append, List.length_singleton]; omega) (by rw [List.length_append, List.length_append, List.length_singleton]; omega) (by omega) (by omega) u5
    rw [List.length_append, List.length_singleton, List.append_assoc] at ih
    simp only [List.map_cons, regs, List.map_append]
    rw [List.append_assoc] at ih
    exact ih
theorem refRegions_ok (n m : Int) (l : List S67) (hn : n ≤ 1000000) (hm : m ≤ 1000000) (hl : l.length ≤ 400000) :
    Ev (fun k => parallaxref15_Regions.f k n m l) ((if wrong n m (l.map o41) = 0 then regs n m 0 0 (l.map o41) else []).map o60, wrong n m (l.map o41)) := by
  have j1 : (n < 0 ∨ m < 0) → Ev (fun k => parallaxref15_Regions.j0 k n m l true) ((if wrong n m (l.map o41) = 0 then regs n m 0 0 (l.map o41) else []).map o60, wrong n m (l.map o41)) := by
    intro h
    have e : wrong n m (l.map o41) = 1 := by unfold wrong; rw [if_pos h]
    rw [e, if_neg (by decide)]
    refine evs ?_
    simp only [parallaxref15_Regions.j0, if_true]
    exact Ev.now _
  unfold parallaxref15_Regions.f
  by_cases h1 : n < 0
  · simp only [tt h1, if_true]
    exact j1 (.inl h1)
  by_cases h2 : m < 0
  · rw [decide_eq_true h2]
    simp only [ff h1, if_false]
    exact j1 (.inr h2)
  rw [decide_eq_false h2]
  simp only [ff h1, if_false]
  have c := ff (show ¬ (false = true) by decide)
  have k1 := tt (show ([] : List S67).length < 8796093022208 by decide)
  have k2 := tt (show (([] : List S67) ++ [(⟨-1, -1⟩ : S67)]).length + l.length < 8796093022208 by simp only [List.nil_append, List.length_singleton]; omega)
  have k3 := tt (show ((([] : List S67) ++ [(⟨-1, -1⟩ : S67)]) ++ l).length < 8796093022208 by simp only [List.nil_append, List.length_append, List.length_singleton]; omega)
  refine evs ?_
  simp only [parallaxref15_Regions.j0, c, if_false]
  refine Ev.bind (Rises_ok n m l (by omega)) ?_
  cases hu : up n m (-1) (-1) (l.map o41) with
  | true =>
    have e : wrong n m (l.map o41) = 0 := wrong_no (by omega) (by omega) hu
    rw [e, if_pos rfl]
    have := refRegs_loop n m hn hm l [] ⟨-1, -1⟩ [] (by simp only [List.length_nil]; omega) (Nat.le_refl _) (by simp only; omega) (by simp only; omega) hu
    simp only [if_true, k1]
    refine Ev.bind (Ev.now _) ?_
    simp only [if_true, k2]
    refine Ev.bind (Ev.now _) ?_
    simp only [if_true, k3]
    simpa using this
  | false =>
    have e : wrong n m (l.map o41) = 90 := by unfold wrong; rw [if_neg (show ¬ (n < 0 ∨ m < 0) by omega), hu]; rfl
    rw [e, if_neg (by decide)]
    simp only [c, if_false]
    exact Ev.now _

end Go.Proofs.Ythbgbeelcnfofaa.Q
