/- An event put to both rows' ends makes the matching greater by one. -/
import Derived.Test.YthbgbeelcnfofaaPx0
import Derived.Test.YthbgbeelcnfofaaPx29
import Derived.Test.YthbgbeelcnfofaaQPairs
import Derived.Test.YthbgbeelcnfofaaQKnown15
-- use: QPairs
-- use: QKnown15
namespace Go.Proofs.Ythbgbeelcnfofaa.Pure
set_option linter.unusedVariables false
set_option linter.unusedSimpArgs false
open Go.RowKit Go.Proofs.Ythbgbeelcnfofaa.P Go.Proofs.YthbgbeelcnfofaaW.PrintWords Go.Proofs.YthbgbeelcnfofaaW.PrintLast Go.Proofs.YthbgbeelcnfofaaW.PrintMore Go.Proofs.Ythbgbeelcnfofaa.Q

theorem uncut (a b : List S24) (ha : a.length ≤ 24) (hb : b.length ≤ 24) : cut a b 1000 = false := by
  unfold cut
  have : (a.length - pre a b) * (b.length - pre a b) ≤ 24 * 24 := Nat.mul_le_mul (by omega) (by omega)
  refine decide_eq_false ?_
  unfold mx
  split <;> omega

theorem AlignGrows : parallaxlaw15_AlignGrows.Pure := by
  intro a b x y _ _ hx hy
  refine Ev.rounds ?_
  unfold parallaxlaw15_AlignGrows.f
  have jt : Ev (fun k => parallaxlaw15_AlignGrows.j0 k a b true x y) true := by
    refine evs ?_
    simp only [parallaxlaw15_AlignGrows.j0, if_true]
    exact known_fin
  by_cases ha : (a.length : Int) > 23
  · have c := tt ha
    simp only [c, if_true]
    exact jt
  have c := ff ha
  simp only [c, if_false]
  by_cases hb : (b.length : Int) > 23
  · rw [decide_eq_true hb]
    exact jt
  rw [decide_eq_false hb]
  have s1 : (a ++ [(⟨x, y⟩ : S24)]).length = a.length + 1 := by simp
  have s2 : (b ++ [(⟨x, y⟩ : S24)]).length = b.length + 1 := by simp
  have u1 := uncut a b (by omega) (by omega)
  have u2 := uncut (a ++ [(⟨x, y⟩ : S24)]) (b ++ [(⟨x, y⟩ : S24)]) (by omega) (by omega)
  have m1 := Match_ok a b 1000 (by omega) (by omega) (by decide) (by decide)
  have m2 := Match_ok (a ++ [(⟨x, y⟩ : S24)]) (b ++ [(⟨x, y⟩ : S24)]) 1000 (by omega) (by omega) (by decide) (by decide)
  have n1 := Mt_length a b 1000
  have n2 := Mt_length (a ++ [(⟨x, y⟩ : S24)]) (b ++ [(⟨x, y⟩ : S24)]) 1000
  rw [u1, if_neg (by decide)] at n1
  rw [u2, if_neg (by decide), L_snoc] at n2
  rw [u1] at m1
  rw [u2] at m2
  have hl := (L_le a b).1
  have k1 := tt (show ([] : List S24).length + a.length < 8796093022208 by simp only [List.length_nil]; omega)
  have k2 := tt (show ([] : List S24).length + b.length < 8796093022208 by simp only [List.length_nil]; omega)
  have k3 := tt (show ([] ++ a).length + [(⟨x, y⟩ : S24)].length < 8796093022208 by simp only [List.nil_append, List.length_singleton]; omega)
  have k4 := tt (show ([] ++ b).length + [(⟨x, y⟩ : S24)].length < 8796093022208 by simp only [List.nil_append, List.length_singleton]; omega)
  have b1 : L a b + 1 ≤ 1000000000000 := by omega
  have c1 := ff (show ¬ (false = true) by decide)
  have e : (((Mt (a ++ [(⟨x, y⟩ : S24)]) (b ++ [(⟨x, y⟩ : S24)]) 1000).map p41).length : Int) = wrap64 ((((Mt a b 1000).map p41).length : Int) + 1) := by
    rw [List.length_map, List.length_map, n1, n2, wsucc b1]
  have c2 := tt e
  refine evs ?_
  simp only [parallaxlaw15_AlignGrows.j0, c1, k1, if_true, if_false]
  refine Ev.bind (Ev.now _) (Ev.bind (Ev.now _) ?_)
  simp only [k2, k3, if_true]
  refine Ev.bind (Ev.now _) (Ev.bind (Ev.now _) ?_)
  simp only [k4, if_true]
  refine Ev.bind m1 (Ev.bind m2 ?_)
  simp only [c1, c2, if_true, if_false]
  exact known_fin

end Go.Proofs.Ythbgbeelcnfofaa.Pure
