/- The matching is one, and no matching has more pairs. -/
import Derived.Test.YthbgbeelcnfofaaPx0
import Derived.Test.YthbgbeelcnfofaaPx27
import Derived.Test.YthbgbeelcnfofaaQFitp
import Derived.Test.YthbgbeelcnfofaaQSize
import Derived.Test.YthbgbeelcnfofaaQRises
import Derived.Test.YthbgbeelcnfofaaQPairs
import Derived.Test.YthbgbeelcnfofaaQKnown15
-- use: QFitp
-- use: QSize
-- use: QRises
-- use: QPairs
-- use: QKnown15
namespace Go.Proofs.Ythbgbeelcnfofaa.Pure
set_option linter.unusedVariables false
set_option linter.unusedSimpArgs false
open Go.RowKit Go.Proofs.Ythbgbeelcnfofaa.P Go.Proofs.YthbgbeelcnfofaaW.PrintWords Go.Proofs.YthbgbeelcnfofaaW.PrintLast Go.Proofs.YthbgbeelcnfofaaW.PrintMore Go.Proofs.Ythbgbeelcnfofaa.Q

theorem Best_loop (a b : List S24) (lim : Int) (o : List S67) (ha : a.length ≤ 1000) (hb : b.length ≤ 1000) (ho : o.length ≤ 1000) : ∀ (d i : Nat), i + d = pre a b →
    Ev (fun k => parallaxlaw15_AlignBest.l0 k a b o ((Mt a b lim).map p41) (cut a b lim) (pre a b : Int) (i : Int)) true := by
  obtain ⟨pa, pb⟩ := pre_le a b
  have hlen := Mt_length a b lim
  have hL := L_pre a b
  intro d
  induction d with
  | zero =>
    intro i hi
    obtain rfl : i = pre a b := by omega
    have c1 := ff (Int.lt_irrefl (pre a b : Int))
    refine evs ?_
    cases hc : cut a b lim with
    | true =>
      simp only [parallaxlaw15_AlignBest.l0, c1, if_true, if_false]
      exact known_fin
    | false =>
      rw [hc, if_neg (by decide)] at hlen
      have c2 := ff (show ¬ (false = true) by decide)
      simp only [parallaxlaw15_AlignBest.l0, c1, c2, if_false]
      have hs := Size_ok a b (by omega) (by omega)
      have c3 := tt (show ((((Mt a b lim).map p41).length : Nat) : Int) = (L a b : Int) by rw [List.length_map, hlen])
      refine Ev.bind hs ?_
      simp only [c3, if_true]
      refine Ev.bind (refFits_ok a b o (by omega)) ?_
      cases hf : fit a b (o.map o41) with
      | true =>
        have := fitp_L (o.map o41) 0 0 (fit_iff.1 hf)
        rw [List.length_map, List.drop_zero, List.drop_zero] at this
        have c4 := tt (show ((o.length : Nat) : Int) ≤ ((((Mt a b lim).map p41).length : Nat) : Int) by rw [List.length_map, hlen]; omega)
        simp only [c4, if_true]
        exact known_fin
      | false =>
        simp only [c2, if_false]
        exact known_fin
  | succ d ih =>
    intro i hi
    have := ih (i + 1) (by omega)
    have hm := Mt_at a b lim i (by omega)
    have c1 := tt (show (i : Int) < (pre a b : Int) by omega)
    have c2 := tt (show (0 : Int) ≤ (i : Int) by omega)
    have c3 := tt (show (i : Int) < ((((Mt a b lim).map p41).length : Nat) : Int) by
      rw [List.length_map, hlen]
      split <;> omega)
    have b1 : i + 1 ≤ 1000000000000 := by omega
    refine evs ?_
    simp only [parallaxlaw15_AlignBest.l0, c1, c2, c3, hm, wsucc b1, if_true]
    exact this

theorem AlignBest : parallaxlaw15_AlignBest.Pure := by
  intro a b lim o _ _ hl _
  obtain ⟨l0, l1⟩ := wf64 hl
  refine Ev.rounds ?_
  unfold parallaxlaw15_AlignBest.f
  have jt : Ev (fun k => parallaxlaw15_AlignBest.j0 k a b lim o true) true := by
    refine evs ?_
    simp only [parallaxlaw15_AlignBest.j0, if_true]
    exact known_fin
  rcases many_or a b with h | ⟨ha, hb, h⟩
  · simp only [h]
    refine Ev.bind (Ev.now _) ?_
    simp only [if_true]
    exact jt
  simp only [h]
  refine Ev.bind (Ev.now _) ?_
  have c := ff (show ¬ (false = true) by decide)
  simp only [c, if_false]
  by_cases ho : (o.length : Int) > 50
  · rw [decide_eq_true ho]
    exact jt
  rw [decide_eq_false ho]
  obtain ⟨pa, pb⟩ := pre_le a b
  have hL := L_pre a b
  have hLe := L_le a b
  have hlen := Mt_length a b lim
  have hlen2 : (Mt a b lim).length ≤ 1000 := by
    rw [hlen]
    split <;> omega
  have hge : pre a b ≤ (Mt a b lim).length := by
    rw [hlen]
    split <;> omega
  have key : ∀ n : Int, n = (pre a b : Int) → Ev (fun k => parallaxlaw15_AlignBest.j1 k a b o ((Mt a b lim).map p41) (cut a b lim) n) true := by
    rintro n rfl
    have hp := pairs_ok ((Mt a b lim).map p41) (by rw [List.length_map]; omega)
    rw [map_t67] at hp
    have hf := refFits_ok a b ((Mt a b lim).map p67) (by rw [List.length_map]; omega)
    rw [p41_67, Mt_fits] at hf
    have c1 := ff (show ¬ (((((Mt a b lim).map p41).length : Nat) : Int) < (pre a b : Int)) by rw [List.length_map]; omega)
    have j2 : ∀ z, z = false → Ev (fun k => parallaxlaw15_AlignBest.j2 k a b o ((Mt a b lim).map p41) (cut a b lim) (pre a b : Int) z) true := by
      rintro z rfl
      refine evs ?_
      simp only [parallaxlaw15_AlignBest.j2, c, if_false]
      exact Best_loop a b lim o (by omega) (by omega) (by omega) (pre a b) 0 (Nat.zero_add _)
    refine evs ?_
    simp only [parallaxlaw15_AlignBest.j1]
    refine Ev.bind hp (Ev.bind hf ?_)
    simp only [c1, if_true, if_false]
    cases hc : cut a b lim with
    | true =>
      rw [hc] at j2
      simp only [if_true]
      rw [hc, if_pos rfl] at hlen
      exact j2 _ (by rw [List.length_map, hlen]; simp)
    | false =>
      rw [hc] at j2
      simp only [c, if_false]
      exact j2 _ rfl
  refine evs ?_
  simp only [parallaxlaw15_AlignBest.j0, c, if_false]
  refine Ev.bind (Match_ok a b lim (by omega) (by omega) l0 l1) (Ev.bind (refParting_ok a b (by omega) (by omega)) ?_)
  by_cases hq : pre a b = a.length ∧ pre a b = b.length
  · have e : Q.part a b = -1 := by unfold Q.part; rw [if_pos hq]
    have c3 := tt (show (-1 : Int) < 0 by decide)
    simp only [e, c3, if_true]
    exact key _ (congrArg _ hq.1.symm)
  · have e : Q.part a b = (pre a b : Int) := by unfold Q.part; rw [if_neg hq]
    have c3 := ff (show ¬ ((pre a b : Int) < 0) from Int.not_lt.2 (Int.natCast_nonneg _))
    simp only [e, c3, if_false]
    exact key _ rfl

end Go.Proofs.Ythbgbeelcnfofaa.Pure
