/- Both programs tell alike the regions and the hunks of any pairs. -/
import Derived.Test.YthbgbeelcnfofaaPx0
import Derived.Test.YthbgbeelcnfofaaPx15
import Derived.Test.YthbgbeelcnfofaaPx16
import Derived.Test.YthbgbeelcnfofaaQRefHunks
import Derived.Test.YthbgbeelcnfofaaQOwn
import Derived.Test.YthbgbeelcnfofaaQKnown15
-- use: QRefHunks
-- use: QOwn
-- use: QKnown15
namespace Go.Proofs.Ythbgbeelcnfofaa.Pure
set_option linter.unusedVariables false
set_option linter.unusedSimpArgs false
open Go.RowKit Go.Proofs.Ythbgbeelcnfofaa.P Go.Proofs.YthbgbeelcnfofaaW.PrintWords Go.Proofs.YthbgbeelcnfofaaW.PrintLast Go.Proofs.YthbgbeelcnfofaaW.PrintMore Go.Proofs.Ythbgbeelcnfofaa.Q

theorem rd49_get (l : List S49) (i : Nat) (h : i < l.length) : rd_T49 l (i : Int) = l[i] := by simp [rd_T49, List.getD, h]
theorem regions_loop (l : List S49) (hl : l.length ≤ 1000000) : ∀ (d i : Nat), i + d = l.length → Ev (fun k => parallaxlaw15_regions.l0 k l ((l.take i).map o60) (i : Int)) (l.map o60) := by
  intro d
  induction d with
  | zero =>
    intro i hi
    obtain rfl : i = l.length := by omega
    rw [List.take_length]
    have c1 := ff (Int.lt_irrefl (l.length : Int))
    refine evs ?_
    simp only [parallaxlaw15_regions.l0, c1, if_false]
    exact Ev.now _
  | succ d ih =>
    intro i hi
    have := ih (i + 1) (by omega)
    rw [List.take_succ_eq_append_getElem (show i < l.length by omega), List.map_append] at this
    have c1 := tt (show (i : Int) < (l.length : Int) by omega)
    have c2 := tt (show (0 : Int) ≤ (i : Int) by omega)
    have c3 := tt (show ((l.take i).map o60).length < 4398046511104 by rw [List.length_map, List.length_take]; omega)
    have b1 : i + 1 ≤ 1000000000000 := by omega
    have hr := rd49_get l i (by omega)
    refine evs ?_
    simp only [parallaxlaw15_regions.l0, c1, c2, c3, wsucc b1, hr, if_true]
    exact this
theorem regions_ok (l : List S49) (hl : l.length ≤ 1000000) : Ev (fun k => parallaxlaw15_regions.f k l) (l.map o60) := regions_loop l hl l.length 0 (Nat.zero_add _)
theorem sameR_loop (l : List S60) (hl : l.length ≤ 1000000) : ∀ (d i : Nat), i + d = l.length → Ev (fun k => parallaxref15_SameRegions.l0 k l l (i : Int)) true := by
  intro d
  induction d with
  | zero =>
    intro i hi
    obtain rfl : i = l.length := by omega
    have c1 := ff (Int.lt_irrefl (l.length : Int))
    refine evs ?_
    simp only [parallaxref15_SameRegions.l0, c1, if_false]
    exact Ev.now _
  | succ d ih =>
    intro i hi
    have := ih (i + 1) (by omega)
    have c1 := tt (show (i : Int) < (l.length : Int) by omega)
    have c2 := tt (show (0 : Int) ≤ (i : Int) by omega)
    have b1 : i + 1 ≤ 1000000000000 := by omega
    refine evs ?_
    simp only [parallaxref15_SameRegions.l0, c1, c2, wsucc b1, beq_self_eq_true, Bool.not_true, Bool.or_self, Bool.false_eq_true, if_true, if_false]
    exact this
theorem sameR_ok (l : List S60) (hl : l.length ≤ 1000000) : Ev (fun k => parallaxref15_SameRegions.f k l l) true := by
  unfold parallaxref15_SameRegions.f
  simp only [if_true]
  exact sameR_loop l hl l.length 0 (Nat.zero_add _)
theorem hunks_length (n m C : Int) (G : List S49) : (hunks n m C G).length ≤ G.length := by
  cases G with
  | nil => simp [hunks]
  | cons r rs =>
    have := Mg_length (2 * C) rs r
    simpa [hunks] using this

theorem AlignRegions : parallaxlaw15_AlignRegions.Pure := by
  intro n m l c hn hm _ hc
  obtain ⟨n0, n1⟩ := wf64 hn
  obtain ⟨m0, m1⟩ := wf64 hm
  obtain ⟨c0, c1⟩ := wf64 hc
  refine Ev.rounds ?_
  unfold parallaxlaw15_AlignRegions.f
  have jt : Ev (fun k => parallaxlaw15_AlignRegions.j0 k n m l c true) true := by
    refine evs ?_
    simp only [parallaxlaw15_AlignRegions.j0, if_true]
    exact known_fin
  by_cases hl : (l.length : Int) > 300
  · simp only [tt hl, if_true]
    exact jt
  by_cases h1 : n > 3000
  · simp only [ff hl, tt h1, if_true, if_false]
    exact jt
  simp only [ff hl, ff h1, if_false]
  by_cases h2 : m > 3000
  · rw [decide_eq_true h2]
    exact jt
  rw [decide_eq_false h2]
  have cf := ff (show ¬ (false = true) by decide)
  have hlen : (l.map o41).length ≤ 300 := by rw [List.length_map]; omega
  have rl := regs_len n m (l.map o41) 0 0
  have hh := hunks_length n m (mi c n) (regs n m 0 0 (l.map o41))
  have A := Regions_ok n m (l.map o41) n1 m1 (by omega)
  have B := refRegions_ok n m l (by omega) (by omega) (by omega)
  have C := ownHunks_ok n m c (l.map o41) (by omega) (by omega) c1 (by omega)
  have D := refHunks_ok n m c l (by omega) (by omega) c1 (by omega)
  have la : (if wrong n m (l.map o41) = 0 then regs n m 0 0 (l.map o41) else []).length ≤ 1000 := by
    split
    · omega
    · simp
  have lb : (if hunksErr n m c (l.map o41) = 0 then hunks n m (mi c n) (regs n m 0 0 (l.map o41)) else []).length ≤ 1000 := by
    split
    · omega
    · simp
  generalize (if wrong n m (l.map o41) = 0 then regs n m 0 0 (l.map o41) else []) = X at A B la
  generalize (if hunksErr n m c (l.map o41) = 0 then hunks n m (mi c n) (regs n m 0 0 (l.map o41)) else []) = Y at C D lb
  generalize wrong n m (l.map o41) = e1 at A B
  generalize hunksErr n m c (l.map o41) = e2 at C D
  have ow := own_ok l (by omega)
  refine evs ?_
  simp only [parallaxlaw15_AlignRegions.j0, cf, if_false]
  refine Ev.bind ow (Ev.bind A (Ev.bind B (Ev.bind ow (Ev.bind C (Ev.bind D (Ev.bind (regions_ok X (by omega)) (Ev.bind (sameR_ok _ (by rw [List.length_map]; omega)) ?_)))))))
  simp only [if_true]
  refine Ev.bind (regions_ok Y (by omega)) (Ev.bind (sameR_ok _ (by rw [List.length_map]; omega)) ?_)
  simp only [if_true]
  exact known_fin

end Go.Proofs.Ythbgbeelcnfofaa.Pure
