/- An instruction that can not be reached may be any that the table allows, at every input, without a condition. -/
import Derived.Test.YtdbpdcjlbopkbaaDoorPx0
import Derived.Test.YtdbpdcjlbopkbaaDoorPx26
import Derived.Test.YtdbpdcjlbopkbaaDoorPx27
import Derived.Test.YtdbpdcjlbopkbaaDoorPx9
import Derived.Test.YtdbpdcjlbopkbaaDoorQSound
-- use: QSound
namespace Go.Proofs.YtdbpdcjlbopkbaaDoor.Pure
set_option linter.unusedVariables false
set_option linter.unusedSimpArgs false
open Go.RowKit Go.Proofs.YtdbpdcjlbopkbaaDoor.P Go.Proofs.YtdbpdcjlbopkbaaDoorW.PrintWords Go.Proofs.YtdbpdcjlbopkbaaDoorW.PrintLast Go.Proofs.YtdbpdcjlbopkbaaDoorW.PrintMore Go.Proofs.YtdbpdcjlbopkbaaDoor.Q

theorem same_loop (l : List Int) (hl : l.length ≤ 1000000) : ∀ (d i : Nat), i + d = l.length → Ev (fun k => parallaxref06_SameInts.l0 k l l i) true := by
  intro d
  induction d with
  | zero =>
    intro i hi
    obtain rfl : i = l.length := by omega
    refine evs ?_
    have c1 := ff (Int.lt_irrefl (l.length : Int))
    simp only [parallaxref06_SameInts.l0, c1, if_false]
    exact Ev.now _
  | succ d ih =>
    intro i hi
    refine evs ?_
    have c1 := tt (show (i : Int) < (l.length : Int) by omega)
    have c2 := tt (show (0 : Int) ≤ (i : Int) by omega)
    have b1 : i + 1 ≤ 1000000000000 := by omega
    simp only [parallaxref06_SameInts.l0, c1, c2, if_true, wsucc b1]
    exact ih (i + 1) (by omega)
theorem same_ok (l : List Int) (hl : l.length ≤ 1000000) : Ev (fun k => parallaxref06_SameInts.f k l l) true := by
  unfold parallaxref06_SameInts.f
  simp only [if_true]
  exact same_loop l hl l.length 0 (by omega)
theorem Heights_out (l : List Cod) (k : Int) (hk : k < 0 ∨ (l.length : Int) ≤ k) : Ev (fun n => code_Heights.f n l k) ([], false) := by
  have jt : Ev (fun n => code_Heights.j0 n l k true) ([], false) := evs (by simp only [code_Heights.j0, if_true]; exact Ev.now _)
  unfold code_Heights.f
  by_cases h : k < 0
  · simp only [tt h, if_true]; exact jt
  · have d2 : decide (k ≥ (l.length : Int)) = true := decide_eq_true (by omega)
    simp only [ff h, if_false, d2]; exact jt
/-- Two nets that are one but for a place that can not be reached: a whole table of the one is one of the other. -/
theorem other_net {N M : Net} (hn : M.n = N.n) (h0 : 0 < N.n) {H : List Int} {x : Nat} (hx : x < N.n) (hlow : rd H x < 0) (hok : ∀ p h, p < N.n → p ≠ x → M.ok p h = N.ok p h) (hd : ∀ p h, p < N.n → p ≠ x → M.d p h = N.d p h) (hnx : ∀ p, p < N.n → p ≠ x → M.nx p = N.nx p)
    (hT : N.True_ H) (hW : N.Whole H) : M.True_ H ∧ M.Whole H := by
  have hr : ∀ {p h}, N.R p h → M.R p h := by
    intro p h hr
    induction hr with
    | zero => exact .zero
    | @step p h q hr hp hk hq ih =>
      obtain ⟨a, b, c⟩ := Net.reach h0 hT hW hr
      have hne : p ≠ x := by rintro rfl; omega
      rw [← hd p h hp hne]
      exact .step ih (by omega) (by rw [hok p h hp hne]; exact hk) (by rw [hnx p hp hne]; exact hq)
  refine ⟨⟨by rw [hn]; exact hT.len, hT.zero, fun p hp h => hr (hT.here p (by omega) h), fun p hp h => hT.away p (by omega) h⟩, fun p hp h => ?_⟩
  have hne : p ≠ x := by rintro rfl; omega
  obtain ⟨a, b⟩ := hW p (by omega) h
  refine ⟨by rw [hok p _ (by omega) hne]; exact a, fun q hq => ?_⟩
  rw [hnx p (by omega) hne] at hq
  obtain ⟨c, d, e⟩ := b q hq
  exact ⟨by rw [hn]; exact c, d, by rw [hd p _ (by omega) hne]; exact e⟩
theorem rdI_set (ins : List Ins) (x p : Nat) (i : Ins) (h : p ≠ x) : rdI (ins.set x i) (p : Int) = rdI ins (p : Int) := by
  simp [rdI, rd_T23, List.getD, List.getElem?_set_ne (fun e => h e.symm)]
theorem rdC_set_ne (l : List Cod) (k : Nat) (c : Cod) (i : Int) (h0 : 0 ≤ i) (h : i ≠ (k : Int)) : rdC (l.set k c) i = rdC l i := by
  obtain ⟨n, rfl⟩ : ∃ n : Nat, i = n := ⟨i.toNat, by omega⟩
  simp [rdC, rd_T33, List.getD, List.getElem?_set_ne (show k ≠ n by omega)]
theorem rdC_set_eq (l : List Cod) (k : Nat) (c : Cod) (h : k < l.length) : rdC (l.set k c) (k : Int) = c := by
  rw [rdC_at _ _ (by rw [List.length_set]; exact h)]; simp
theorem mv_other {l : List Cod} {k : Nat} {c : Cod} (hk : k < l.length) (ha : c.f3 = (rdC l k).f3) {n : Nat} {y : Ins} (hy : Valid l.length n y) : mv (l.set k c) y = mv l y := by
  unfold mv
  by_cases e : y.f0 = 19
  · obtain ⟨h0, h1, _⟩ := hy.call e
    by_cases e2 : y.f1 = (k : Int)
    · rw [e2, rdC_set_eq l k c hk, ha]
    · rw [rdC_set_ne l k c _ h0 e2]
  · rw [if_neg e, if_neg e]
theorem tells_idle {l : List Cod} {k : Nat} (hk : k < l.length) {H G : List Int} {x : Nat} {i : Ins} (hx : x < (rdC l k).f0.length) (hlow : rd H x < 0) (h : HTells l (rdC l k) (H, true))
    (g : HTells (l.set k ⟨(rdC l k).f0.set x i, (rdC l k).f1, (rdC l k).f2, (rdC l k).f3⟩) ⟨(rdC l k).f0.set x i, (rdC l k).f1, (rdC l k).f2, (rdC l k).f3⟩ (G, true)) : G = H := by
  rcases h with ⟨_, hs, hT, hW⟩ | ⟨h, _⟩
  · rcases g with ⟨_, gs, gT, gW⟩ | ⟨g, _⟩
    · have hv := shape_valid hs
      have gv := shape_valid gs
      have h0 : 0 < (net l (rdC l k).f0 hv).n := hs.1.1
      have hlen : ((rdC l k).f0.set x i).length = (rdC l k).f0.length := List.length_set
      have hI : ∀ p : Nat, p ≠ x → rdI ((rdC l k).f0.set x i) (p : Int) = rdI (rdC l k).f0 (p : Int) := fun p hp => rdI_set _ _ _ _ hp
      have hm : ∀ p : Nat, p < (rdC l k).f0.length → p ≠ x → mv (l.set k ⟨(rdC l k).f0.set x i, (rdC l k).f1, (rdC l k).f2, (rdC l k).f3⟩) (rdI ((rdC l k).f0.set x i) (p : Int)) = mv l (rdI (rdC l k).f0 (p : Int)) := fun p hp hne => by
        rw [hI p hne]
        exact mv_other (c := ⟨(rdC l k).f0.set x i, (rdC l k).f1, (rdC l k).f2, (rdC l k).f3⟩) hk rfl (hv p hp)
      have hN := other_net (N := net l (rdC l k).f0 hv) (M := net _ _ gv) hlen h0 hx hlow
        (fun p h hp hne => by show okH _ _ _ = okH _ _ _; unfold okH; rw [hm p hp hne, hI p hne])
        (fun p h hp hne => by show h - _ + _ = h - _ + _; rw [hm p hp hne])
        (fun p hp hne => by show nxt _ _ = nxt _ _; rw [hI p hne]) hT hW
      exact Net.unique (N := net _ _ gv) gs.1.1 gT gW hN.1 hN.2
    · have := congrArg Prod.snd g; cases this
  · have := congrArg Prod.snd h; cases this
theorem CodeIdle : parallaxlaw08_CodeIdle.Pure := by
  intro l a x i0 i1 i2 hl ha hx hi0 hi1 hi2
  have hlen : l.length * 48 ≤ 140737488351232 := hl.1
  refine Ev.rounds ?_
  unfold parallaxlaw08_CodeIdle.f
  have hf : FitC l := fun y hy => (hl.2 y hy).1.2
  have hb : ∀ y ∈ l, y.f0.length ≤ 1000000000000000 := fun y hy => by have := (hl.2 y hy).1.1; omega
  obtain ⟨g, hg⟩ := great_ok l (by omega) hb
  obtain ⟨s, hs⟩ := Size_ok l (by omega) hb 70000 (by omega)
  have c3' := ff (show ¬ (false = true) by decide)
  have kt : Ev (fun k => parallaxlaw08_CodeIdle.j0 k l a x true i0 i1 i2) true := evs (by simp only [parallaxlaw08_CodeIdle.j0, if_true]; exact known_fin)
  have jt : ∀ h, Ev (fun k => parallaxlaw08_CodeIdle.j1 k l a x h true i0 i1 i2) true := fun h => evs (by simp only [parallaxlaw08_CodeIdle.j1, if_true]; exact known_fin)
  have kf : Ev (fun k => parallaxlaw08_CodeIdle.j0 k l a x false i0 i1 i2) true := by
    refine evs ?_
    simp only [parallaxlaw08_CodeIdle.j0, c3', if_false]
    by_cases hk : a < 0 ∨ (l.length : Int) ≤ a
    · refine Ev.bind (Heights_out l a hk) ?_
      simp only [c3', if_false]
      exact jt _
    obtain ⟨k, rfl⟩ : ∃ k : Nat, a = k := ⟨a.toNat, by omega⟩
    have hkl : k < l.length := by omega
    obtain ⟨⟨H, ok⟩, h1, _, h3⟩ := Heights_both l hf k hkl
    refine Ev.bind h1 ?_
    cases ok with
    | false => simp only [c3', if_false]; exact jt _
    | true =>
      simp only [if_true]
      by_cases x0 : x < 0
      · simp only [tt x0, if_true]; exact jt _
      by_cases x1 : x ≥ (H.length : Int)
      · simp only [ff x0, tt x1, if_true, if_false]; exact jt _
      obtain ⟨y, rfl⟩ : ∃ y : Nat, x = y := ⟨x.toNat, by omega⟩
      have d1 := tt (show (0 : Int) ≤ (y : Int) by omega)
      have d2 := tt (show (y : Int) < (H.length : Int) by omega)
      simp only [ff x0, ff x1, if_false, d1, d2, if_true]
      by_cases hlow : rd H (y : Int) ≥ 0
      · rw [decide_eq_true hlow]; exact jt _
      rw [decide_eq_false hlow]
      have hlenH : H.length = (rdC l k).f0.length ∧ (rdC l k).f0.length ≤ 65536 := by
        rcases h3 with ⟨_, hs, hT, _⟩ | ⟨h, _⟩
        · exact ⟨hT.len, hs.1.2.1⟩
        · have := congrArg Prod.snd h; cases this
      refine evs ?_
      have e1 := tt (show (0 : Int) ≤ (k : Int) by omega)
      have e2 := tt (show (k : Int) < (l.length : Int) by omega)
      have e3 := tt (show (H.length : Int) = ((rd_T33 l (k : Int)).f0.length : Int) from by rw [hlenH.1])
      have e4 := tt (show ([] : List Cod).length + l.length < 2932031007402 by simp only [List.length_nil]; omega)
      have e5 := tt (show ([] : List Ins).length + (rd_T33 l (k : Int)).f0.length < 5864062014805 by
        have := hlenH.2
        rw [show (rd_T33 l (k : Int)) = rdC l k from rfl]
        simp only [List.length_nil]; omega)
      have e6 := tt (show (y : Int) < ((rd_T33 l (k : Int)).f0.length : Int) from by
        rw [show (rd_T33 l (k : Int)) = rdC l k from rfl, ← hlenH.1]; omega)
      simp only [parallaxlaw08_CodeIdle.j1, c3', if_false, e1, e2, e3, e4, e5, e6, d1, if_true, Option.bind_some, List.nil_append, Int.toNat_natCast]
      have hi : ∀ z ∈ (rdC l k).f0.set y (⟨i0, i1, i2⟩ : Ins), (Lit.int .i64 z.f0).wf = true ∧ ((Lit.int .i64 z.f1).wf = true ∧ (Lit.int .i64 z.f2).wf = true) := fun z hz => by
        rcases List.mem_or_eq_of_mem_set hz with hz | rfl
        · exact fit_at hf k hkl z hz
        · exact ⟨hi0, hi1, hi2⟩
      have hfo : FitC (l.set k (⟨(rdC l k).f0.set y (⟨i0, i1, i2⟩ : Ins), (rdC l k).f1, (rdC l k).f2, (rdC l k).f3⟩ : Cod)) := fun z hz => by
        rcases List.mem_or_eq_of_mem_set hz with hz | rfl
        · exact hf z hz
        · exact hi
      obtain ⟨⟨G, is⟩, r1, r2, r3⟩ := Heights_both _ hfo k (by rw [List.length_set]; exact hkl)
      rw [rdC_set_eq l k _ hkl] at r3
      refine Ev.bind r1 (Ev.bind r2 ?_)
      have eb : (is == is) = true := by simp
      simp only [eb, if_true]
      cases is with
      | false => simp only [c3', if_false]; exact known_fin
      | true =>
        have hGH : G = H := tells_idle hkl (by omega) (by omega) h3 r3
        subst hGH
        simp only [if_true]
        refine Ev.bind (same_ok G (by omega)) ?_
        simp only [if_true]
        exact known_fin
  refine Ev.bind hg ?_
  cases g with
  | true => simp only [if_true]; exact kt
  | false =>
    simp only [c3', if_false]
    refine Ev.bind hs ?_
    cases decide (s > 70000) with
    | true => exact kt
    | false => exact kf
end Go.Proofs.YtdbpdcjlbopkbaaDoor.Pure
