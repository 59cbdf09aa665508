/- Sound codes stay sound with one more behind them that is sound among them, at every input, without a condition. -/
import Derived.Test.YtdbpdcjlbopkbaaDoorPx0
import Derived.Test.YtdbpdcjlbopkbaaDoorPx25
import Derived.Test.YtdbpdcjlbopkbaaDoorQSound
-- use: QSound
namespace Go.Proofs.YtdbpdcjlbopkbaaDoor.Pure
set_option linter.unusedVariables false
set_option linter.unusedSimpArgs false
open Go.RowKit Go.Proofs.YtdbpdcjlbopkbaaDoor.P Go.Proofs.YtdbpdcjlbopkbaaDoorW.PrintWords Go.Proofs.YtdbpdcjlbopkbaaDoorW.PrintLast Go.Proofs.YtdbpdcjlbopkbaaDoorW.PrintMore Go.Proofs.YtdbpdcjlbopkbaaDoor.Q

theorem rdC_more (l : List Cod) (c : Cod) (i : Int) (h0 : 0 ≤ i) (h1 : i < (l.length : Int)) : rdC (l ++ [c]) i = rdC l i := by
  obtain ⟨n, rfl⟩ : ∃ n : Nat, i = n := ⟨i.toNat, by omega⟩
  rw [rdC_at _ _ (by simp; omega), rdC_at _ _ (by omega), List.getElem_append_left (by omega)]
theorem may_more {l : List Cod} {c : Cod} {ins : List Ins} {cells : Int} {ans : Bool} {op f1 f2 : Int} (h : May l ins cells ans op f1 f2) : May (l ++ [c]) ins cells ans op f1 f2 := by
  obtain ⟨hf, hr⟩ := h
  refine ⟨hf, ?_⟩
  by_cases e : op = 19
  · subst e
    simp only [MayRest] at hr ⊢
    simp only [show ¬ ((19 : Int) = 2 ∨ (19 : Int) = 3) by decide, show ¬ ((19 : Int) = 4 ∨ (19 : Int) = 5 ∨ (19 : Int) = 6) by decide, show ¬ ((19 : Int) = 17 ∨ (19 : Int) = 18) by decide, if_true, if_false, decide_eq_true_eq] at hr ⊢
    obtain ⟨a, b, c', d, e⟩ := hr
    rw [rdC_more l c f1 a b]
    exact ⟨a, by simp only [List.length_append, List.length_cons, List.length_nil]; omega, c', d, e⟩
  · have : MayRest (l ++ [c]) ins.length cells ans op f1 f2 = MayRest l ins.length cells ans op f1 f2 := by
      unfold MayRest
      simp only [if_neg e]
    rw [this]; exact hr
theorem mv_more {l : List Cod} {c : Cod} {n : Nat} {x : Ins} (h : Valid l.length n x) : mv (l ++ [c]) x = mv l x := by
  unfold mv
  by_cases e : x.f0 = 19
  · obtain ⟨a, b, _⟩ := h.call e
    rw [rdC_more l c x.f1 a b]
  · rw [if_neg e, if_neg e]
theorem net_more (l : List Cod) (c : Cod) (ins : List Ins) (hv : ∀ p, p < ins.length → Valid l.length ins.length (rdI ins p)) (hv' : ∀ p, p < ins.length → Valid (l ++ [c]).length ins.length (rdI ins p)) : net (l ++ [c]) ins hv' = net l ins hv := by
  have hm : ∀ p : Nat, mv (l ++ [c]) (rdI ins p) = mv l (rdI ins p) := fun p => by
    by_cases hp : p < ins.length
    · exact mv_more (hv p hp)
    · have : rdI ins (p : Int) = z23 := by
        unfold rdI rd_T23
        rw [List.getD_eq_getElem?_getD, List.getElem?_eq_none (by omega)]
        rfl
      rw [this]
      rfl
  unfold net
  have e1 : (fun (p : Nat) h => okH (l ++ [c]) (rdI ins p) h) = fun (p : Nat) h => okH l (rdI ins p) h := by
    funext p h
    unfold okH
    rw [hm p]
  have e2 : (fun (p : Nat) (h : Int) => h - (mv (l ++ [c]) (rdI ins p)).1 + (mv (l ++ [c]) (rdI ins p)).2) = fun (p : Nat) (h : Int) => h - (mv l (rdI ins p)).1 + (mv l (rdI ins p)).2 := by
    funext p h
    rw [hm p]
  simp only [Net.mk.injEq]
  exact ⟨trivial, e1, e2, trivial⟩
theorem tells_more {l : List Cod} {c x : Cod} {t : List Int × Bool} (h : HTells l x t) (ht : t.2 = true) : HTells (l ++ [c]) x t := by
  rcases h with ⟨_, hs, hT, hW⟩ | ⟨rfl, _⟩
  · have hs' : Shape (l ++ [c]) x := ⟨hs.1, fun y hy => may_more (hs.2 y hy)⟩
    refine .inl ⟨ht, hs', ?_⟩
    rw [net_more l c x.f0 (shape_valid hs) (shape_valid hs')]
    exact ⟨hT, hW⟩
  · cases ht
theorem CodeMore : parallaxlaw08_CodeMore.Pure := by
  intro l m ins c1 c2 c3 hl hm hins hc1 hc2
  have hlen : l.length * 48 ≤ 140737488351232 := hl.1
  refine Ev.rounds ?_
  unfold parallaxlaw08_CodeMore.f
  have d1 := tt (show ([] : List Cod).length + l.length < 2932031007402 by simp only [List.length_nil]; omega)
  have d2 := tt (show l.length + ([(⟨ins, c1, c2, c3⟩ : Cod)] : List Cod).length < 2932031007402 by simp only [List.length_cons, List.length_nil]; omega)
  simp only [d1, if_true, Option.bind_some, List.nil_append, d2]
  have hf0 : FitC l := fun x hx => (hl.2 x hx).1.2
  have hf : FitC (l ++ [(⟨ins, c1, c2, c3⟩ : Cod)]) := fun x hx => by
    rcases List.mem_append.1 hx with hx | hx
    · exact hf0 x hx
    · simp at hx; subst hx; exact hins.2
  have hlen' : (l ++ [(⟨ins, c1, c2, c3⟩ : Cod)]).length ≤ 10000000000000 := by simp only [List.length_append, List.length_cons, List.length_nil]; omega
  have hb : ∀ x ∈ l ++ [(⟨ins, c1, c2, c3⟩ : Cod)], x.f0.length ≤ 1000000000000000 := fun x hx => by
    rcases List.mem_append.1 hx with hx | hx
    · have := (hl.2 x hx).1.1; omega
    · simp at hx; subst hx; have := hins.1; simp only []; omega
  have hat : rdC (l ++ [(⟨ins, c1, c2, c3⟩ : Cod)]) ((l.length : Nat) : Int) = ⟨ins, c1, c2, c3⟩ := by rw [rdC_at _ _ (by simp)]; simp
  have hlm : (l ++ [(⟨ins, c1, c2, c3⟩ : Cod)]).length = l.length + 1 := by simp
  have hmore : ∀ k : Nat, k < l.length → rdC (l ++ [(⟨ins, c1, c2, c3⟩ : Cod)]) k = rdC l k := fun k hk => rdC_more l _ k (by omega) (by omega)
  have htell := fun (x : Cod) t (h : HTells l x t) ht => tells_more (c := (⟨ins, c1, c2, c3⟩ : Cod)) h ht
  generalize l ++ [(⟨ins, c1, c2, c3⟩ : Cod)] = more at hf hlen' hb hat hlm hmore htell ⊢
  have kt : Ev (fun k => parallaxlaw08_CodeMore.j0 k l m more true) true := evs (by simp only [parallaxlaw08_CodeMore.j0, if_true]; exact known_fin)
  obtain ⟨g, hg⟩ := great_ok more hlen' hb
  obtain ⟨s, hs⟩ := Size_ok more hlen' hb 70000 (by omega)
  have c3' := ff (show ¬ (false = true) by decide)
  refine Ev.bind hg ?_
  cases g with
  | true => simp only [if_true]; exact kt
  | false =>
    simp only [c3', if_false]
    refine Ev.bind hs ?_
    by_cases h1 : s > 70000
    · simp only [tt h1, if_true]; exact kt
    by_cases h2 : (more.length : Int) > 40
    · simp only [ff h1, tt h2, if_true, if_false]; exact kt
    simp only [ff h1, ff h2, if_false]
    obtain ⟨r, r1, _, r3⟩ := Sound_both l hf0 m
    refine Ev.bind r1 ?_
    cases r with
    | false => exact kt
    | true =>
      have hS := r3.1 rfl
      obtain ⟨q, q1, _, q3⟩ := Sound_both more hf m
      obtain ⟨t, t1, _, t3⟩ := Heights_both more hf l.length (by omega)
      have key : (q == t.2) = true := by
        have : q = true ↔ t.2 = true := by
          rw [q3]
          constructor
          · intro h
            obtain ⟨u, u1, u2⟩ := h.2 l.length (by omega)
            rw [tells_same t3 u1]; exact u2
          · intro h
            obtain ⟨⟨a, b, c, d, e, f⟩, hk⟩ := hS
            have hmm : rdC more m = rdC l m := by
              obtain ⟨n, rfl⟩ : ∃ n : Nat, m = n := ⟨m.toNat, by omega⟩
              exact hmore n (by omega)
            refine ⟨⟨by omega, by omega, c, by omega, by rw [hmm]; exact e, by rw [hmm]; exact f⟩, fun k hk2 => ?_⟩
            by_cases e2 : k < l.length
            · obtain ⟨u, u1, u2⟩ := hk k e2
              exact ⟨u, by rw [hmore k e2]; exact htell _ u u1 u2, u2⟩
            · obtain rfl : k = l.length := by omega
              exact ⟨t, t3, h⟩
        cases q <;> cases t2 : t.2 <;> simp_all
      refine evs ?_
      simp only [parallaxlaw08_CodeMore.j0, Bool.not_true, c3', if_false]
      refine Ev.bind t1 (Ev.bind q1 ?_)
      simp only [tt key, if_true]
      exact known_fin
end Go.Proofs.YtdbpdcjlbopkbaaDoor.Pure
