/- Both programs find the least matching: from the table on. -/
import Derived.Test.YthbgbeelcnfofaaPx0
import Derived.Test.YthbgbeelcnfofaaPx5
import Derived.Test.YthbgbeelcnfofaaPx6
import Derived.Test.YthbgbeelcnfofaaPx7
import Derived.Test.YthbgbeelcnfofaaQBits
import Derived.Test.YthbgbeelcnfofaaQTab
-- use: QBits
-- use: QTab
namespace Go.Proofs.Ythbgbeelcnfofaa.Q
set_option linter.unusedVariables false
set_option linter.unusedSimpArgs false
open Go.RowKit Go.Proofs.YthbgbeelcnfofaaW.PrintWords Go.Proofs.YthbgbeelcnfofaaW.PrintLast Go.Proofs.YthbgbeelcnfofaaW.PrintMore Go.Proofs.Ythbgbeelcnfofaa.P

theorem find_row (a b : List S24) (ha : a.length ≤ 1000) (hb : b.length ≤ 1000) (v j0 i : Nat) (hi : i < a.length) : ∀ (d j : Nat), j + d = b.length →
    (∀ h, hit (rd_T24 a (i : Int)) (a.drop (i + 1)) (b.drop j) v = some h → Ev (fun k => align_find.l1 k a b (j0 : Int) (v : Int) i j ((b.length : Int) + 1) (Tab a b).flatten) ((i : Int), ((j + h : Nat) : Int), (b.length : Int) + 1)) ∧
    (hit (rd_T24 a (i : Int)) (a.drop (i + 1)) (b.drop j) v = none → ∀ r, Ev (fun k => align_find.l0 k a b (j0 : Int) (v : Int) ((i + 1 : Nat) : Int) ((b.length : Int) + 1) (Tab a b).flatten) r → Ev (fun k => align_find.l1 k a b (j0 : Int) (v : Int) i j ((b.length : Int) + 1) (Tab a b).flatten) r) := by
  intro d
  induction d with
  | zero =>
    intro j hj
    have e1 : wrap64 ((i : Int) + 1) = ((i + 1 : Nat) : Int) := by rw [w64 (by omega) (by omega)]; rfl
    obtain rfl : j = b.length := by omega
    rw [List.drop_length]
    have c1 := ff (Int.lt_irrefl (b.length : Int))
    refine ⟨(fun h e => by cases e), fun _ r hr => evs ?_⟩
    simp only [align_find.l1, c1, if_false, e1]
    exact hr
  | succ d ih =>
    intro j hj
    have c1 := tt (show (j : Int) < (b.length : Int) by omega)
    have c2 := tt (show (0 : Int) ≤ i by omega)
    have c3 := tt (show (i : Int) < (a.length : Int) by omega)
    have c4 := tt (show (0 : Int) ≤ j by omega)
    obtain ⟨ih1, ih2⟩ := ih (j + 1) (by omega)
    have ht := table_at_ok a b ha hb (i + 1) (j + 1) (by omega) (by omega)
    have hl := L_le (a.drop (i + 1)) (b.drop (j + 1))
    simp only [List.length_drop] at hl
    have e3 : wrap64 ((L (a.drop (i + 1)) (b.drop (j + 1)) : Int) + 1) = ((L (a.drop (i + 1)) (b.drop (j + 1)) + 1 : Nat) : Int) := by rw [w64 (by omega) (by omega)]; exact (Int.natCast_succ _).symm
    have e1 : wrap64 ((i : Int) + 1) = ((i + 1 : Nat) : Int) := by rw [w64 (by omega) (by omega)]; rfl
    have e2 : wrap64 ((j : Int) + 1) = ((j + 1 : Nat) : Int) := by rw [w64 (by omega) (by omega)]; rfl
    rw [drop24 b j (by clear e1 e2 e3 ht; omega)]
    unfold hit
    generalize L (a.drop (i + 1)) (b.drop (j + 1)) = l at ht hl e3 ⊢
    by_cases hxy : rd_T24 a (i : Int) = rd_T24 b (j : Int)
    · have c5 := tt (show (((rd_T24 a (i : Int)).f0 == (rd_T24 b (j : Int)).f0 && ((rd_T24 a (i : Int)).f1 == (rd_T24 b (j : Int)).f1)) = true) from (eqv_iff _ _).2 hxy)
      by_cases hv : l + 1 = v
      · rw [if_pos ⟨hxy, hv⟩]
        refine ⟨fun h e => ?_, (fun e => by cases e)⟩
        injection e with e
        subst e
        refine evs ?_
        have c6 := tt (show ((l + 1 : Nat) : Int) = (v : Int) from congrArg _ hv)
        simp only [align_find.l1, c1, c2, c3, c4, c5, e1, e2, ht, if_true]
        refine Ev.bind (Ev.now _) ?_
        simp only [e3, c6, if_true]
        exact Ev.now _
      · rw [if_neg (fun h => hv h.2)]
        have c6 := ff (show ¬ ((l + 1 : Nat) : Int) = (v : Int) from fun h => hv (Int.natCast_inj.1 h))
        have st : ∀ r, Ev (fun k => align_find.l1 k a b (j0 : Int) (v : Int) i ((j + 1 : Nat) : Int) ((b.length : Int) + 1) (Tab a b).flatten) r → Ev (fun k => align_find.l1 k a b (j0 : Int) (v : Int) i j ((b.length : Int) + 1) (Tab a b).flatten) r := by
          intro r hr
          refine evs ?_
          simp only [align_find.l1, c1, c2, c3, c4, c5, e1, e2, ht, if_true]
          refine Ev.bind (Ev.now _) ?_
          simp only [e3, c6, if_false]
          exact hr
        refine ⟨fun h e => ?_, fun e r hr => st r (ih2 (by simpa using e) r hr)⟩
        obtain ⟨g, hg, rfl⟩ := Option.map_eq_some_iff.1 e
        have := st _ (ih1 g hg)
        rwa [Nat.add_assoc, Nat.add_comm 1 g] at this
    · have c5 := ff (show ¬ (((rd_T24 a (i : Int)).f0 == (rd_T24 b (j : Int)).f0 && ((rd_T24 a (i : Int)).f1 == (rd_T24 b (j : Int)).f1)) = true) from fun h2 => hxy ((eqv_iff _ _).1 h2))
      rw [if_neg (fun h => hxy h.1)]
      have st : ∀ r, Ev (fun k => align_find.l1 k a b (j0 : Int) (v : Int) i ((j + 1 : Nat) : Int) ((b.length : Int) + 1) (Tab a b).flatten) r → Ev (fun k => align_find.l1 k a b (j0 : Int) (v : Int) i j ((b.length : Int) + 1) (Tab a b).flatten) r := by
        intro r hr
        refine evs ?_
        simp only [align_find.l1, c1, c2, c3, c4, c5, e2, if_true, if_false]
        exact hr
      refine ⟨fun h e => ?_, fun e r hr => st r (ih2 (by simpa using e) r hr)⟩
      obtain ⟨g, hg, rfl⟩ := Option.map_eq_some_iff.1 e
      have := st _ (ih1 g hg)
      rwa [Nat.add_assoc, Nat.add_comm 1 g] at this
theorem find_ok (a b : List S24) (ha : a.length ≤ 1000) (hb : b.length ≤ 1000) (v j0 : Nat) (hj0 : j0 ≤ b.length) (hv : 0 < v) : ∀ (d i : Nat), i + d = a.length → L (a.drop i) (b.drop j0) = v →
    ∃ i' j' : Nat, i ≤ i' ∧ i' < a.length ∧ j' < b.length ∧ Ev (fun k => align_find.l0 k a b (j0 : Int) (v : Int) i ((b.length : Int) + 1) (Tab a b).flatten) ((i' : Int), (j' : Int), (b.length : Int) + 1) ∧
      ∀ c, G (a.drop i) (b.drop j0) (c + i) (c + j0) = (c + i', c + j') :: G (a.drop (i' + 1)) (b.drop (j' + 1)) (c + (i' + 1)) (c + (j' + 1)) := by
  intro d
  induction d with
  | zero =>
    intro i hi h
    rw [List.drop_of_length_le (by omega), L_nil] at h
    omega
  | succ d ih =>
    intro i hi h
    have hd := drop24 a i (by omega)
    have c1 := tt (show (i : Int) < (a.length : Int) by omega)
    obtain ⟨r1, r2⟩ := find_row a b ha hb v j0 i (by omega) (b.length - j0) j0 (by omega)
    have step : ∀ r, Ev (fun k => align_find.l1 k a b (j0 : Int) (v : Int) i (j0 : Int) ((b.length : Int) + 1) (Tab a b).flatten) r → Ev (fun k => align_find.l0 k a b (j0 : Int) (v : Int) i ((b.length : Int) + 1) (Tab a b).flatten) r := by
      intro r hr
      refine evs ?_
      simp only [align_find.l0, c1, if_true]
      exact hr
    rw [hd] at h
    cases e : hit (rd_T24 a (i : Int)) (a.drop (i + 1)) (b.drop j0) v with
    | some g =>
      obtain ⟨g1, g2, g3⟩ := hit_some _ _ _ _ _ e
      rw [List.length_drop] at g1
      refine ⟨i, j0 + g, Nat.le_refl _, by omega, by omega, step _ (r1 g e), fun c => ?_⟩
      rw [hd]
      conv => lhs; unfold G
      rw [if_neg (by omega), h, e]
      simp only [List.drop_drop]
      rw [show c + j0 + g = c + (j0 + g) by omega, show j0 + (g + 1) = j0 + g + 1 by omega, show c + i + 1 = c + (i + 1) by omega, show c + (j0 + g) + 1 = c + (j0 + g + 1) by omega]
    | none =>
      have e' := e
      rw [← h] at e'
      have hn := hit_none _ _ _ e'
      obtain ⟨i', j', q1, q2, q3, q4, q5⟩ := ih (i + 1) (by omega) (by rw [← hn]; exact h)
      refine ⟨i', j', by omega, q2, q3, step _ (r2 e _ q4), fun c => ?_⟩
      rw [hd]
      conv => lhs; unfold G
      rw [if_neg (by omega), h, e]
      exact q5 c
def p41 (p : Nat × Nat) : S41 := ⟨(p.1 : Int), (p.2 : Int)⟩
def p67 (p : Nat × Nat) : S67 := ⟨(p.1 : Int), (p.2 : Int)⟩
theorem least_loop (a b : List S24) (ha : a.length ≤ 1000) (hb : b.length ≤ 1000) (c : Nat) (hc : c ≤ 1000) : ∀ (d i j : Nat) (out : List S41), a.length - i ≤ d → i ≤ a.length → j ≤ b.length → out.length ≤ 2000 + i →
    Ev (fun k => align_least.l0 k a b (c : Int) out i j ((b.length : Int) + 1) (Tab a b).flatten) (out ++ (G (a.drop i) (b.drop j) (c + i) (c + j)).map p41) := by
  intro d
  induction d with
  | zero =>
    intro i j out hd hi hj ho
    have ht := table_at_ok a b ha hb i j hi hj
    have h0 : L (a.drop i) (b.drop j) = 0 := by rw [List.drop_of_length_le (by omega), L_nil]
    rw [h0] at ht
    rw [G_zero _ _ _ _ h0]
    refine evs ?_
    have c1 := ff (show ¬ (((0 : Nat) : Int) > 0) by omega)
    simp only [align_least.l0, ht, List.map_nil, List.append_nil]
    refine Ev.bind (Ev.now _) ?_
    simp only [c1, if_false]
    exact Ev.now _
  | succ d ih =>
    intro i j out hd hi hj ho
    have ht := table_at_ok a b ha hb i j hi hj
    by_cases h0 : L (a.drop i) (b.drop j) = 0
    · rw [h0] at ht
      rw [G_zero _ _ _ _ h0]
      refine evs ?_
      have c1 := ff (show ¬ (((0 : Nat) : Int) > 0) by omega)
      simp only [align_least.l0, ht, List.map_nil, List.append_nil]
      refine Ev.bind (Ev.now _) ?_
      simp only [c1, if_false]
      exact Ev.now _
    · obtain ⟨l, hl⟩ : ∃ l, L (a.drop i) (b.drop j) = l := ⟨_, rfl⟩
      obtain ⟨i', j', q1, q2, q3, q4, q5⟩ := find_ok a b ha hb l j hj (by omega) (a.length - i) i (by omega) hl
      rw [hl] at ht h0
      clear hl
      have c1 := tt (show ((l : Int) > 0) by omega)
      have c2 := tt (show out.length < 8796093022208 by omega)
      have b1 : c + i' ≤ 1000000000000 := by omega
      have b2 : c + j' ≤ 1000000000000 := by omega
      have b3 : i' + 1 ≤ 1000000000000 := by omega
      have b4 : j' + 1 ≤ 1000000000000 := by omega
      have hi1 := ih (i' + 1) (j' + 1) (out ++ [p41 (c + i', c + j')]) (by omega) (by omega) (by omega) (by simp only [List.length_append, List.length_singleton]; omega)
      have e1 := wadd b1
      have e2 := wadd b2
      have e3 := wsucc b3
      have e4 := wsucc b4
      refine evs ?_
      simp only [align_least.l0, ht]
      refine Ev.bind (Ev.now _) ?_
      simp only [c1, if_true, ht]
      refine Ev.bind (Ev.now _) ?_
      refine Ev.bind q4 ?_
      simp only [c2, if_true, e1, e2, e3, e4]
      have := hi1
      rw [q5 c, List.map_cons]
      rw [List.append_assoc] at this
      exact this
theorem least_ok (a b : List S24) (ha : a.length ≤ 1000) (hb : b.length ≤ 1000) (c : Nat) (hc : c ≤ 1000) : Ev (fun k => align_least.f k a b (c : Int)) ((G a b c c).map p41) := by
  unfold align_least.f
  have e : align_sizes.f a b = some ((b.length : Int) + 1, (Tab a b).flatten) := by
    unfold align_sizes.f
    have c1 := tt (show a.length ≤ 1000000 by omega)
    have c2 := tt (show b.length ≤ 1000000 by omega)
    simp only [c1, c2, if_true, tab_ok a b (by omega)]
  simp only [e]
  refine Ev.bind (Ev.now _) ?_
  exact least_loop a b ha hb c hc a.length 0 0 [] (by omega) (by omega) (by omega) (by simp)

end Go.Proofs.Ythbgbeelcnfofaa.Q
