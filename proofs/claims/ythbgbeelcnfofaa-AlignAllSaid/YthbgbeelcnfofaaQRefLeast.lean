/- The reference finds the least matching. -/
import Derived.Test.YthbgbeelcnfofaaPx0
import Derived.Test.YthbgbeelcnfofaaPx13
import Derived.Test.YthbgbeelcnfofaaPx14
import Derived.Test.YthbgbeelcnfofaaQBits
import Derived.Test.YthbgbeelcnfofaaQFind
-- use: QBits
-- use: QFind
namespace Go.Proofs.Ythbgbeelcnfofaa.Q
set_option linter.unusedVariables false
set_option linter.unusedSimpArgs false
open Go.RowKit Go.Proofs.YthbgbeelcnfofaaW.PrintWords Go.Proofs.YthbgbeelcnfofaaW.PrintLast Go.Proofs.YthbgbeelcnfofaaW.PrintMore Go.Proofs.Ythbgbeelcnfofaa.P

/-- What the reference's loops stand over. -/
structure At (a b : List S24) (c : Nat) : Prop where
  ha : a.length ≤ 1000
  hb : b.length ≤ 1000
  ca : c ≤ a.length
  cb : c ≤ b.length
theorem At.na {a b : List S24} {c : Nat} (h : At a b c) : wrap64 ((a.length : Int) - (c : Int)) = ((a.length - c : Nat) : Int) := by
  have := h.ha; have := h.ca
  rw [w64 (by omega) (by omega)]; omega
theorem At.nb {a b : List S24} {c : Nat} (h : At a b c) : wrap64 ((b.length : Int) - (c : Int)) = ((b.length - c : Nat) : Int) := by
  have := h.hb; have := h.cb
  rw [w64 (by omega) (by omega)]; omega
theorem At.row {a b : List S24} {c : Nat} (h : At a b c) (x : Nat) (hx : x ≤ a.length - c) : rd_L8 (Tab (a.drop c) (b.drop c)) (x : Int) = Row (a.drop (c + x)) (b.drop c) := by
  have := Tab_at (a.drop c) (b.drop c) x (by rw [List.length_drop]; exact hx)
  rw [List.drop_drop] at this
  simp [rd_L8, List.getD, this]
theorem At.cell {a b : List S24} {c : Nat} (h : At a b c) (x y : Nat) (hy : y ≤ b.length - c) : rd (Row (a.drop (c + x)) (b.drop c)) (y : Int) = (L (a.drop (c + x)) (b.drop (c + y)) : Int) := by
  rw [Row_at _ _ _ (by rw [List.length_drop]; exact hy), List.drop_drop]
theorem At.found {a b : List S24} {c : Nat} (h : At a b c) (out : List S67) (ho : out.length ≤ 5000) (x y p q : Nat) (hx : x < a.length - c) (hp : p < b.length - c) (r : List S67)
    (hr : Ev (fun k => parallaxref15_least.l0 k a b c c (Tab (a.drop c) (b.drop c)) (out ++ [p67 (c + x, c + p)]) ((x + 1 : Nat) : Int) ((p + 1 : Nat) : Int)) r) :
    Ev (fun k => parallaxref15_least.l1 k a b c c (Tab (a.drop c) (b.drop c)) out x y (p : Int) (q : Int)) r := by
  have na := h.na
  have nb := h.nb
  have b1 : c + x ≤ 1000000000000 := by have := h.ha; omega
  have b2 : c + p ≤ 1000000000000 := by have := h.hb; omega
  have b3 : x + 1 ≤ 1000000000000 := by have := h.ha; omega
  have b4 : p + 1 ≤ 1000000000000 := by have := h.hb; omega
  have c1 := ff (show ¬ (decide ((p : Int) < 0) = true) by rw [decide_eq_true_iff]; exact Int.not_lt.2 (Int.natCast_nonneg p))
  have c2 := tt (show (p : Int) ≥ 0 from Int.natCast_nonneg p)
  have c3 := tt (show out.length < 8796093022208 from Nat.lt_of_le_of_lt ho (by decide))
  have c4 := ff (show ¬ (false = true) by decide)
  have j3 : ∀ b', b' = false → Ev (fun k => parallaxref15_least.j3 k a b c c (Tab (a.drop c) (b.drop c)) out x y (p : Int) (q : Int) b') r := by
    rintro b' rfl
    refine evs ?_
    simp only [parallaxref15_least.j3, c4, c2, c3, if_true, if_false, wadd b1, wadd b2, wsucc b3, wsucc b4]
    exact hr
  refine evs ?_
  by_cases hq : (q : Int) < ((b.length - c : Nat) : Int)
  · have c5 := tt hq
    simp only [parallaxref15_least.l1, nb, c5, if_true]
    exact j3 _ (decide_eq_false (Int.not_lt.2 (Int.natCast_nonneg p)))
  · have c5 := ff hq
    simp only [parallaxref15_least.l1, nb, c5, if_false]
    exact j3 _ rfl
theorem At.inner {a b : List S24} {c : Nat} (h : At a b c) (out : List S67) (ho : out.length ≤ 5000) (x y v : Nat) (hx : x < a.length - c) (hy : y ≤ b.length - c) (hv : L (a.drop (c + x)) (b.drop (c + y)) = v) : ∀ (d q : Nat), q + d = b.length - c →
    (∀ g, hit (rd_T24 a ((c + x : Nat) : Int)) (a.drop (c + (x + 1))) (b.drop (c + q)) v = some g → ∀ r, Ev (fun k => parallaxref15_least.l0 k a b c c (Tab (a.drop c) (b.drop c)) (out ++ [p67 (c + x, c + (q + g))]) ((x + 1 : Nat) : Int) ((q + g + 1 : Nat) : Int)) r →
      Ev (fun k => parallaxref15_least.l1 k a b c c (Tab (a.drop c) (b.drop c)) out x y (-1) q) r) ∧
    (hit (rd_T24 a ((c + x : Nat) : Int)) (a.drop (c + (x + 1))) (b.drop (c + q)) v = none → ∀ r, Ev (fun k => parallaxref15_least.l0 k a b c c (Tab (a.drop c) (b.drop c)) out ((x + 1 : Nat) : Int) y) r →
      Ev (fun k => parallaxref15_least.l1 k a b c c (Tab (a.drop c) (b.drop c)) out x y (-1) q) r) := by
  have ha := h.ha
  have hb := h.hb
  have ca := h.ca
  have cb := h.cb
  intro d
  induction d with
  | zero =>
    intro q hq
    obtain rfl : q = b.length - c := by omega
    have e0 : b.drop (c + (b.length - c)) = [] := List.drop_of_length_le (by omega)
    have b3 : x + 1 ≤ 1000000000000 := by omega
    have c1 := ff (Int.lt_irrefl ((b.length - c : Nat) : Int))
    have c2 := ff (show ¬ ((-1 : Int) ≥ 0) by decide)
    have c4 := ff (show ¬ (false = true) by decide)
    have nb := h.nb
    rw [e0]
    refine ⟨(fun g e => by cases e), fun _ r hr => evs ?_⟩
    simp only [parallaxref15_least.l1, nb, c1, if_false]
    refine evs ?_
    simp only [parallaxref15_least.j3, c4, c2, if_false, wsucc b3]
    exact hr
  | succ d ih =>
    intro q hq
    obtain ⟨ih1, ih2⟩ := ih (q + 1) (by omega)
    have hl := L_le (a.drop (c + (x + 1))) (b.drop (c + (q + 1)))
    simp only [List.length_drop] at hl
    have t1 := h.row (x + 1) (by omega)
    have t2 := h.cell (x + 1) (q + 1) (by omega)
    have t3 := h.row x (by omega)
    have t4 := h.cell x y hy
    rw [hv] at t4
    have hd := drop24 b (c + q) (by omega)
    have b1 : c + x ≤ 1000000000000 := by omega
    have b2 : c + q ≤ 1000000000000 := by omega
    have b3 : x + 1 ≤ 1000000000000 := by omega
    have b4 : q + 1 ≤ 1000000000000 := by omega
    have k1 := tt (show (q : Int) < ((b.length - c : Nat) : Int) by omega)
    have k2 := tt (show decide ((-1 : Int) < 0) = true by decide)
    have k3 := tt (show (0 : Int) ≤ ((c + x : Nat) : Int) by omega)
    have k4 := tt (show ((c + x : Nat) : Int) < (a.length : Int) by omega)
    have k5 := tt (show (0 : Int) ≤ ((c + q : Nat) : Int) by omega)
    have k6 := tt (show ((c + q : Nat) : Int) < (b.length : Int) by omega)
    have k7 := tt (show (0 : Int) ≤ ((x + 1 : Nat) : Int) by omega)
    have k8 := tt (show ((x + 1 : Nat) : Int) < ((Tab (a.drop c) (b.drop c)).length : Int) by rw [Tab_length, List.length_drop]; omega)
    have k9 := tt (show (0 : Int) ≤ ((q + 1 : Nat) : Int) by omega)
    have k10 := tt (show ((q + 1 : Nat) : Int) < ((Row (a.drop (c + (x + 1))) (b.drop c)).length : Int) by rw [Row_length, List.length_drop]; omega)
    have k11 := tt (show (0 : Int) ≤ (x : Int) by omega)
    have k12 := tt (show (x : Int) < ((Tab (a.drop c) (b.drop c)).length : Int) by rw [Tab_length, List.length_drop]; omega)
    have k13 := tt (show (0 : Int) ≤ (y : Int) by omega)
    have k14 := tt (show (y : Int) < ((Row (a.drop (c + x)) (b.drop c)).length : Int) by rw [Row_length, List.length_drop]; omega)
    have fnd := h.found out ho x y q (q + 1) hx (by omega)
    rw [hd]
    unfold hit
    rw [show c + q + 1 = c + (q + 1) by omega]
    generalize L (a.drop (c + (x + 1))) (b.drop (c + (q + 1))) = l at hl t2 ⊢
    have b5 : l + 1 ≤ 1000000000000 := by omega
    have nb := h.nb
    have first : ∀ r, Ev (fun k => parallaxref15_least.j3 k a b c c (Tab (a.drop c) (b.drop c)) out x y (-1) q true) r → Ev (fun k => parallaxref15_least.l1 k a b c c (Tab (a.drop c) (b.drop c)) out x y (-1) q) r := by
      intro r hr
      refine evs ?_
      simp only [parallaxref15_least.l1, nb, k1, if_true]
      exact hr
    by_cases hxy : rd_T24 a ((c + x : Nat) : Int) = rd_T24 b ((c + q : Nat) : Int)
    · have c5 := tt (show (((rd_T24 a ((c + x : Nat) : Int)).f0 == (rd_T24 b ((c + q : Nat) : Int)).f0 && ((rd_T24 a ((c + x : Nat) : Int)).f1 == (rd_T24 b ((c + q : Nat) : Int)).f1)) = true) from (eqv_iff _ _).2 hxy)
      by_cases hlv : l + 1 = v
      · rw [if_pos ⟨hxy, hlv⟩]
        refine ⟨fun g e r hr => ?_, (fun e => by cases e)⟩
        injection e with e
        subst e
        have c6 := tt (show ((l + 1 : Nat) : Int) = (v : Int) from congrArg _ hlv)
        refine first r (evs ?_)
        simp only [parallaxref15_least.j3, wadd b1, wadd b2, wsucc b3, wsucc b4, k3, k4, k5, k6, k7, k8, k9, t1, k10, k11, k12, k13, t3, k14, c5, t2, t4, wsucc b5, c6, if_true]
        exact fnd r hr
      · rw [if_neg (fun h2 => hlv h2.2)]
        have c6 := ff (show ¬ ((l + 1 : Nat) : Int) = (v : Int) from fun h2 => hlv (Int.natCast_inj.1 h2))
        have st : ∀ r, Ev (fun k => parallaxref15_least.l1 k a b c c (Tab (a.drop c) (b.drop c)) out x y (-1) ((q + 1 : Nat) : Int)) r → Ev (fun k => parallaxref15_least.l1 k a b c c (Tab (a.drop c) (b.drop c)) out x y (-1) q) r := by
          intro r hr
          refine first r (evs ?_)
          simp only [parallaxref15_least.j3, wadd b1, wadd b2, wsucc b3, wsucc b4, k3, k4, k5, k6, k7, k8, k9, t1, k10, k11, k12, k13, t3, k14, c5, t2, t4, wsucc b5, c6, if_true, if_false]
          exact hr
        refine ⟨fun g e r hr => ?_, fun e r hr => st r (ih2 (by simpa using e) r hr)⟩
        obtain ⟨g, hg, rfl⟩ := Option.map_eq_some_iff.1 e
        refine st r (ih1 g hg r ?_)
        rwa [show q + 1 + g = q + (g + 1) by rw [Nat.add_assoc, Nat.add_comm 1 g]]
    · have c5 := ff (show ¬ (((rd_T24 a ((c + x : Nat) : Int)).f0 == (rd_T24 b ((c + q : Nat) : Int)).f0 && ((rd_T24 a ((c + x : Nat) : Int)).f1 == (rd_T24 b ((c + q : Nat) : Int)).f1)) = true) from fun h2 => hxy ((eqv_iff _ _).1 h2))
      rw [if_neg (fun h2 => hxy h2.1)]
      have st : ∀ r, Ev (fun k => parallaxref15_least.l1 k a b c c (Tab (a.drop c) (b.drop c)) out x y (-1) ((q + 1 : Nat) : Int)) r → Ev (fun k => parallaxref15_least.l1 k a b c c (Tab (a.drop c) (b.drop c)) out x y (-1) q) r := by
        intro r hr
        refine first r (evs ?_)
        simp only [parallaxref15_least.j3, wadd b1, wadd b2, wsucc b4, k3, k4, k5, k6, c5, if_true, if_false]
        exact hr
      refine ⟨fun g e r hr => ?_, fun e r hr => st r (ih2 (by simpa using e) r hr)⟩
      obtain ⟨g, hg, rfl⟩ := Option.map_eq_some_iff.1 e
      refine st r (ih1 g hg r ?_)
      rwa [show q + 1 + g = q + (g + 1) by rw [Nat.add_assoc, Nat.add_comm 1 g]]
theorem At.loop {a b : List S24} {c : Nat} (h : At a b c) : ∀ (d x y : Nat) (out : List S67), x + d = a.length - c → y ≤ b.length - c → out.length ≤ 2000 + x →
    Ev (fun k => parallaxref15_least.l0 k a b c c (Tab (a.drop c) (b.drop c)) out x y) (out ++ (G (a.drop (c + x)) (b.drop (c + y)) (c + x) (c + y)).map p67) := by
  have ha := h.ha
  have hb := h.hb
  have ca := h.ca
  have cb := h.cb
  have c4 := ff (show ¬ (false = true) by decide)
  have stop : ∀ (x y : Nat) (out : List S67), L (a.drop (c + x)) (b.drop (c + y)) = 0 → ∀ b', b' = false → Ev (fun k => parallaxref15_least.j1 k a b c c (Tab (a.drop c) (b.drop c)) out x y b') (out ++ (G (a.drop (c + x)) (b.drop (c + y)) (c + x) (c + y)).map p67) := by
    rintro x y out h0 b' rfl
    rw [G_zero _ _ _ _ h0, List.map_nil, List.append_nil]
    refine evs ?_
    simp only [parallaxref15_least.j1, c4, if_false]
    exact Ev.now _
  intro d
  induction d with
  | zero =>
    intro x y out hx hy ho
    obtain rfl : x = a.length - c := by omega
    have h0 : L (a.drop (c + (a.length - c))) (b.drop (c + y)) = 0 := by rw [List.drop_of_length_le (by omega), L_nil]
    have c1 := ff (Int.lt_irrefl ((a.length - c : Nat) : Int))
    have na := h.na
    refine evs ?_
    simp only [parallaxref15_least.l0, na, c1, if_false]
    exact stop _ y out h0 _ rfl
  | succ d ih =>
    intro x y out hx hy ho
    have c1 := tt (show (x : Int) < ((a.length - c : Nat) : Int) by omega)
    by_cases hyb : y = b.length - c
    · subst hyb
      have h0 : L (a.drop (c + x)) (b.drop (c + (b.length - c))) = 0 := by rw [List.drop_of_length_le (l := b) (by omega), L_nil']
      have c2 := ff (Int.lt_irrefl ((b.length - c : Nat) : Int))
      have na := h.na
      have nb := h.nb
      refine evs ?_
      simp only [parallaxref15_least.l0, na, nb, c1, c2, if_true, if_false]
      exact stop x _ out h0 _ rfl
    · have c2 := tt (show (y : Int) < ((b.length - c : Nat) : Int) by omega)
      have k11 := tt (show (0 : Int) ≤ (x : Int) by omega)
      have k12 := tt (show (x : Int) < ((Tab (a.drop c) (b.drop c)).length : Int) by rw [Tab_length, List.length_drop]; omega)
      have k13 := tt (show (0 : Int) ≤ (y : Int) by omega)
      have k14 := tt (show (y : Int) < ((Row (a.drop (c + x)) (b.drop c)).length : Int) by rw [Row_length, List.length_drop]; omega)
      have t3 := h.row x (by omega)
      have t4 := h.cell x y hy
      obtain ⟨v, hv⟩ : ∃ v, L (a.drop (c + x)) (b.drop (c + y)) = v := ⟨_, rfl⟩
      rw [hv] at t4
      have step : ∀ r, Ev (fun k => parallaxref15_least.j1 k a b c c (Tab (a.drop c) (b.drop c)) out x y (decide ((v : Int) > 0))) r → Ev (fun k => parallaxref15_least.l0 k a b c c (Tab (a.drop c) (b.drop c)) out x y) r := by
        intro r hr
        have na := h.na
        have nb := h.nb
        refine evs ?_
        simp only [parallaxref15_least.l0, na, nb, c1, c2, k11, k12, k13, t3, k14, t4, if_true]
        exact hr
      by_cases h0 : v = 0
      · exact step _ (stop x y out (hv.trans h0) _ (decide_eq_false (by omega)))
      · refine step _ ?_
        rw [decide_eq_true (show (v : Int) > 0 by omega)]
        refine evs ?_
        simp only [parallaxref15_least.j1, if_true]
        obtain ⟨r1, r2⟩ := h.inner out (by omega) x y v (by omega) hy hv (b.length - c - y) y (by omega)
        have hd := drop24 a (c + x) (by omega)
        have he : L (rd_T24 a ((c + x : Nat) : Int) :: a.drop (c + x + 1)) (b.drop (c + y)) = v := by rw [← hd]; exact hv
        rw [Nat.add_assoc] at hd he
        cases e : hit (rd_T24 a ((c + x : Nat) : Int)) (a.drop (c + (x + 1))) (b.drop (c + y)) v with
        | some g =>
          obtain ⟨g1, g2, g3⟩ := hit_some _ _ _ _ _ e
          rw [List.length_drop] at g1
          refine r1 g e _ ?_
          have := ih (x + 1) (y + g + 1) (out ++ [p67 (c + x, c + (y + g))]) (by omega) (by omega) (by simp only [List.length_append, List.length_singleton]; omega)
          rw [hd]
          unfold G
          rw [if_neg (by omega), he, e]
          simp only [List.map_cons, List.drop_drop]
          rw [List.append_assoc] at this
          rw [show c + y + (g + 1) = c + (y + g + 1) by omega, show c + x + 1 = c + (x + 1) by omega, show c + y + g + 1 = c + (y + g + 1) by omega, show c + y + g = c + (y + g) by omega]
          exact this
        | none =>
          refine r2 e _ ?_
          have := ih (x + 1) y out (by omega) hy (by omega)
          rw [hd]
          unfold G
          rw [if_neg (by omega), he, e]
          exact this
theorem refLeast_ok (a b : List S24) (c : Nat) (ha : a.length ≤ 1000) (hb : b.length ≤ 1000) (ca : c ≤ a.length) (cb : c ≤ b.length) : Ev (fun k => parallaxref15_least.f k a b (c : Int) (c : Int)) ((G (a.drop c) (b.drop c) c c).map p67) := by
  unfold parallaxref15_least.f
  have c1 := tt (show (0 : Int) ≤ (c : Int) by omega)
  have c2 := tt (show (c : Int) ≤ (a.length : Int) by omega)
  have c3 := tt (show (c : Int) ≤ (b.length : Int) by omega)
  have e : parallaxref15_Sizes.f (a.drop c) (b.drop c) = some (Tab (a.drop c) (b.drop c)) := by
    unfold parallaxref15_Sizes.f
    have d1 := tt (show (a.drop c).length ≤ 1000000 by rw [List.length_drop]; omega)
    have d2 := tt (show (b.drop c).length ≤ 1000000 by rw [List.length_drop]; omega)
    simp only [d1, d2, if_true, refTab_ok (a.drop c) (b.drop c) (by rw [List.length_drop]; omega)]
  have := (At.mk ha hb ca cb).loop (a.length - c) 0 0 [] (by omega) (by omega) (by simp)
  simp only [c1, c2, c3, Int.toNat_natCast, e, if_true]
  refine Ev.bind (Ev.now _) ?_
  exact this

end Go.Proofs.Ythbgbeelcnfofaa.Q
