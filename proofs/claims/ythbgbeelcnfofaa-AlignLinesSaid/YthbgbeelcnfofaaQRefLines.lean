/- The document's lines of a region. -/
import Derived.Test.YthbgbeelcnfofaaPx0
import Derived.Test.YthbgbeelcnfofaaPx13
import Derived.Test.YthbgbeelcnfofaaQBase
import Derived.Test.YthbgbeelcnfofaaQLines
-- use: QBase
-- use: QLines
namespace Go.Proofs.Ythbgbeelcnfofaa.Q
set_option linter.unusedVariables false
set_option linter.unusedSimpArgs false
open Go.RowKit Go.Proofs.YthbgbeelcnfofaaW.PrintWords Go.Proofs.YthbgbeelcnfofaaW.PrintLast Go.Proofs.YthbgbeelcnfofaaW.PrintMore Go.Proofs.Ythbgbeelcnfofaa.P

theorem ref_l2 {a b : List S24} (ga : GoodE a) (ha : a.length ≤ 1000) (N : List S67) (hN : N.length ≤ 100000) (t : Nat) (ht : t < N.length) (h1 : (rd_T67 N (t : Int)).f0 ≤ (a.length : Int)) (j : Int) (R : List ByteArray × Int) : ∀ (m i : Nat) (q : List ByteArray), ((rd_T67 N (t : Int)).f0 - (i : Int)).toNat = m → i ≤ a.length → q.length + m ≤ 100000 →
    Ev (fun k => parallaxref15_Lines.l3 k a b N (q ++ ds 45 a i m) ((i + m : Nat) : Int) j (t : Int)) R → Ev (fun k => parallaxref15_Lines.l2 k a b N q (i : Int) j (t : Int)) R := by
  intro m
  have k1 := tt (show (0 : Int) ≤ (t : Int) by omega)
  have k2 := tt (show (t : Int) < (N.length : Int) by omega)
  induction m with
  | zero =>
    intro i q hm hi hq h
    have c1 := ff (show ¬ ((i : Int) < (rd_T67 N (t : Int)).f0) by omega)
    refine evs ?_
    simp only [parallaxref15_Lines.l2, k1, k2, c1, if_true, if_false]
    simpa only [ds, List.append_nil, Nat.add_zero] using h
  | succ m ih =>
    intro i q hm hi hq h
    have ih := ih (i + 1) (q ++ [ln 45 (rd_T24 a (i : Int))]) (by omega) (by omega) (by rw [List.length_append, List.length_singleton]; omega) (by
      rw [List.append_assoc, show i + 1 + m = i + (m + 1) by omega]
      exact h)
    have hs := TX_size ga i (by omega)
    have c1 := tt (show (i : Int) < (rd_T67 N (t : Int)).f0 by omega)
    have c2 := tt (show (0 : Int) ≤ (i : Int) by omega)
    have c3 := tt (show (i : Int) < (a.length : Int) by omega)
    have c4 := tt (show 2 + (TX (rd_T24 a (i : Int))).size ≤ 9223372036854775807 by omega)
    have c5 := tt (show q.length < 8796093022208 by omega)
    have b1 : i + 1 ≤ 1000000000000 := by omega
    refine evs ?_
    simp only [parallaxref15_Lines.l2, k1, k2, c1, c2, c3, if_true]
    refine Ev.bind (refTX_ok ga i (by omega)) ?_
    simp only [c4, c5, wsucc b1, if_true]
    exact ih
theorem ref_l3 {a b : List S24} (gb : GoodE b) (hb : b.length ≤ 1000) (N : List S67) (hN : N.length ≤ 100000) (t : Nat) (ht : t < N.length) (h1 : (rd_T67 N (t : Int)).f1 ≤ (b.length : Int)) (i : Int) (R : List ByteArray × Int) : ∀ (m j : Nat) (q : List ByteArray), ((rd_T67 N (t : Int)).f1 - (j : Int)).toNat = m → j ≤ b.length → q.length + m ≤ 100000 →
    Ev (fun k => parallaxref15_Lines.l3 k a b N (q ++ ds 43 b j m) i ((j + m : Nat) : Int) (t : Int)) R → Ev (fun k => parallaxref15_Lines.l3 k a b N q i (j : Int) (t : Int)) R := by
  intro m
  have k1 := tt (show (0 : Int) ≤ (t : Int) by omega)
  have k2 := tt (show (t : Int) < (N.length : Int) by omega)
  induction m with
  | zero =>
    intro j q hm hj hq h
    simpa only [ds, List.append_nil, Nat.add_zero] using h
  | succ m ih =>
    intro j q hm hj hq h
    have ih := ih (j + 1) (q ++ [ln 43 (rd_T24 b (j : Int))]) (by omega) (by omega) (by rw [List.length_append, List.length_singleton]; omega) (by
      rw [List.append_assoc, show j + 1 + m = j + (m + 1) by omega]
      exact h)
    have hs := TX_size gb j (by omega)
    have c1 := tt (show (j : Int) < (rd_T67 N (t : Int)).f1 by omega)
    have c2 := tt (show (0 : Int) ≤ (j : Int) by omega)
    have c3 := tt (show (j : Int) < (b.length : Int) by omega)
    have c4 := tt (show 2 + (TX (rd_T24 b (j : Int))).size ≤ 9223372036854775807 by omega)
    have c5 := tt (show q.length < 8796093022208 by omega)
    have b1 : j + 1 ≤ 1000000000000 := by omega
    refine evs ?_
    simp only [parallaxref15_Lines.l3, k1, k2, c1, c2, c3, if_true]
    refine Ev.bind (refTX_ok gb j (by omega)) ?_
    simp only [c4, c5, wsucc b1, if_true]
    exact ih
theorem rdN (P S : List S67) (x : S67) : rd_T67 (P ++ x :: S) (P.length : Int) = x := by simp [rd_T67, List.getD]
theorem ref_l1 (a b : List S24) (ga : GoodE a) (gb : GoodE b) (ha : a.length ≤ 1000) (hb : b.length ≤ 1000) (r1 r3 : Int) (h1 : r1 ≤ (a.length : Int)) (h3 : r3 ≤ (b.length : Int)) : ∀ (S P : List S67) (i j : Nat) (q : List ByteArray), P.length + S.length ≤ 10000 → i ≤ a.length → j ≤ b.length → q.length ≤ i + j → Chain (a.length : Int) (b.length : Int) i j S →
    Ev (fun k => parallaxref15_Lines.l1 k a b (P ++ (S ++ [⟨r1, r3⟩])) q (i : Int) (j : Int) (P.length : Int)) (fin a b r1 r3 (Wl a b S i j q), 0)
  | [], P, i, j, q, hP, hi, hj, hq, _ => by
    have hN : (P ++ ([] ++ [(⟨r1, r3⟩ : S67)])).length = P.length + 1 := by simp
    have er : rd_T67 (P ++ ([] ++ [(⟨r1, r3⟩ : S67)])) (P.length : Int) = ⟨r1, r3⟩ := rdN P [] _
    have c1 := tt (show (P.length : Int) < ((P ++ ([] ++ [(⟨r1, r3⟩ : S67)])).length : Int) by omega)
    refine evs ?_
    simp only [parallaxref15_Lines.l1, c1, if_true]
    simp only [List.length_nil] at hP
    refine ref_l2 ga ha _ (by omega) P.length (by omega) (by rw [er]; exact h1) _ _ (r1 - (i : Int)).toNat i q (by rw [er]) hi (by omega) ?_
    refine ref_l3 gb hb _ (by omega) P.length (by omega) (by rw [er]; exact h3) _ _ (r3 - (j : Int)).toNat j _ (by rw [er]) hj (by rw [List.length_append, ds_length]; omega) ?_
    have k1 := tt (show (0 : Int) ≤ (P.length : Int) by omega)
    have k3 := ff (show ¬ (((j + (r3 - (j : Int)).toNat : Nat) : Int) < (⟨r1, r3⟩ : S67).f1) by simp only; omega)
    have e0 : (((P ++ ([] ++ [(⟨r1, r3⟩ : S67)])).length : Nat) : Int) - 1 = (P.length : Int) := by omega
    have k4 : wrap64 (((P ++ ([] ++ [(⟨r1, r3⟩ : S67)])).length : Int) - 1) = (P.length : Int) := by rw [e0, w64 (by omega) (by omega)]
    have k5 := ff (Int.lt_irrefl (P.length : Int))
    have b1 : P.length + 1 ≤ 1000000000000 := by omega
    have k6 := ff (show ¬ (((P.length + 1 : Nat) : Int) < ((P ++ ([] ++ [(⟨r1, r3⟩ : S67)])).length : Int)) by omega)
    refine evs ?_
    simp only [parallaxref15_Lines.l3, k1, c1, er, k3, k4, k5, wsucc b1, if_true, if_false]
    refine evs ?_
    simp only [parallaxref15_Lines.l1, k6, if_false]
    exact Ev.now _
  | p :: S, P, i, j, q, hP, hi, hj, hq, hc => by
    obtain ⟨⟨g1, g2, g3, g4⟩, g5⟩ := hc
    rw [List.length_cons] at hP
    obtain ⟨u, hu⟩ : ∃ u : Nat, p.f0 = (u : Int) := ⟨p.f0.toNat, by omega⟩
    obtain ⟨v, hv⟩ : ∃ v : Nat, p.f1 = (v : Int) := ⟨p.f1.toNat, by omega⟩
    unfold Wl
    rw [hu, hv] at g5 ⊢
    rw [hu] at g1 g3
    rw [hv] at g2 g4
    rw [Int.toNat_natCast, Int.toNat_natCast] at g5 ⊢
    have hql : (q ++ ds 45 a i ((u : Int) - (i : Int)).toNat ++ ds 43 b j ((v : Int) - (j : Int)).toNat).length ≤ u + v := by
      rw [List.length_append, List.length_append, ds_length, ds_length]; omega
    have ih := ref_l1 a b ga gb ha hb r1 r3 h1 h3 S (P ++ [p]) (u + 1) (v + 1) (q ++ ds 45 a i ((u : Int) - (i : Int)).toNat ++ ds 43 b j ((v : Int) - (j : Int)).toNat ++ [ln 32 (rd_T24 a (u : Int))]) (by rw [List.length_append, List.length_singleton]; omega) (by omega) (by omega) (by rw [List.length_append, List.length_singleton]; omega) g5
    have hN : (P ++ (p :: S ++ [(⟨r1, r3⟩ : S67)])).length = P.length + 1 + S.length + 1 := by simp only [List.length_append, List.length_cons, List.length_nil]; omega
    have er : rd_T67 (P ++ (p :: S ++ [(⟨r1, r3⟩ : S67)])) (P.length : Int) = p := rdN P _ p
    have e9 : P ++ [p] ++ (S ++ [(⟨r1, r3⟩ : S67)]) = P ++ (p :: S ++ [(⟨r1, r3⟩ : S67)]) := by simp
    rw [e9, List.length_append, List.length_singleton] at ih
    have c1 := tt (show (P.length : Int) < ((P ++ (p :: S ++ [(⟨r1, r3⟩ : S67)])).length : Int) by omega)
    refine evs ?_
    simp only [parallaxref15_Lines.l1, c1, if_true]
    refine ref_l2 ga ha _ (by omega) P.length (by omega) (by rw [er, hu]; omega) _ _ ((u : Int) - (i : Int)).toNat i q (by rw [er, hu]) hi (by omega) ?_
    refine ref_l3 gb hb _ (by omega) P.length (by omega) (by rw [er, hv]; omega) _ _ ((v : Int) - (j : Int)).toNat j _ (by rw [er, hv]) hj (by rw [List.length_append, ds_length]; omega) ?_
    rw [show i + ((u : Int) - (i : Int)).toNat = u by omega, show j + ((v : Int) - (j : Int)).toNat = v by omega]
    have k1 := tt (show (0 : Int) ≤ (P.length : Int) by omega)
    have k3 := ff (Int.lt_irrefl (v : Int))
    have e0 : (((P ++ (p :: S ++ [(⟨r1, r3⟩ : S67)])).length : Nat) : Int) - 1 = ((P.length + 1 + S.length : Nat) : Int) := by omega
    have k4 : wrap64 (((P ++ (p :: S ++ [(⟨r1, r3⟩ : S67)])).length : Int) - 1) = ((P.length + 1 + S.length : Nat) : Int) := by rw [e0, w64 (by omega) (by omega)]
    have k5 := tt (show (P.length : Int) < ((P.length + 1 + S.length : Nat) : Int) by omega)
    have k6 := tt (show (0 : Int) ≤ (u : Int) by omega)
    have k7 := tt (show (u : Int) < (a.length : Int) by omega)
    have hs := TX_size ga u (by omega)
    have k8 := tt (show 2 + (TX (rd_T24 a (u : Int))).size ≤ 9223372036854775807 by omega)
    have k9 := tt (show (q ++ ds 45 a i ((u : Int) - (i : Int)).toNat ++ ds 43 b j ((v : Int) - (j : Int)).toNat).length < 8796093022208 by omega)
    have b1 : P.length + 1 ≤ 1000000000000 := by omega
    have b2 : u + 1 ≤ 1000000000000 := by omega
    have b3 : v + 1 ≤ 1000000000000 := by omega
    refine evs ?_
    simp only [parallaxref15_Lines.l3, k1, c1, er, hv, k3, k4, k5, k6, k7, if_true, if_false]
    refine Ev.bind (refTX_ok ga u (by omega)) ?_
    simp only [k8, k9, wsucc b1, wsucc b2, wsucc b3, if_true]
    exact ih
theorem ref_l0 (a b : List S24) (l : List S67) (hl : l.length ≤ 1000) (r0 r1 r2 r3 : Int) (R : List ByteArray × Int) (h : Ev (fun k => parallaxref15_Lines.l1 k a b (l.filter (inn r0 r1 r2 r3) ++ [⟨r1, r3⟩]) [] r0 r2 0) R) : ∀ (d x : Nat), x + d = l.length →
    Ev (fun k => parallaxref15_Lines.l0 k a b l ((l.take x).filter (inn r0 r1 r2 r3)) (x : Int) r0 r1 r2 r3) R := by
  intro d
  induction d with
  | zero =>
    intro x hx
    obtain rfl : x = l.length := by omega
    rw [List.take_length]
    have hf := List.length_filter_le (inn r0 r1 r2 r3) l
    have c1 := ff (Int.lt_irrefl (l.length : Int))
    have c2 := tt (show (l.filter (inn r0 r1 r2 r3)).length < 8796093022208 by omega)
    refine evs ?_
    simp only [parallaxref15_Lines.l0, c1, c2, if_true, if_false]
    exact h
  | succ d ih =>
    intro x hx
    have ih := ih (x + 1) (by omega)
    rw [List.take_succ_eq_append_getElem (show x < l.length by omega), List.filter_append] at ih
    have hf := List.length_filter_le (inn r0 r1 r2 r3) (l.take x)
    rw [List.length_take] at hf
    have c1 := tt (show (x : Int) < (l.length : Int) by omega)
    have c2 := tt (show (0 : Int) ≤ (x : Int) by omega)
    have c3 := tt (show ((l.take x).filter (inn r0 r1 r2 r3)).length < 8796093022208 by omega)
    have b1 : x + 1 ≤ 1000000000000 := by omega
    have hr := rd67_get l x (by omega)
    rw [← hr] at ih
    refine evs ?_
    by_cases d0 : (rd_T67 l (x : Int)).f0 ≥ r0
    · by_cases d1 : (rd_T67 l (x : Int)).f0 < r1
      · by_cases d2 : (rd_T67 l (x : Int)).f1 ≥ r2
        · by_cases d3 : (rd_T67 l (x : Int)).f1 < r3
          · have e : inn r0 r1 r2 r3 (rd_T67 l (x : Int)) = true := decide_eq_true ⟨d0, d1, d2, d3⟩
            simp only [List.filter_cons, e, if_true, List.filter_nil] at ih
            simp only [parallaxref15_Lines.l0, c1, c2, c3, tt d0, tt d1, tt d2, tt d3, wsucc b1, if_true]
            exact ih
          · have e : inn r0 r1 r2 r3 (rd_T67 l (x : Int)) = false := decide_eq_false (fun h => d3 h.2.2.2)
            simp only [List.filter_cons, e, Bool.false_eq_true, if_false, List.filter_nil, List.append_nil] at ih
            simp only [parallaxref15_Lines.l0, c1, c2, tt d0, tt d1, tt d2, ff d3, wsucc b1, if_true, if_false]
            exact ih
        · have e : inn r0 r1 r2 r3 (rd_T67 l (x : Int)) = false := decide_eq_false (fun h => d2 h.2.2.1)
          simp only [List.filter_cons, e, Bool.false_eq_true, if_false, List.filter_nil, List.append_nil] at ih
          simp only [parallaxref15_Lines.l0, c1, c2, tt d0, tt d1, ff d2, wsucc b1, if_true, if_false]
          exact ih
      · have e : inn r0 r1 r2 r3 (rd_T67 l (x : Int)) = false := decide_eq_false (fun h => d1 h.2.1)
        simp only [List.filter_cons, e, Bool.false_eq_true, if_false, List.filter_nil, List.append_nil] at ih
        simp only [parallaxref15_Lines.l0, c1, c2, tt d0, ff d1, wsucc b1, if_true, if_false]
        exact ih
    · have e : inn r0 r1 r2 r3 (rd_T67 l (x : Int)) = false := decide_eq_false (fun h => d0 h.1)
      simp only [List.filter_cons, e, Bool.false_eq_true, if_false, List.filter_nil, List.append_nil] at ih
      simp only [parallaxref15_Lines.l0, c1, c2, ff d0, wsucc b1, if_true, if_false]
      exact ih

end Go.Proofs.Ythbgbeelcnfofaa.Q
