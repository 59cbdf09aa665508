/- Regions and pairs together are all indices, each once. -/
import Derived.Test.YthbgbeelcnfofaaPx0
import Derived.Test.YthbgbeelcnfofaaPx30
import Derived.Test.YthbgbeelcnfofaaQFitp
import Derived.Test.YthbgbeelcnfofaaQAll
import Derived.Test.YthbgbeelcnfofaaQKnown15
-- use: QFitp
-- use: QAll
-- use: QKnown15
namespace Go.Proofs.Ythbgbeelcnfofaa.Pure
set_option linter.unusedVariables false
set_option linter.unusedSimpArgs false
open Go.RowKit Go.Proofs.Ythbgbeelcnfofaa.P Go.Proofs.YthbgbeelcnfofaaW.PrintWords Go.Proofs.YthbgbeelcnfofaaW.PrintLast Go.Proofs.YthbgbeelcnfofaaW.PrintMore Go.Proofs.Ythbgbeelcnfofaa.Q

theorem Wants_one {x : List Int} {n : Nat} (h : Wants x n (fun _ => 0)) (i : Nat) (hi : i < n) : rd x (i : Int) = 1 := by
  have h2 : rd x (i : Int) + ((0 : Nat) : Int) = 1 := (h.2 i hi).1
  omega
theorem All_l5 (y : List Int) (m : Nat) (hm : m ≤ 1000) (hy : Wants y m (fun _ => 0)) : ∀ (d i : Nat), i + d = m → Ev (fun k => parallaxlaw15_AlignAll.l5 k y (i : Int)) true := by
  intro d
  have hl := hy.1
  induction d with
  | zero =>
    intro i hi
    have c1 := ff (show ¬ ((i : Int) < (y.length : Int)) by omega)
    refine evs ?_
    simp only [parallaxlaw15_AlignAll.l5, c1, if_false]
    exact known_fin
  | succ d ih =>
    intro i hi
    have := ih (i + 1) (by omega)
    have e := Wants_one hy i (by omega)
    have c1 := tt (show (i : Int) < (y.length : Int) by omega)
    have c2 := tt (show (0 : Int) ≤ (i : Int) by omega)
    have b1 : i + 1 ≤ 1000000000000 := by omega
    refine evs ?_
    simp only [parallaxlaw15_AlignAll.l5, c1, c2, e, wsucc b1, if_true]
    exact this
theorem All_l4 (x y : List Int) (n m : Nat) (hn : n ≤ 1000) (hm : m ≤ 1000) (hx : Wants x n (fun _ => 0)) (hy : Wants y m (fun _ => 0)) : ∀ (d i : Nat), i + d = n → Ev (fun k => parallaxlaw15_AlignAll.l4 k x y (i : Int)) true := by
  intro d
  have hl := hx.1
  induction d with
  | zero =>
    intro i hi
    have c1 := ff (show ¬ ((i : Int) < (x.length : Int)) by omega)
    refine evs ?_
    simp only [parallaxlaw15_AlignAll.l4, c1, if_false]
    exact All_l5 y m hm hy m 0 (Nat.zero_add _)
  | succ d ih =>
    intro i hi
    have := ih (i + 1) (by omega)
    have e := Wants_one hx i (by omega)
    have c1 := tt (show (i : Int) < (x.length : Int) by omega)
    have c2 := tt (show (0 : Int) ≤ (i : Int) by omega)
    have b1 : i + 1 ≤ 1000000000000 := by omega
    refine evs ?_
    simp only [parallaxlaw15_AlignAll.l4, c1, c2, e, wsucc b1, if_true]
    exact this
theorem drop49 (l : List S49) (i : Nat) (h : i < l.length) : l.drop i = rd_T49 l (i : Int) :: l.drop (i + 1) := by
  rw [List.drop_eq_getElem_cons h]
  simp [rd_T49, List.getD, h]
theorem All_l3 (a b : List S24) (r : List S49) (ha : a.length ≤ 1000) (hb : b.length ≤ 1000) (hr : r.length ≤ 5000) (i : Nat) (hi : i < r.length) (h0 : 0 ≤ (rd_T49 r (i : Int)).f2) (h1 : (rd_T49 r (i : Int)).f3 ≤ (b.length : Int)) (x : List Int)
    (next : ∀ y, Wants y b.length (inR S49.f2 S49.f3 (r.drop (i + 1))) → Ev (fun k => parallaxlaw15_AlignAll.l1 k a b r x y ((i + 1 : Nat) : Int)) true) : ∀ (d : Nat) (j : Nat) (y : List Int), (rd_T49 r (i : Int)).f3 - (j : Int) ≤ (d : Int) →
    Wants y b.length (fun k => (if (j : Int) ≤ k ∧ k < (rd_T49 r (i : Int)).f3 then 1 else 0) + inR S49.f2 S49.f3 (r.drop (i + 1)) k) → Ev (fun k => parallaxlaw15_AlignAll.l3 k a b r x y (i : Int) (j : Int)) true := by
  have c1 := tt (show (0 : Int) ≤ (i : Int) by omega)
  have c2 := tt (show (i : Int) < (r.length : Int) by omega)
  have b0 : i + 1 ≤ 1000000000000 := by omega
  have stop : ∀ (j : Nat) (y : List Int), (rd_T49 r (i : Int)).f3 ≤ (j : Int) → Wants y b.length (fun k => (if (j : Int) ≤ k ∧ k < (rd_T49 r (i : Int)).f3 then 1 else 0) + inR S49.f2 S49.f3 (r.drop (i + 1)) k) → Ev (fun k => parallaxlaw15_AlignAll.l3 k a b r x y (i : Int) (j : Int)) true := by
    intro j y hj hy
    have := next y (Wants_eq hy (fun k => by
      show (if (j : Int) ≤ k ∧ k < (rd_T49 r (i : Int)).f3 then 1 else 0) + _ = _
      rw [if_neg (by omega), Nat.zero_add]))
    have c3 := ff (show ¬ ((j : Int) < (rd_T49 r (i : Int)).f3) by omega)
    refine evs ?_
    simp only [parallaxlaw15_AlignAll.l3, c1, c2, c3, wsucc b0, if_true, if_false]
    exact this
  intro d
  induction d with
  | zero => exact fun j y hd hy => stop j y (by omega) hy
  | succ d ih =>
    intro j y hd hy
    by_cases h : (rd_T49 r (i : Int)).f3 ≤ (j : Int)
    · exact stop j y h hy
    have hl := hy.1
    have := ih (j + 1) (y.set (j : Int).toNat (wrap64 (rd y (j : Int) + 1))) (by omega) (Wants_set hy _ j (by omega) (fun k => by
      by_cases e : (j : Int) = k
      · rw [if_pos e, if_pos (by omega), if_neg (by omega)]; omega
      · rw [if_neg e]
        by_cases e2 : (j : Int) ≤ k ∧ k < (rd_T49 r (i : Int)).f3
        · rw [if_pos e2, if_pos (by omega)]; omega
        · rw [if_neg e2, if_neg (by omega)]; omega))
    have c3 := tt (show ((j : Int) < (rd_T49 r (i : Int)).f3) by omega)
    have c4 := tt (show (0 : Int) ≤ (j : Int) by omega)
    have c5 := tt (show (j : Int) < (y.length : Int) by omega)
    have b1 : j + 1 ≤ 1000000000000 := by omega
    refine evs ?_
    simp only [parallaxlaw15_AlignAll.l3, c1, c2, c3, c4, c5, wsucc b1, if_true]
    exact this
theorem All_l2 (a b : List S24) (r : List S49) (ha : a.length ≤ 1000) (hb : b.length ≤ 1000) (hr : r.length ≤ 5000) (i : Nat) (hi : i < r.length) (h0 : 0 ≤ (rd_T49 r (i : Int)).f0) (h1 : (rd_T49 r (i : Int)).f1 ≤ (a.length : Int)) (y : List Int)
    (next : ∀ x, Wants x a.length (inR S49.f0 S49.f1 (r.drop (i + 1))) → Ev (fun k => parallaxlaw15_AlignAll.l3 k a b r x y (i : Int) (rd_T49 r (i : Int)).f2) true) : ∀ (d : Nat) (j : Nat) (x : List Int), (rd_T49 r (i : Int)).f1 - (j : Int) ≤ (d : Int) →
    Wants x a.length (fun k => (if (j : Int) ≤ k ∧ k < (rd_T49 r (i : Int)).f1 then 1 else 0) + inR S49.f0 S49.f1 (r.drop (i + 1)) k) → Ev (fun k => parallaxlaw15_AlignAll.l2 k a b r x y (i : Int) (j : Int)) true := by
  have c1 := tt (show (0 : Int) ≤ (i : Int) by omega)
  have c2 := tt (show (i : Int) < (r.length : Int) by omega)
  have stop : ∀ (j : Nat) (x : List Int), (rd_T49 r (i : Int)).f1 ≤ (j : Int) → Wants x a.length (fun k => (if (j : Int) ≤ k ∧ k < (rd_T49 r (i : Int)).f1 then 1 else 0) + inR S49.f0 S49.f1 (r.drop (i + 1)) k) → Ev (fun k => parallaxlaw15_AlignAll.l2 k a b r x y (i : Int) (j : Int)) true := by
    intro j x hj hx
    have := next x (Wants_eq hx (fun k => by
      show (if (j : Int) ≤ k ∧ k < (rd_T49 r (i : Int)).f1 then 1 else 0) + _ = _
      rw [if_neg (by omega), Nat.zero_add]))
    have c3 := ff (show ¬ ((j : Int) < (rd_T49 r (i : Int)).f1) by omega)
    refine evs ?_
    simp only [parallaxlaw15_AlignAll.l2, c1, c2, c3, if_true, if_false]
    exact this
  intro d
  induction d with
  | zero => exact fun j x hd hx => stop j x (by omega) hx
  | succ d ih =>
    intro j x hd hx
    by_cases h : (rd_T49 r (i : Int)).f1 ≤ (j : Int)
    · exact stop j x h hx
    have hl := hx.1
    have := ih (j + 1) (x.set (j : Int).toNat (wrap64 (rd x (j : Int) + 1))) (by omega) (Wants_set hx _ j (by omega) (fun k => by
      by_cases e : (j : Int) = k
      · rw [if_pos e, if_pos (by omega), if_neg (by omega)]; omega
      · rw [if_neg e]
        by_cases e2 : (j : Int) ≤ k ∧ k < (rd_T49 r (i : Int)).f1
        · rw [if_pos e2, if_pos (by omega)]; omega
        · rw [if_neg e2, if_neg (by omega)]; omega))
    have c3 := tt (show ((j : Int) < (rd_T49 r (i : Int)).f1) by omega)
    have c4 := tt (show (0 : Int) ≤ (j : Int) by omega)
    have c5 := tt (show (j : Int) < (x.length : Int) by omega)
    have b1 : j + 1 ≤ 1000000000000 := by omega
    refine evs ?_
    simp only [parallaxlaw15_AlignAll.l2, c1, c2, c3, c4, c5, wsucc b1, if_true]
    exact this
theorem All_l1 (a b : List S24) (r : List S49) (ha : a.length ≤ 1000) (hb : b.length ≤ 1000) (hr : r.length ≤ 5000) (hm : ∀ z ∈ r, 0 ≤ z.f0 ∧ z.f1 ≤ (a.length : Int) ∧ 0 ≤ z.f2 ∧ z.f3 ≤ (b.length : Int)) : ∀ (d i : Nat) (x y : List Int), i + d = r.length →
    Wants x a.length (inR S49.f0 S49.f1 (r.drop i)) → Wants y b.length (inR S49.f2 S49.f3 (r.drop i)) → Ev (fun k => parallaxlaw15_AlignAll.l1 k a b r x y (i : Int)) true := by
  intro d
  induction d with
  | zero =>
    intro i x y hi hx hy
    obtain rfl : i = r.length := by omega
    rw [List.drop_length] at hx hy
    have c1 := ff (Int.lt_irrefl (r.length : Int))
    refine evs ?_
    simp only [parallaxlaw15_AlignAll.l1, c1, if_false]
    exact All_l4 x y a.length b.length ha hb hx hy a.length 0 (Nat.zero_add _)
  | succ d ih =>
    intro i x y hi hx hy
    have hd := drop49 r i (by omega)
    obtain ⟨m1, m2, m3, m4⟩ := hm (rd_T49 r (i : Int)) (List.mem_of_mem_drop (i := i) (by rw [hd]; exact List.mem_cons_self ..))
    rw [hd] at hx hy
    have c1 := tt (show (0 : Int) ≤ (i : Int) by omega)
    have c2 := tt (show (i : Int) < (r.length : Int) by omega)
    obtain ⟨f, hf⟩ : ∃ f : Nat, (rd_T49 r (i : Int)).f0 = (f : Int) := ⟨(rd_T49 r (i : Int)).f0.toNat, by omega⟩
    obtain ⟨g, hg⟩ : ∃ g : Nat, (rd_T49 r (i : Int)).f2 = (g : Int) := ⟨(rd_T49 r (i : Int)).f2.toNat, by omega⟩
    have hx' : Wants x a.length (fun k => (if (f : Int) ≤ k ∧ k < (rd_T49 r (i : Int)).f1 then 1 else 0) + inR S49.f0 S49.f1 (r.drop (i + 1)) k) := by
      rw [← hf]
      exact hx
    have hy' : Wants y b.length (fun k => (if (g : Int) ≤ k ∧ k < (rd_T49 r (i : Int)).f3 then 1 else 0) + inR S49.f2 S49.f3 (r.drop (i + 1)) k) := by
      rw [← hg]
      exact hy
    have run : Ev (fun k => parallaxlaw15_AlignAll.l2 k a b r x y (i : Int) (f : Int)) true :=
      All_l2 a b r ha hb hr i (by omega) m1 m2 y (fun x' hx2 => by
        rw [hg]
        exact All_l3 a b r ha hb hr i (by omega) m3 m4 x' (fun y' hy2 => ih (i + 1) x' y' (by omega) hx2 hy2) ((rd_T49 r (i : Int)).f3).toNat g y (by omega) hy')
        ((rd_T49 r (i : Int)).f1).toNat f x (by omega) hx'
    have go : ∀ z, z = false → Ev (fun k => parallaxlaw15_AlignAll.j2 k a b r x y (i : Int) z) true := by
      rintro z rfl
      have c := ff (show ¬ (false = true) by decide)
      refine evs ?_
      simp only [parallaxlaw15_AlignAll.j2, c, c1, c2, hf, if_true, if_false]
      exact run
    have k1 := ff (show ¬ ((rd_T49 r (i : Int)).f0 < 0) by omega)
    have k2 := ff (show ¬ ((rd_T49 r (i : Int)).f1 > (a.length : Int)) by omega)
    have k3 := ff (show ¬ ((rd_T49 r (i : Int)).f2 < 0) by omega)
    refine evs ?_
    simp only [parallaxlaw15_AlignAll.l1, c1, c2, k1, k2, k3, if_true, if_false]
    exact go _ (decide_eq_false (by omega))
theorem All_l0 (a b : List S24) (l : List S41) (r : List S49) (ha : a.length ≤ 1000) (hb : b.length ≤ 1000) (hl : l.length ≤ 5000) (hr : r.length ≤ 5000) (hm : ∀ z ∈ r, 0 ≤ z.f0 ∧ z.f1 ≤ (a.length : Int) ∧ 0 ≤ z.f2 ∧ z.f3 ≤ (b.length : Int)) (hp : ∀ z ∈ l, 0 ≤ z.f0 ∧ z.f0 < (a.length : Int) ∧ 0 ≤ z.f1 ∧ z.f1 < (b.length : Int)) : ∀ (d i : Nat) (x y : List Int), i + d = l.length →
    Wants x a.length (fun k => inP S41.f0 (l.drop i) k + inR S49.f0 S49.f1 r k) → Wants y b.length (fun k => inP S41.f1 (l.drop i) k + inR S49.f2 S49.f3 r k) → Ev (fun k => parallaxlaw15_AlignAll.l0 k a b l r x y (i : Int)) true := by
  intro d
  induction d with
  | zero =>
    intro i x y hi hx hy
    obtain rfl : i = l.length := by omega
    rw [List.drop_length] at hx hy
    have c1 := ff (Int.lt_irrefl (l.length : Int))
    refine evs ?_
    simp only [parallaxlaw15_AlignAll.l0, c1, if_false]
    exact All_l1 a b r ha hb hr hm r.length 0 x y (Nat.zero_add _) (Wants_eq hx (fun k => by simp [inP])) (Wants_eq hy (fun k => by simp [inP]))
  | succ d ih =>
    intro i x y hi hx hy
    have hd := drop41 l i (by omega)
    obtain ⟨m1, m2, m3, m4⟩ := hp (rd_T41 l (i : Int)) (List.mem_of_mem_drop (i := i) (by rw [hd]; exact List.mem_cons_self ..))
    rw [hd] at hx hy
    have ih := ih (i + 1)
    have c1 := tt (show (0 : Int) ≤ (i : Int) by omega)
    have c2 := tt (show (i : Int) < (l.length : Int) by omega)
    have b1 : i + 1 ≤ 1000000000000 := by omega
    obtain ⟨f, hf⟩ : ∃ f : Nat, (rd_T41 l (i : Int)).f0 = (f : Int) := ⟨(rd_T41 l (i : Int)).f0.toNat, by omega⟩
    obtain ⟨g, hg⟩ : ∃ g : Nat, (rd_T41 l (i : Int)).f1 = (g : Int) := ⟨(rd_T41 l (i : Int)).f1.toNat, by omega⟩
    have lx := hx.1
    have ly := hy.1
    have nx := Wants_set hx (fun k => inP S41.f0 (l.drop (i + 1)) k + inR S49.f0 S49.f1 r k) f (by omega) (fun k => by
      show (if (rd_T41 l (i : Int)).f0 = k then 1 else 0) + _ + _ = _
      rw [hf, Nat.add_assoc])
    have ny := Wants_set hy (fun k => inP S41.f1 (l.drop (i + 1)) k + inR S49.f2 S49.f3 r k) g (by omega) (fun k => by
      show (if (rd_T41 l (i : Int)).f1 = k then 1 else 0) + _ + _ = _
      rw [hg, Nat.add_assoc])
    have := ih _ _ (by omega) nx ny
    have k1 := tt (show (0 : Int) ≤ (f : Int) by omega)
    have k2 := tt (show (f : Int) < (x.length : Int) by omega)
    have k3 := tt (show (0 : Int) ≤ (g : Int) by omega)
    have k4 := tt (show (g : Int) < (y.length : Int) by omega)
    refine evs ?_
    simp only [parallaxlaw15_AlignAll.l0, c1, c2, hf, hg, k1, k2, k3, k4, wsucc b1, if_true]
    exact this
theorem regs_length (n m : Int) : ∀ (l : List S41) (p q : Int), (regs n m p q l).length ≤ l.length + 1
  | [], p, q => by unfold regs hole; split <;> simp
  | x :: l, p, q => by
    have := regs_length n m l (x.f0 + 1) (x.f1 + 1)
    unfold regs hole
    rw [List.length_append]
    simp only [List.length_cons]
    split <;> simp <;> omega
theorem AlignAll : parallaxlaw15_AlignAll.Pure := by
  intro a b lim _ _ hl
  obtain ⟨l0, l1⟩ := wf64 hl
  refine Ev.rounds ?_
  unfold parallaxlaw15_AlignAll.f
  rcases many_or a b with h | ⟨ha, hb, h⟩
  · simp only [h]
    refine Ev.bind (Ev.now _) ?_
    simp only [if_true]
    exact known_fin
  simp only [h]
  refine Ev.bind (Ev.now _) ?_
  have c := ff (show ¬ (false = true) by decide)
  simp only [c, if_false]
  have hM := Match_ok a b lim (by omega) (by omega) l0 l1
  have hLe := L_le a b
  obtain ⟨pa, pb⟩ := pre_le a b
  have hlen : ((Mt a b lim).map p41).length ≤ 1000 := by
    rw [List.length_map, Mt_length]
    split <;> omega
  have hfit := (fit_iff.1 (Mt_fits a b lim)).1
  generalize (Mt a b lim).map p41 = l at hM hlen hfit
  have hR := Regions_ok (a.length : Int) (b.length : Int) l (by omega) (by omega) (by omega)
  rw [wrong_no (by omega) (by omega) hfit, if_pos rfl] at hR
  have hm := regs_mem (a.length : Int) (b.length : Int) l (-1) (-1) (by decide) (by decide) (by omega) (by omega) hfit
  have oA := once_A (a.length : Int) (b.length : Int) l (-1) (-1) hfit
  have oB := once_B (a.length : Int) (b.length : Int) l (-1) (-1) hfit
  have hrl := regs_length (a.length : Int) (b.length : Int) l 0 0
  have z : (-1 : Int) + 1 = 0 := rfl
  rw [z] at hm oA oB
  have hp := up_mem l (-1) (-1) (by decide) (by decide) hfit
  generalize regs (a.length : Int) (b.length : Int) 0 0 l = r at hR hm oA oB hrl
  have c1 := tt (show (0 : Int) ≤ (a.length : Int) by omega)
  have c2 := tt (show (0 : Int) ≤ (b.length : Int) by omega)
  have c3 := tt (show a.length ≤ 35184372088832 by omega)
  have c4 := tt (show b.length ≤ 35184372088832 by omega)
  refine Ev.bind hM (Ev.bind hR ?_)
  simp only [c1, c2, Int.toNat_natCast, c3, c4, if_true]
  refine All_l0 a b l r (by omega) (by omega) (by omega) (by omega) hm hp l.length 0 _ _ (Nat.zero_add _) (Wants_first _ _ fun i hi => ?_) (Wants_first _ _ fun i hi => ?_)
  · show inP S41.f0 (l.drop 0) (i : Int) + _ = 1
    rw [List.drop_zero, oA, if_pos (by omega)]
  · show inP S41.f1 (l.drop 0) (i : Int) + _ = 1
    rw [List.drop_zero, oB, if_pos (by omega)]

end Go.Proofs.Ythbgbeelcnfofaa.Pure
