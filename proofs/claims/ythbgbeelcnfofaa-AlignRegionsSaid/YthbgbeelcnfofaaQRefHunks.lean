/- The document's hunks are the program's. -/
import Derived.Test.YthbgbeelcnfofaaPx0
import Derived.Test.YthbgbeelcnfofaaPx14
import Derived.Test.YthbgbeelcnfofaaQBase
import Derived.Test.YthbgbeelcnfofaaQHunks
import Derived.Test.YthbgbeelcnfofaaQRefRegs
-- use: QBase
-- use: QHunks
-- use: QRefRegs
namespace Go.Proofs.Ythbgbeelcnfofaa.Q
set_option linter.unusedVariables false
set_option linter.unusedSimpArgs false
open Go.RowKit Go.Proofs.YthbgbeelcnfofaaW.PrintWords Go.Proofs.YthbgbeelcnfofaaW.PrintLast Go.Proofs.YthbgbeelcnfofaaW.PrintMore Go.Proofs.Ythbgbeelcnfofaa.P

/-- What the document does with a gap that has its pairs. -/
def refOut (k : Nat) (x0 x1 x3 : Int) (x10 x12 : List S60) (x13 f0 f1 f2 f3 : Int) : Option (List S60 × Int) :=
  if (wrap64 ((x12.length : Int) - 1)) ≥ 0 then (if 0 ≤ x13 then (if x13 < (x10.length : Int) then (if 0 ≤ (wrap64 (x13 - 1)) then (if (wrap64 (x13 - 1)) < (x10.length : Int) then (if (wrap64 (((rd_T60 x10 x13).f0) - ((rd_T60 x10 (wrap64 (x13 - 1))).f1))) ≤ (wrap64 (2 * x3)) then (if 0 ≤ (wrap64 ((x12.length : Int) - 1)) then (if (wrap64 ((x12.length : Int) - 1)) < (x12.length : Int) then ((some (x12.set ((wrap64 ((x12.length : Int) - 1)) : Int).toNat (⟨(rd_T60 x12 (wrap64 ((x12.length : Int) - 1))).f0, f1, (rd_T60 x12 (wrap64 ((x12.length : Int) - 1))).f2, (rd_T60 x12 (wrap64 ((x12.length : Int) - 1))).f3⟩ : S60) : List (S60))).bind fun y320 => (parallaxref15_Hunks.l0 k x0 x1 x3 x10 (y320.set ((wrap64 ((x12.length : Int) - 1)) : Int).toNat (⟨(rd_T60 y320 (wrap64 ((x12.length : Int) - 1))).f0, (rd_T60 y320 (wrap64 ((x12.length : Int) - 1))).f1, (rd_T60 y320 (wrap64 ((x12.length : Int) - 1))).f2, f3⟩ : S60)) (wrap64 (x13 + 1)))) else (none)) else (none)) else (if x12.length < 4398046511104 then (parallaxref15_Hunks.l0 k x0 x1 x3 x10 (x12 ++ [(⟨f0, f1, f2, f3⟩ : S60)]) (wrap64 (x13 + 1))) else (none))) else (none)) else (none)) else (none)) else (none)) else (if x12.length < 4398046511104 then (parallaxref15_Hunks.l0 k x0 x1 x3 x10 (x12 ++ [(⟨f0, f1, f2, f3⟩ : S60)]) (wrap64 (x13 + 1))) else (none))
theorem ref_after (n m C : Int) (hn : n ≤ 1000000) (hm : m ≤ 1000000) (hC : C ≤ 1000000) (gs out : List S60) (i f0 f2 : Int) (R : List S60 × Int) : ∀ (d : Nat) (x ta tb : Int), C - x ≤ (d : Int) → 0 ≤ x → x ≤ C → 0 ≤ ta → 0 ≤ tb → ta ≤ n → tb ≤ m →
    Ev (fun k => refOut k n m C gs out i f0 (ta + mi (C - x) (mi (n - ta) (m - tb))) f2 (tb + mi (C - x) (mi (n - ta) (m - tb)))) R → Ev (fun k => parallaxref15_Hunks.l2 k n m C gs out i x f0 ta f2 tb) R := by
  have stop : ∀ x ta tb : Int, 0 ≤ x → x ≤ C → ta ≤ n → tb ≤ m → ¬ (x < C ∧ ta < n ∧ tb < m) → mi (C - x) (mi (n - ta) (m - tb)) = 0 := by
    intro x ta tb h1 h2 h3 h4 h5
    unfold mi
    (repeat' split) <;> omega
  have away : ∀ x ta tb : Int, 0 ≤ x → x ≤ C → ta ≤ n → tb ≤ m → ¬ (x < C ∧ ta < n ∧ tb < m) → Ev (fun k => refOut k n m C gs out i f0 (ta + mi (C - x) (mi (n - ta) (m - tb))) f2 (tb + mi (C - x) (mi (n - ta) (m - tb)))) R → Ev (fun k => parallaxref15_Hunks.l2 k n m C gs out i x f0 ta f2 tb) R := by
    intro x ta tb h1 h2 h3 h4 h5 h
    rw [stop x ta tb h1 h2 h3 h4 h5, Int.add_zero, Int.add_zero] at h
    refine evs ?_
    by_cases c1 : x < C
    · by_cases c2 : ta < n
      · have c3 : ¬ tb < m := fun c3 => h5 ⟨c1, c2, c3⟩
        simp only [parallaxref15_Hunks.l2, tt c1, tt c2, ff c3, if_true, if_false]
        exact h
      · simp only [parallaxref15_Hunks.l2, tt c1, ff c2, if_true, if_false]
        exact h
    · simp only [parallaxref15_Hunks.l2, ff c1, if_true, if_false]
      exact h
  intro d
  induction d with
  | zero => exact fun x ta tb hd h1 h2 h3 h4 h5 h6 h => away x ta tb h1 h2 h5 h6 (by omega) h
  | succ d ih =>
    intro x ta tb hd h1 h2 h3 h4 h5 h6 h
    by_cases c : x < C ∧ ta < n ∧ tb < m
    · obtain ⟨c1, c2, c3⟩ := c
      have e : mi (C - x) (mi (n - ta) (m - tb)) = mi (C - (x + 1)) (mi (n - (ta + 1)) (m - (tb + 1))) + 1 := by
        unfold mi
        (repeat' split) <;> omega
      rw [e, show ∀ z : Int, ta + (z + 1) = ta + 1 + z by intro z; omega, show ∀ z : Int, tb + (z + 1) = tb + 1 + z by intro z; omega] at h
      have := ih (x + 1) (ta + 1) (tb + 1) (by omega) (by omega) (by omega) (by omega) (by omega) (by omega) (by omega) h
      have w1 : wrap64 (x + 1) = x + 1 := w64 (by omega) (by omega)
      have w2 : wrap64 (ta + 1) = ta + 1 := w64 (by omega) (by omega)
      have w3 : wrap64 (tb + 1) = tb + 1 := w64 (by omega) (by omega)
      refine evs ?_
      simp only [parallaxref15_Hunks.l2, tt c1, tt c2, tt c3, w1, w2, w3, if_true]
      exact this
    · exact away x ta tb h1 h2 h5 h6 c h
theorem ref_ahead (n m C : Int) (hC : C ≤ 1000000) (gs out : List S60) (i ta tb : Int) (R : List S60 × Int) : ∀ (d : Nat) (x fa fb : Int), C - x ≤ (d : Int) → 0 ≤ x → x ≤ C → 0 ≤ fa → 0 ≤ fb → fa ≤ 1000000 → fb ≤ 1000000 →
    Ev (fun k => parallaxref15_Hunks.j4 k n m C gs out i (fa - mi (C - x) (mi fa fb)) ta (fb - mi (C - x) (mi fa fb)) tb) R → Ev (fun k => parallaxref15_Hunks.l1 k n m C gs out i x fa ta fb tb) R := by
  have stop : ∀ x fa fb : Int, 0 ≤ x → x ≤ C → 0 ≤ fa → 0 ≤ fb → ¬ (x < C ∧ fa > 0 ∧ fb > 0) → mi (C - x) (mi fa fb) = 0 := by
    intro x fa fb h1 h2 h3 h4 h5
    unfold mi
    (repeat' split) <;> omega
  have away : ∀ x fa fb : Int, 0 ≤ x → x ≤ C → 0 ≤ fa → 0 ≤ fb → ¬ (x < C ∧ fa > 0 ∧ fb > 0) → Ev (fun k => parallaxref15_Hunks.j4 k n m C gs out i (fa - mi (C - x) (mi fa fb)) ta (fb - mi (C - x) (mi fa fb)) tb) R → Ev (fun k => parallaxref15_Hunks.l1 k n m C gs out i x fa ta fb tb) R := by
    intro x fa fb h1 h2 h3 h4 h5 h
    rw [stop x fa fb h1 h2 h3 h4 h5, Int.sub_zero, Int.sub_zero] at h
    refine evs ?_
    by_cases c1 : x < C
    · by_cases c2 : fa > 0
      · have c3 : ¬ fb > 0 := fun c3 => h5 ⟨c1, c2, c3⟩
        simp only [parallaxref15_Hunks.l1, tt c1, tt c2, ff c3, if_true, if_false]
        exact h
      · simp only [parallaxref15_Hunks.l1, tt c1, ff c2, if_true, if_false]
        exact h
    · simp only [parallaxref15_Hunks.l1, ff c1, if_true, if_false]
      exact h
  intro d
  induction d with
  | zero => exact fun x fa fb hd h1 h2 h3 h4 h5 h6 h => away x fa fb h1 h2 h3 h4 (by omega) h
  | succ d ih =>
    intro x fa fb hd h1 h2 h3 h4 h5 h6 h
    by_cases c : x < C ∧ fa > 0 ∧ fb > 0
    · obtain ⟨c1, c2, c3⟩ := c
      have e : mi (C - x) (mi fa fb) = mi (C - (x + 1)) (mi (fa - 1) (fb - 1)) + 1 := by
        unfold mi
        (repeat' split) <;> omega
      rw [e, show ∀ z : Int, fa - (z + 1) = fa - 1 - z by intro z; omega, show ∀ z : Int, fb - (z + 1) = fb - 1 - z by intro z; omega] at h
      have := ih (x + 1) (fa - 1) (fb - 1) (by omega) (by omega) (by omega) (by omega) (by omega) (by omega) (by omega) h
      have w1 : wrap64 (x + 1) = x + 1 := w64 (by omega) (by omega)
      have w2 : wrap64 (fa - 1) = fa - 1 := w64 (by omega) (by omega)
      have w3 : wrap64 (fb - 1) = fb - 1 := w64 (by omega) (by omega)
      refine evs ?_
      simp only [parallaxref15_Hunks.l1, tt c1, tt c2, tt c3, w1, w2, w3, if_true]
      exact this
    · exact away x fa fb h1 h2 h3 h4 c h
theorem ref_step (n m C : Int) (hn : n ≤ 1000000) (hm : m ≤ 1000000) (hC0 : 0 ≤ C) (hC : C ≤ 1000000) (gs out : List S60) (i : Nat) (hi : i < gs.length) (r : S49) (hr : rd_T60 gs (i : Int) = o60 r) (b : 0 ≤ r.f0 ∧ r.f0 ≤ n ∧ 0 ≤ r.f1 ∧ r.f1 ≤ n ∧ 0 ≤ r.f2 ∧ r.f2 ≤ m ∧ 0 ≤ r.f3 ∧ r.f3 ≤ m) (R : List S60 × Int)
    (h : Ev (fun k => refOut k n m C gs out (i : Int) (ext n m C r).f0 (ext n m C r).f1 (ext n m C r).f2 (ext n m C r).f3) R) : Ev (fun k => parallaxref15_Hunks.l0 k n m C gs out (i : Int)) R := by
  have c1 := tt (show (i : Int) < (gs.length : Int) by omega)
  have c2 := tt (show (0 : Int) ≤ (i : Int) by omega)
  have h2 := ref_after n m C hn hm hC gs out (i : Int) (ext n m C r).f0 (ext n m C r).f2 R C.toNat 0 r.f1 r.f3 (by omega) (Int.le_refl _) hC0 (by omega) (by omega) (by omega) (by omega) (by rw [Int.sub_zero]; exact h)
  have h3 : Ev (fun k => parallaxref15_Hunks.j4 k n m C gs out (i : Int) (ext n m C r).f0 r.f1 (ext n m C r).f2 r.f3) R := by
    refine evs ?_
    simp only [parallaxref15_Hunks.j4]
    exact h2
  have h4 := ref_ahead n m C hC gs out (i : Int) r.f1 r.f3 R C.toNat 0 r.f0 r.f2 (by omega) (Int.le_refl _) hC0 (by omega) (by omega) (by omega) (by omega) (by rw [Int.sub_zero]; exact h3)
  refine evs ?_
  simp only [parallaxref15_Hunks.l0, c1, c2, hr, o60, if_true]
  exact h4
theorem rd60_at (l : List S49) (i : Nat) (r : S49) (h : l[i]? = some r) : rd_T60 (l.map o60) (i : Int) = o60 r := by simp [rd_T60, List.getD, h]
theorem rd60_mid (a b : List S60) (x : S60) : rd_T60 (a ++ x :: b) (a.length : Int) = x := by simp [rd_T60, List.getD]
theorem set60_mid (a b : List S60) (x y : S60) : (a ++ x :: b).set a.length y = a ++ y :: b := by simp
theorem ref_first (n m C : Int) (hn : n ≤ 1000000) (hm : m ≤ 1000000) (hC0 : 0 ≤ C) (hC : C ≤ 1000000) (Gs : List S49) (hG : Gs.length ≤ 500000) : ∀ (rs P : List S49) (cur prev : S49) (i : Nat), i + 1 + rs.length = Gs.length → P.length ≤ i → Gs.drop i = prev :: rs → prev.f1 = cur.f1 → (0 ≤ cur.f1 ∧ cur.f1 ≤ n ∧ 0 ≤ cur.f3 ∧ cur.f3 ≤ m) → Gaps n m cur.f1 cur.f3 rs →
    Ev (fun k => parallaxref15_Hunks.l0 k n m C (Gs.map o60) ((P ++ [ext n m C cur]).map o60) ((i + 1 : Nat) : Int)) ((P ++ (Mg (2 * C) cur rs).map (ext n m C)).map o60, 0)
  | [], P, cur, prev, i, hi, hP, hd, he, hb, hg => by
    have c1 := ff (show ¬ (((i + 1 : Nat) : Int) < ((Gs.map o60).length : Int)) by rw [List.length_map]; simp only [List.length_nil] at hi; omega)
    refine evs ?_
    simp only [parallaxref15_Hunks.l0, c1, if_false]
    exact Ev.now _
  | r :: rs, P, cur, prev, i, hi, hP, hd, he, hb, hg => by
    obtain ⟨⟨g1, g2, g3, g4, g5, g6⟩, g7⟩ := hg
    rw [List.length_cons] at hi
    have e0 : Gs[i]? = some prev := by
      have := congrArg (·[0]?) hd
      simpa using this
    have e1 : Gs[i + 1]? = some r := by
      have := congrArg (·[1]?) hd
      simpa using this
    have hd' : Gs.drop (i + 1) = r :: rs := by
      rw [← List.drop_drop, hd]
      rfl
    refine ref_step n m C hn hm hC0 hC _ _ (i + 1) (by rw [List.length_map]; omega) r (rd60_at Gs (i + 1) r e1) (by omega) _ ?_
    have lm : ((P ++ [ext n m C cur]).map o60).length = P.length + 1 := by simp
    have w0 : wrap64 ((((P ++ [ext n m C cur]).map o60).length : Int) - 1) = (P.length : Int) := by rw [lm, w64 (by omega) (by omega)]; omega
    have w1 : wrap64 (((i + 1 : Nat) : Int) - 1) = (i : Int) := by rw [w64 (by omega) (by omega)]; omega
    have c1 := tt (show (P.length : Int) ≥ 0 by omega)
    have c1' := tt (show (0 : Int) ≤ (P.length : Int) by omega)
    have c2 := tt (show (0 : Int) ≤ ((i + 1 : Nat) : Int) by omega)
    have c3 := tt (show ((i + 1 : Nat) : Int) < ((Gs.map o60).length : Int) by rw [List.length_map]; omega)
    have c4 := tt (show (0 : Int) ≤ (i : Int) by omega)
    have c5 := tt (show (i : Int) < ((Gs.map o60).length : Int) by rw [List.length_map]; omega)
    have c6 := tt (show (P.length : Int) < (((P ++ [ext n m C cur]).map o60).length : Int) by rw [lm]; omega)
    have c7 := tt (show ((P ++ [ext n m C cur]).map o60).length < 4398046511104 by rw [lm]; omega)
    have r1 : (rd_T60 (Gs.map o60) ((i + 1 : Nat) : Int)).f0 = r.f0 := by rw [rd60_at Gs (i + 1) r e1]; rfl
    have r0 : (rd_T60 (Gs.map o60) (i : Int)).f1 = cur.f1 := by rw [rd60_at Gs i prev e0]; exact he
    have wd : wrap64 (r.f0 - cur.f1) = r.f0 - cur.f1 := w64 (by omega) (by omega)
    have w2 : wrap64 (2 * C) = 2 * C := w64 (by omega) (by omega)
    have b1 : i + 1 + 1 ≤ 1000000000000 := by omega
    have pl : (P.map o60).length = P.length := List.length_map ..
    have s0 : (P ++ [ext n m C cur]).map o60 = P.map o60 ++ [o60 (ext n m C cur)] := by simp
    unfold refOut
    by_cases hle : r.f0 - cur.f1 ≤ 2 * C
    · have ih := ref_first n m C hn hm hC0 hC Gs hG rs P ⟨cur.f0, r.f1, cur.f2, r.f3⟩ r (i + 1) (by omega) (by omega) hd' rfl (by simp only; omega) g7
      simp only [w0, w1, c1, c1', c2, c3, c4, c5, c6, r1, r0, wd, w2, tt hle, if_true]
      refine Ev.bind (Ev.now _) ?_
      unfold Mg
      rw [if_pos hle]
      have q0 : rd_T60 ((P ++ [ext n m C cur]).map o60) (P.length : Int) = o60 (ext n m C cur) := by rw [s0, ← pl]; exact rd60_mid _ _ _
      have q1 : ∀ z : S60, ((P ++ [ext n m C cur]).map o60).set P.length z = P.map o60 ++ [z] := fun z => by rw [s0, ← pl]; exact set60_mid _ _ _ _
      have q2 : ∀ z : S60, rd_T60 (P.map o60 ++ [z]) (P.length : Int) = z := fun z => by rw [← pl]; exact rd60_mid _ _ _
      have q3 : ∀ y z : S60, (P.map o60 ++ [y]).set P.length z = P.map o60 ++ [z] := fun y z => by rw [← pl]; exact set60_mid _ _ _ _
      simp only [q0, q1, q2, q3, Int.toNat_natCast, wsucc b1]
      rw [show (P ++ [ext n m C ⟨cur.f0, r.f1, cur.f2, r.f3⟩]).map o60 = P.map o60 ++ [o60 (ext n m C ⟨cur.f0, r.f1, cur.f2, r.f3⟩)] by simp] at ih
      exact ih
    · have ih := ref_first n m C hn hm hC0 hC Gs hG rs (P ++ [ext n m C cur]) r r (i + 1) (by omega) (by rw [List.length_append, List.length_singleton]; omega) hd' rfl (by omega) g7
      simp only [w0, w1, c1, c1', c2, c3, c4, c5, c6, c7, r1, r0, wd, w2, ff hle, wsucc b1, if_true, if_false]
      unfold Mg
      rw [if_neg hle]
      rw [show (P ++ [ext n m C cur] ++ [ext n m C r]).map o60 = (P ++ [ext n m C cur]).map o60 ++ [o60 (ext n m C r)] by simp] at ih
      rw [List.map_cons, show P ++ ext n m C cur :: (Mg (2 * C) r rs).map (ext n m C) = P ++ [ext n m C cur] ++ (Mg (2 * C) r rs).map (ext n m C) by simp]
      exact ih
theorem ref_walk (n m C : Int) (hn : n ≤ 1000000) (hm : m ≤ 1000000) (hC0 : 0 ≤ C) (hC : C ≤ 1000000) (Gs : List S49) (hG : Gs.length ≤ 400000) (hg : Gaps n m 0 0 Gs) (h0 : 0 ≤ n) (h1 : 0 ≤ m) :
    Ev (fun k => parallaxref15_Hunks.l0 k n m C (Gs.map o60) [] 0) ((hunks n m C Gs).map o60, 0) := by
  cases Gs with
  | nil =>
    have c1 := ff (show ¬ ((0 : Int) < ((([] : List S49).map o60).length : Int)) by simp)
    refine evs ?_
    simp only [parallaxref15_Hunks.l0, c1, if_false]
    exact Ev.now _
  | cons r rs =>
    obtain ⟨⟨g1, g2, g3, g4, g5, g6⟩, g7⟩ := hg
    have hG' := hG
    rw [List.length_cons] at hG'
    refine ref_step n m C hn hm hC0 hC _ _ 0 (by simp) r rfl (by omega) _ ?_
    have w0 : wrap64 (((([] : List S60).length : Nat) : Int) - 1) = -1 := by rw [w64 (by decide) (by decide)]; rfl
    have c1 := ff (show ¬ ((-1 : Int) ≥ 0) by decide)
    have c7 := tt (show ([] : List S60).length < 4398046511104 by decide)
    have b1 : 0 + 1 ≤ 1000000000000 := by decide
    unfold refOut
    simp only [w0, c1, c7, wsucc b1, if_true, if_false]
    exact ref_first n m C hn hm hC0 hC (r :: rs) (by omega) rs [] r r 0 (by rw [List.length_cons]; omega) (Nat.le_refl _) rfl rfl (by omega) g7
theorem refHunks_ok (n m c : Int) (l : List S67) (hn : n ≤ 1000000) (hm : m ≤ 1000000) (hc2 : c ≤ 9223372036854775807) (hl : l.length ≤ 300000) :
    Ev (fun k => parallaxref15_Hunks.f k n m l c) ((if hunksErr n m c (l.map o41) = 0 then hunks n m (mi c n) (regs n m 0 0 (l.map o41)) else []).map o60, hunksErr n m c (l.map o41)) := by
  have j1 : (n < 0 ∨ m < 0 ∨ c < 0) → Ev (fun k => parallaxref15_Hunks.j0 k n m l c true) ((if hunksErr n m c (l.map o41) = 0 then hunks n m (mi c n) (regs n m 0 0 (l.map o41)) else []).map o60, hunksErr n m c (l.map o41)) := by
    intro h
    have e : hunksErr n m c (l.map o41) = 1 := by
      unfold hunksErr wrong
      by_cases hc : c < 0
      · rw [if_pos hc]
      · rw [if_neg hc, if_pos (show n < 0 ∨ m < 0 by omega)]
    rw [e, if_neg (by decide)]
    refine evs ?_
    simp only [parallaxref15_Hunks.j0, if_true]
    exact Ev.now _
  unfold parallaxref15_Hunks.f
  by_cases h1 : n < 0
  · simp only [tt h1, if_true]
    exact j1 (.inl h1)
  by_cases h2 : m < 0
  · simp only [ff h1, tt h2, if_true, if_false]
    exact j1 (.inr (.inl h2))
  simp only [ff h1, ff h2, if_false]
  by_cases h3 : c < 0
  · rw [decide_eq_true h3]
    exact j1 (.inr (.inr h3))
  rw [decide_eq_false h3]
  have cf := ff (show ¬ (false = true) by decide)
  have e : hunksErr n m c (l.map o41) = wrong n m (l.map o41) := by unfold hunksErr; rw [if_neg h3]
  rw [e]
  refine evs ?_
  simp only [parallaxref15_Hunks.j0, cf, if_false]
  refine Ev.bind (refRegions_ok n m l hn hm (by omega)) ?_
  by_cases hw : wrong n m (l.map o41) = 0
  · obtain ⟨w1, w2, w3⟩ := wrong_zero hw
    have hL := regs_len n m (l.map o41) 0 0
    rw [List.length_map] at hL
    have hg := regs_Gaps n m (l.map o41) 0 0 0 0 (Int.le_refl _) rfl w1 w2 w3
    have go : ∀ C, C = mi c n → Ev (fun k => parallaxref15_Hunks.j1 k n m C ((regs n m 0 0 (l.map o41)).map o60)) ((hunks n m (mi c n) (regs n m 0 0 (l.map o41))).map o60, 0) := by
      rintro C rfl
      refine evs ?_
      simp only [parallaxref15_Hunks.j1]
      exact ref_walk n m (mi c n) hn hm (by unfold mi; split <;> omega) (by unfold mi; split <;> omega) _ (by omega) hg w1 w2
    simp only [hw, if_true]
    by_cases hcn : c > n
    · simp only [tt hcn, if_true]
      exact go _ (by unfold mi; rw [if_neg (by omega)])
    · simp only [ff hcn, if_false]
      exact go _ (by unfold mi; split <;> omega)
  · simp only [ff hw, if_false]
    exact Ev.now _

end Go.Proofs.Ythbgbeelcnfofaa.Q
