/- Hunks: gaps with some pairs about them. Plain Lean, and what the program says. -/
import Derived.Test.YthbgbeelcnfofaaPx0
import Derived.Test.YthbgbeelcnfofaaPx12
import Derived.Test.YthbgbeelcnfofaaPx13
import Derived.Test.YthbgbeelcnfofaaQBase
import Derived.Test.YthbgbeelcnfofaaQRegs
-- use: QBase
-- use: QRegs
namespace Go.Proofs.Ythbgbeelcnfofaa.Q
set_option linter.unusedVariables false
set_option linter.unusedSimpArgs false
open Go.RowKit Go.Proofs.YthbgbeelcnfofaaW.PrintWords Go.Proofs.YthbgbeelcnfofaaW.PrintLast Go.Proofs.YthbgbeelcnfofaaW.PrintMore Go.Proofs.Ythbgbeelcnfofaa.P

/-- Gaps that stand behind two places: between any two, before the first and behind the last one stand as many in a as in b. -/
def Gaps (n m : Int) : Int → Int → List S49 → Prop
  | p, q, [] => n - p = m - q
  | p, q, r :: rs => (p ≤ r.f0 ∧ r.f0 - p = r.f2 - q ∧ r.f0 ≤ r.f1 ∧ r.f2 ≤ r.f3 ∧ r.f1 ≤ n ∧ r.f3 ≤ m) ∧ Gaps n m r.f1 r.f3 rs
theorem Gaps_hole (n m p q fa ta fb tb : Int) (rs : List S49) (h1 : p ≤ fa) (h2 : fa - p = fb - q) (h3 : fa ≤ ta) (h4 : fb ≤ tb) (h5 : ta ≤ n) (h6 : tb ≤ m) (h : ∀ p' q', p' ≤ ta → ta - p' = tb - q' → Gaps n m p' q' rs) : Gaps n m p q (hole fa ta fb tb ++ rs) := by
  unfold hole
  by_cases hh : fa < ta ∨ fb < tb
  · rw [if_pos hh]
    exact ⟨⟨h1, h2, h3, h4, h5, h6⟩, h ta tb (Int.le_refl _) (by omega)⟩
  · rw [if_neg hh]
    exact h p q (by omega) (by omega)
theorem regs_Gaps (n m : Int) : ∀ (l : List S41) (p q fa fb : Int), p ≤ fa → fa - p = fb - q → fa ≤ n → fb ≤ m → up n m (fa - 1) (fb - 1) l = true → Gaps n m p q (regs n m fa fb l)
  | [], p, q, fa, fb, h1, h2, h3, h4, _ => by
    have := Gaps_hole n m p q fa n fb m [] h1 h2 h3 h4 (Int.le_refl _) (Int.le_refl _) (fun p' q' a b => by show n - p' = m - q'; omega)
    rwa [List.append_nil] at this
  | x :: l, p, q, fa, fb, h1, h2, h3, h4, hu => by
    obtain ⟨⟨u1, u2, u3, u4⟩, u5⟩ := up_cons.1 hu
    refine Gaps_hole n m p q fa x.f0 fb x.f1 _ h1 h2 (by omega) (by omega) (by omega) (by omega) (fun p' q' a b => ?_)
    refine regs_Gaps n m l p' q' (x.f0 + 1) (x.f1 + 1) (by omega) (by omega) (by omega) (by omega) ?_
    rw [show x.f0 + 1 - 1 = x.f0 by omega, show x.f1 + 1 - 1 = x.f1 by omega]
    exact u5
/-- Gaps put together where few pairs stand between them. -/
def Mg (c2 : Int) : S49 → List S49 → List S49
  | cur, [] => [cur]
  | cur, r :: rs => if r.f0 - cur.f1 ≤ c2 then Mg c2 ⟨cur.f0, r.f1, cur.f2, r.f3⟩ rs else cur :: Mg c2 r rs
theorem Mg_ne (c2 : Int) : ∀ (rs : List S49) (cur : S49), Mg c2 cur rs ≠ []
  | [], cur => by simp [Mg]
  | r :: rs, cur => by
    unfold Mg
    split
    · exact Mg_ne c2 rs _
    · simp
theorem Mg_length (c2 : Int) : ∀ (rs : List S49) (cur : S49), (Mg c2 cur rs).length ≤ rs.length + 1
  | [], cur => by simp [Mg]
  | r :: rs, cur => by
    unfold Mg
    split
    · have := Mg_length c2 rs ⟨cur.f0, r.f1, cur.f2, r.f3⟩
      simp only [List.length_cons]; omega
    · have := Mg_length c2 rs r
      simp only [List.length_cons]; omega
def mi (a b : Int) : Int := if a < b then a else b
/-- A hunk with its pairs. -/
def ext (n m C : Int) (h : S49) : S49 := ⟨h.f0 - mi C (mi h.f0 h.f2), h.f1 + mi C (mi (n - h.f1) (m - h.f3)), h.f2 - mi C (mi h.f0 h.f2), h.f3 + mi C (mi (n - h.f1) (m - h.f3))⟩
def hunks (n m C : Int) : List S49 → List S49
  | [] => []
  | r :: rs => (Mg (2 * C) r rs).map (ext n m C)
/-- What the program leans on. -/
def HG (n m c : Int) : Bool → List S49 → Prop
  | _, [] => True
  | first, h :: hs => (0 ≤ h.f0 ∧ h.f0 ≤ n ∧ 0 ≤ h.f2 ∧ h.f2 ≤ m ∧ 0 ≤ h.f1 ∧ h.f1 ≤ n ∧ 0 ≤ h.f3 ∧ h.f3 ≤ m) ∧ (first = true → h.f0 = h.f2) ∧ (first = false → c ≤ h.f0 ∧ c ≤ h.f2) ∧ (hs = [] → n - h.f1 = m - h.f3) ∧ (hs ≠ [] → c ≤ n - h.f1 ∧ c ≤ m - h.f3) ∧ HG n m c false hs
theorem Mg_HG (n m c : Int) (hc : 0 ≤ c) : ∀ (rs : List S49) (cur : S49) (first : Bool), (0 ≤ cur.f0 ∧ cur.f0 ≤ n ∧ 0 ≤ cur.f2 ∧ cur.f2 ≤ m ∧ 0 ≤ cur.f1 ∧ cur.f1 ≤ n ∧ 0 ≤ cur.f3 ∧ cur.f3 ≤ m) → (first = true → cur.f0 = cur.f2) → (first = false → c ≤ cur.f0 ∧ c ≤ cur.f2) → Gaps n m cur.f1 cur.f3 rs → HG n m c first (Mg (2 * mi c n) cur rs)
  | [], cur, first, hb, h1, h2, hg => ⟨hb, h1, h2, fun _ => hg, fun h => absurd rfl h, trivial⟩
  | r :: rs, cur, first, hb, h1, h2, hg => by
    obtain ⟨⟨g1, g2, g3, g4, g5, g6⟩, g7⟩ := hg
    unfold Mg
    split
    case isTrue h =>
      exact Mg_HG n m c hc rs _ first (by simp only; omega) h1 h2 g7
    case isFalse h =>
      have e : mi c n = c ∧ 2 * c < r.f0 - cur.f1 := by
        unfold mi at h ⊢
        split at h
        · rename_i h5
          rw [if_pos h5]
          exact ⟨rfl, by omega⟩
        · omega
      refine ⟨hb, h1, h2, fun h => absurd h (Mg_ne _ _ _), fun _ => by omega, Mg_HG n m c hc rs r false (by omega) (fun h => by cases h) (fun _ => by omega) g7⟩
theorem rd49_mid (a b : List S49) (x : S49) : rd_T49 (a ++ x :: b) (a.length : Int) = x := by simp [rd_T49, List.getD]
theorem set49_mid (a b : List S49) (x y : S49) : (a ++ x :: b).set a.length y = a ++ y :: b := by simp
theorem mn_mi (a b : Int) : mn a b = mi a b := by unfold mn mi; split <;> split <;> omega
theorem Hunks_last (n m c : Int) (hn : n ≤ 1000000) (hm : m ≤ 1000000) (hc : 0 ≤ c) (hc2 : c ≤ 9223372036854775807) : ∀ (S D : List S49), D.length + S.length ≤ 1000000 → HG n m c (D.isEmpty) S →
    Ev (fun k => align_Hunks.l1 k n c (D ++ S) ((D.length + S.length : Nat) : Int) (D.length : Int)) (D ++ S.map (ext n m (mi c n)), 0)
  | [], D, hl, _ => by
    have c1 := ff (show ¬ ((D.length : Int) < ((D.length + ([] : List S49).length : Nat) : Int)) by simp)
    refine evs ?_
    simp only [align_Hunks.l1, c1, if_false, List.append_nil, List.map_nil]
    exact Ev.now _
  | h :: S, D, hl, hg => by
    obtain ⟨⟨b1, b2, b3, b4, b5, b6, b7, b8⟩, g1, g2, g3, g4, g5⟩ := hg
    rw [List.length_cons] at hl
    have ih := Hunks_last n m c hn hm hc hc2 S (D ++ [ext n m (mi c n) h]) (by rw [List.length_append, List.length_singleton]; omega) (by
      have : (D ++ [ext n m (mi c n) h]).isEmpty = false := by simp
      rw [this]
      exact g5)
    rw [List.length_append, List.length_singleton, List.append_assoc, List.append_assoc, List.singleton_append, List.singleton_append, show D.length + 1 + S.length = D.length + (h :: S).length by rw [List.length_cons]; omega] at ih
    have c1 := tt (show (D.length : Int) < ((D.length + (h :: S).length : Nat) : Int) by rw [List.length_cons]; omega)
    have c2 := tt (show (0 : Int) ≤ (D.length : Int) by omega)
    have c3 := tt (show (D.length : Int) < ((D ++ h :: S).length : Int) by simp only [List.length_append, List.length_cons]; omega)
    have e0 : (((D ++ h :: S).length : Nat) : Int) - 1 = ((D.length + S.length : Nat) : Int) := by simp only [List.length_append, List.length_cons]; omega
    have c4 : wrap64 (((D ++ h :: S).length : Int) - 1) = ((D.length + S.length : Nat) : Int) := by rw [e0, w64 (by omega) (by omega)]
    have b9 : D.length + 1 ≤ 1000000000000 := by omega
    have e1 := rd49_mid D S h
    have step : ∀ z : S49, z = ext n m (mi c n) h → Ev (fun k => align_Hunks.l1 k n c ((D ++ h :: S).set D.length z) ((D.length + (h :: S).length : Nat) : Int) ((D.length + 1 : Nat) : Int)) (D ++ (h :: S).map (ext n m (mi c n)), 0) := by
      rintro z rfl
      rw [set49_mid, List.map_cons]
      exact ih
    have wn : wrap64 (n - h.f1) = n - h.f1 := w64 (by omega) (by omega)
    have hS : S = [] ∨ S ≠ [] := by
      cases S with
      | nil => exact .inl rfl
      | cons x S => exact .inr (fun h => by cases h)
    have a1 : D = [] → h.f0 = h.f2 := fun hd => g1 (by rw [hd]; rfl)
    have a2 : D ≠ [] → c ≤ h.f0 ∧ c ≤ h.f2 := fun hd => g2 (by cases D with | nil => exact absurd rfl hd | cons x D => rfl)
    have mm1 : 0 ≤ mi c h.f0 ∧ mi c h.f0 ≤ h.f0 := by unfold mi; split <;> omega
    have mm2 : 0 ≤ mi c (n - h.f1) ∧ mi c (n - h.f1) ≤ n - h.f1 := by unfold mi; split <;> omega
    have xA : D = [] → mi (mi c n) (mi h.f0 h.f2) = mi c h.f0 := fun hd => by
      have := a1 hd
      unfold mi
      (repeat' split) <;> omega
    have xA' : D ≠ [] → mi (mi c n) (mi h.f0 h.f2) = c := fun hd => by
      have := a2 hd
      unfold mi
      (repeat' split) <;> omega
    have xB : S = [] → mi (mi c n) (mi (n - h.f1) (m - h.f3)) = mi c (n - h.f1) := fun hd => by
      have := g3 hd
      unfold mi
      (repeat' split) <;> omega
    have xB' : S ≠ [] → mi (mi c n) (mi (n - h.f1) (m - h.f3)) = c := fun hd => by
      have := g4 hd
      unfold mi
      (repeat' split) <;> omega
    refine evs ?_
    by_cases hd : D = []
    · have hd0 : D.length = 0 := by rw [hd]; rfl
      have k1 := tt (show (D.length : Int) = 0 by omega)
      have y1 := xA hd
      have y2 := a1 hd
      rcases hS with hs | hs
      · have hs0 : S.length = 0 := by rw [hs]; rfl
        have k2 := tt (show (D.length : Int) = ((D.length + S.length : Nat) : Int) by omega)
        have y3 := xB hs
        have y4 := g3 hs
        have v1 : wrap64 (h.f0 - (mi c h.f0)) = h.f0 - (mi c h.f0) := w64 (by omega) (by omega)
        have v2 : wrap64 (h.f2 - (mi c h.f0)) = h.f2 - (mi c h.f0) := w64 (by omega) (by omega)
        have v3 : wrap64 (h.f1 + (mi c (n - h.f1))) = h.f1 + (mi c (n - h.f1)) := w64 (by omega) (by omega)
        have v4 : wrap64 (h.f3 + (mi c (n - h.f1))) = h.f3 + (mi c (n - h.f1)) := w64 (by omega) (by omega)
        simp only [align_Hunks.l1, c1, k1, c2, c3, c4, k2, e1, mn_mi, wn, v1, v2, v3, v4, wsucc b9, Int.toNat_natCast, if_true, if_false]
        exact step _ (by unfold ext; rw [y1, y3])
      · have hs0 : S.length ≠ 0 := fun e => hs (List.eq_nil_of_length_eq_zero e)
        have k2 := ff (show ¬ (D.length : Int) = ((D.length + S.length : Nat) : Int) by omega)
        have y3 := xB' hs
        have y4 := g4 hs
        have v1 : wrap64 (h.f0 - (mi c h.f0)) = h.f0 - (mi c h.f0) := w64 (by omega) (by omega)
        have v2 : wrap64 (h.f2 - (mi c h.f0)) = h.f2 - (mi c h.f0) := w64 (by omega) (by omega)
        have v3 : wrap64 (h.f1 + c) = h.f1 + c := w64 (by omega) (by omega)
        have v4 : wrap64 (h.f3 + c) = h.f3 + c := w64 (by omega) (by omega)
        simp only [align_Hunks.l1, c1, k1, c2, c3, c4, k2, e1, mn_mi, wn, v1, v2, v3, v4, wsucc b9, Int.toNat_natCast, if_true, if_false]
        exact step _ (by unfold ext; rw [y1, y3])
    · have hd0 : D.length ≠ 0 := fun e => hd (List.eq_nil_of_length_eq_zero e)
      have k1 := ff (show ¬ (D.length : Int) = 0 by omega)
      have y1 := xA' hd
      have y2 := a2 hd
      rcases hS with hs | hs
      · have hs0 : S.length = 0 := by rw [hs]; rfl
        have k2 := tt (show (D.length : Int) = ((D.length + S.length : Nat) : Int) by omega)
        have y3 := xB hs
        have y4 := g3 hs
        have v1 : wrap64 (h.f0 - c) = h.f0 - c := w64 (by omega) (by omega)
        have v2 : wrap64 (h.f2 - c) = h.f2 - c := w64 (by omega) (by omega)
        have v3 : wrap64 (h.f1 + (mi c (n - h.f1))) = h.f1 + (mi c (n - h.f1)) := w64 (by omega) (by omega)
        have v4 : wrap64 (h.f3 + (mi c (n - h.f1))) = h.f3 + (mi c (n - h.f1)) := w64 (by omega) (by omega)
        simp only [align_Hunks.l1, c1, k1, c2, c3, c4, k2, e1, mn_mi, wn, v1, v2, v3, v4, wsucc b9, Int.toNat_natCast, if_true, if_false]
        exact step _ (by unfold ext; rw [y1, y3])
      · have hs0 : S.length ≠ 0 := fun e => hs (List.eq_nil_of_length_eq_zero e)
        have k2 := ff (show ¬ (D.length : Int) = ((D.length + S.length : Nat) : Int) by omega)
        have y3 := xB' hs
        have y4 := g4 hs
        have v1 : wrap64 (h.f0 - c) = h.f0 - c := w64 (by omega) (by omega)
        have v2 : wrap64 (h.f2 - c) = h.f2 - c := w64 (by omega) (by omega)
        have v3 : wrap64 (h.f1 + c) = h.f1 + c := w64 (by omega) (by omega)
        have v4 : wrap64 (h.f3 + c) = h.f3 + c := w64 (by omega) (by omega)
        simp only [align_Hunks.l1, c1, k1, c2, c3, c4, k2, e1, mn_mi, wn, v1, v2, v3, v4, wsucc b9, Int.toNat_natCast, if_true, if_false]
        exact step _ (by unfold ext; rw [y1, y3])
theorem twice_ok (c : Int) (hc : 0 ≤ c) : align_twice.f c = some (if c > 1099511627776 then 2199023255552 else 2 * c) := by
  unfold align_twice.f
  by_cases h : c > 1099511627776
  · rw [if_pos h, if_pos h]
  · rw [if_neg h, if_neg h, w64 (by omega) (by omega)]
/-- The first walk: from the second gap on. -/
theorem Hunks_first (n m c : Int) (hn : n ≤ 1000000) (hc : 0 ≤ c) (hc2 : c ≤ 9223372036854775807) (Gs : List S49) (hG : Gs.length ≤ 500000) (R : List S49 × Int) : ∀ (rs P : List S49) (cur : S49) (i : Nat), i + rs.length = Gs.length → 1 ≤ i → P.length ≤ i → Gs.drop i = rs → (0 ≤ cur.f1 ∧ cur.f1 ≤ n) → (∃ q, Gaps n m cur.f1 q rs) →
    Ev (fun k => align_Hunks.l1 k n c (P ++ Mg (2 * mi c n) cur rs) ((P ++ Mg (2 * mi c n) cur rs).length : Int) 0) R →
    Ev (fun k => align_Hunks.l0 k n c (P ++ [cur]) cur.f1 Gs (Gs.length : Int) (i : Int)) R
  | [], P, cur, i, hi, hi1, hP, hd, hb, hg, h => by
    have c1 := ff (show ¬ ((i : Int) < (Gs.length : Int)) by simp only [List.length_nil] at hi; omega)
    refine evs ?_
    simp only [align_Hunks.l0, c1, if_false]
    exact h
  | r :: rs, P, cur, i, hi, hi1, hP, hd, hb, ⟨q, hg⟩, h => by
    obtain ⟨⟨g1, g2, g3, g4, g5, g6⟩, g7⟩ := hg
    rw [List.length_cons] at hi
    have er : rd_T49 Gs (i : Int) = r := by
      have : Gs[i]? = some r := by
        have := congrArg (·[0]?) hd
        simpa using this
      simp [rd_T49, List.getD, this]
    have hd' : Gs.drop (i + 1) = rs := by
      rw [← List.drop_drop, hd]
      rfl
    have c1 := tt (show (i : Int) < (Gs.length : Int) by omega)
    have c2 := tt (show (0 : Int) ≤ (i : Int) by omega)
    have c3 := tt (show (i : Int) > 0 by omega)
    have wd : wrap64 (r.f0 - cur.f1) = r.f0 - cur.f1 := w64 (by omega) (by omega)
    have b1 : i + 1 ≤ 1000000000000 := by omega
    have e0 : (((P ++ [cur]).length : Nat) : Int) - 1 = (P.length : Int) := by simp
    have c4 : wrap64 (((P ++ [cur]).length : Int) - 1) = (P.length : Int) := by rw [e0, w64 (by omega) (by omega)]
    have c5 := tt (show (0 : Int) ≤ (P.length : Int) by omega)
    have c6 := tt (show (P.length : Int) < ((P ++ [cur]).length : Int) by simp only [List.length_append, List.length_singleton]; omega)
    have c7 := tt (show (P ++ [cur]).length < 4398046511104 by simp only [List.length_append, List.length_singleton]; omega)
    have e1 := rd49_mid P [] cur
    have iff : (r.f0 - cur.f1 ≤ if c > 1099511627776 then 2199023255552 else 2 * c) ↔ r.f0 - cur.f1 ≤ 2 * mi c n := by
      unfold mi
      split <;> split <;> omega
    refine evs ?_
    simp only [align_Hunks.l0, c1, c2, c3, er, wd, twice_ok c hc, if_true]
    refine Ev.bind (Ev.now _) ?_
    by_cases hle : r.f0 - cur.f1 ≤ 2 * mi c n
    · have ih := Hunks_first n m c hn hc hc2 Gs hG R rs P ⟨cur.f0, r.f1, cur.f2, r.f3⟩ (i + 1) (by omega) (by omega) (by omega) hd' (by simp only; omega) ⟨r.f3, g7⟩ (by
        unfold Mg at h
        rw [if_pos hle] at h
        exact h)
      simp only [tt (iff.2 hle), c4, c5, c6, e1, Int.toNat_natCast, set49_mid, wsucc b1, if_true]
      exact ih
    · have ih := Hunks_first n m c hn hc hc2 Gs hG R rs (P ++ [cur]) r (i + 1) (by omega) (by omega) (by rw [List.length_append, List.length_singleton]; omega) hd' (by omega) ⟨r.f3, g7⟩ (by
        unfold Mg at h
        rw [if_neg hle] at h
        rw [List.append_assoc]
        exact h)
      simp only [ff (fun h2 => hle (iff.1 h2)), c7, wsucc b1, if_true, if_false]
      exact ih
theorem Hunks_walk (n m c : Int) (hn : n ≤ 1000000) (hm : m ≤ 1000000) (hc : 0 ≤ c) (hc2 : c ≤ 9223372036854775807) (Gs : List S49) (hG : Gs.length ≤ 500000) (hg : Gaps n m 0 0 Gs) (h0 : 0 ≤ n) (h1 : 0 ≤ m) :
    Ev (fun k => align_Hunks.l0 k n c [] 0 Gs (Gs.length : Int) 0) (hunks n m (mi c n) Gs, 0) := by
  have c0 := ff (Int.lt_irrefl 0)
  cases Gs with
  | nil =>
    have c1 := ff (show ¬ ((0 : Int) < ((([] : List S49).length : Nat) : Int)) by simp)
    refine evs ?_
    simp only [align_Hunks.l0, c1, if_false]
    exact Hunks_last n m c hn hm hc hc2 [] [] (by simp) trivial
  | cons r rs =>
    obtain ⟨⟨g1, g2, g3, g4, g5, g6⟩, g7⟩ := hg
    rw [List.length_cons] at hG
    have c1 := tt (show (0 : Int) < (((r :: rs).length : Nat) : Int) by rw [List.length_cons]; omega)
    have c2 := tt (Int.le_refl 0)
    have c3 := tt (show ([] : List S49).length < 4398046511104 by decide)
    have c4 := ff (show ¬ ((0 : Int) > 0) by decide)
    have c5 : wrap64 (0 + 1) = ((1 : Nat) : Int) := by rw [w64 (by decide) (by decide)]; rfl
    have e1 : rd_T49 (r :: rs) 0 = r := rfl
    have hl := Mg_length (2 * mi c n) rs r
    have hh := Mg_HG n m c hc rs r true (by omega) (fun _ => by omega) (fun h => by cases h) g7
    have last := Hunks_last n m c hn hm hc hc2 (Mg (2 * mi c n) r rs) [] (by simp only [List.length_nil]; omega) hh
    have last' : Ev (fun k => align_Hunks.l1 k n c ([] ++ Mg (2 * mi c n) r rs) (([] ++ Mg (2 * mi c n) r rs).length : Int) 0) ((Mg (2 * mi c n) r rs).map (ext n m (mi c n)), 0) := by
      simpa using last
    have := Hunks_first n m c hn hc hc2 (r :: rs) (by rw [List.length_cons]; omega) _ rs [] r 1 (by rw [List.length_cons]; omega) (Nat.le_refl _) (by simp) rfl (by omega) ⟨r.f3, g7⟩ last'
    refine evs ?_
    simp only [align_Hunks.l0, c1, c2, c3, c4, c5, e1, if_true, if_false]
    exact this
theorem regs_len (n m : Int) : ∀ (l : List S41) (p q : Int), (regs n m p q l).length ≤ l.length + 1
  | [], p, q => by unfold regs hole; split <;> simp
  | x :: l, p, q => by
    have := regs_len n m l (x.f0 + 1) (x.f1 + 1)
    unfold regs hole
    rw [List.length_append]
    simp only [List.length_cons]
    split <;> simp <;> omega
def hunksErr (n m c : Int) (l : List S41) : Int := if c < 0 then 1 else wrong n m l
theorem wrong_zero {n m : Int} {l : List S41} (h : wrong n m l = 0) : 0 ≤ n ∧ 0 ≤ m ∧ up n m (-1) (-1) l = true := by
  unfold wrong at h
  split at h
  · cases h
  · split at h
    · exact ⟨by omega, by omega, by assumption⟩
    · cases h
theorem ownHunks_ok (n m c : Int) (l : List S41) (hn : n ≤ 1000000) (hm : m ≤ 1000000) (hc2 : c ≤ 9223372036854775807) (hl : l.length ≤ 400000) :
    Ev (fun k => align_Hunks.f k n m l c) (if hunksErr n m c l = 0 then hunks n m (mi c n) (regs n m 0 0 l) else [], hunksErr n m c l) := by
  unfold align_Hunks.f hunksErr
  by_cases hc : c < 0
  · simp only [tt hc, if_true]
    exact Ev.now _
  simp only [ff hc, if_false]
  refine Ev.bind (Regions_ok n m l (by omega) (by omega) (by omega)) ?_
  by_cases hw : wrong n m l = 0
  · obtain ⟨w1, w2, w3⟩ := wrong_zero hw
    have hL := regs_len n m l 0 0
    have hg := regs_Gaps n m l 0 0 0 0 (Int.le_refl _) rfl w1 w2 w3
    simp only [hw, if_true]
    exact Hunks_walk n m c hn hm (by omega) hc2 _ (by omega) hg w1 w2
  · simp only [ff hw, if_false]
    exact Ev.now _

end Go.Proofs.Ythbgbeelcnfofaa.Q
