/- Both programs' matchings. -/
import Derived.Test.YthbgbeelcnfofaaPx0
import Derived.Test.YthbgbeelcnfofaaPx14
import Derived.Test.YthbgbeelcnfofaaPx15
import Derived.Test.YthbgbeelcnfofaaPx7
import Derived.Test.YthbgbeelcnfofaaQBits
import Derived.Test.YthbgbeelcnfofaaQRefLeast
-- use: QBits
-- use: QRefLeast
namespace Go.Proofs.Ythbgbeelcnfofaa.Q
set_option linter.unusedVariables false
set_option linter.unusedSimpArgs false
open Go.RowKit Go.Proofs.YthbgbeelcnfofaaW.PrintWords Go.Proofs.YthbgbeelcnfofaaW.PrintLast Go.Proofs.YthbgbeelcnfofaaW.PrintMore Go.Proofs.Ythbgbeelcnfofaa.P

/-- The common beginning's pairs. -/
def DG (n : Nat) : List (Nat × Nat) := (List.range n).map (fun i => (i, i))
theorem DG_succ (n : Nat) : DG (n + 1) = DG n ++ [(n, n)] := by simp [DG, List.range_succ]
theorem DG_length (n : Nat) : (DG n).length = n := by simp [DG]
/-- Whether the limit cuts the matching. -/
def cut (a b : List S24) (lim : Int) : Bool := decide (mx 0 lim < (((a.length - pre a b) * (b.length - pre a b) : Nat) : Int))
def Mt (a b : List S24) (lim : Int) : List (Nat × Nat) := if cut a b lim = true then DG (pre a b) else DG (pre a b) ++ G (a.drop (pre a b)) (b.drop (pre a b)) (pre a b) (pre a b)
theorem mx_bounds (x : Int) (h : x ≤ 9223372036854775807) : 0 ≤ mx 0 x ∧ mx 0 x ≤ 9223372036854775807 ∧ x ≤ mx 0 x := by unfold mx; split <;> omega
theorem Mt_length (a b : List S24) (lim : Int) : (Mt a b lim).length = if cut a b lim = true then pre a b else L a b := by
  unfold Mt
  split
  · rw [DG_length]
  · rw [List.length_append, DG_length, G_length, L_pre]
theorem G_len2 (a b : List S24) (p : Nat) (ha : a.length ≤ 1000) : (G (a.drop p) (b.drop p) p p).length ≤ 1000 := by
  rw [G_length]
  have := (L_le (a.drop p) (b.drop p)).1
  rw [List.length_drop] at this
  omega
theorem Match_end (a b : List S24) (lim : Int) (ha : a.length ≤ 1000) (hb : b.length ≤ 1000) (h0 : -9223372036854775808 ≤ lim) (h1 : lim ≤ 9223372036854775807) :
    Ev (fun k => align_Match.l0 k a b lim (pre a b : Int) ((DG (pre a b)).map p41) (pre a b : Int) (pre a b : Int)) ((Mt a b lim).map p41, cut a b lim) := by
  obtain ⟨pa, pb⟩ := pre_le a b
  have gl := G_len2 a b (pre a b) ha
  have hls := least_ok (a.drop (pre a b)) (b.drop (pre a b)) (by rw [List.length_drop]; omega) (by rw [List.length_drop]; omega) (pre a b) (by omega)
  obtain ⟨m0, m1, _⟩ := mx_bounds lim h1
  obtain ⟨C, hC⟩ : ∃ C, C = cut a b lim := ⟨_, rfl⟩
  have hM : Mt a b lim = if C = true then DG (pre a b) else DG (pre a b) ++ G (a.drop (pre a b)) (b.drop (pre a b)) (pre a b) (pre a b) := by rw [hC]; rfl
  rw [hM, ← hC]
  unfold cut at hC
  obtain ⟨p, hp⟩ : ∃ p, p = pre a b := ⟨_, rfl⟩
  rw [← hp] at pa pb gl hls hC ⊢
  clear hM hp
  obtain ⟨X, hX⟩ : ∃ X, X = mx 0 lim := ⟨_, rfl⟩
  rw [← hX] at m0 m1 hC
  have na : wrap64 ((a.length : Int) - (p : Int)) = ((a.length - p : Nat) : Int) := by rw [w64 (by omega) (by omega)]; omega
  have nb : wrap64 ((b.length : Int) - (p : Int)) = ((b.length - p : Nat) : Int) := by rw [w64 (by omega) (by omega)]; omega
  have k1 := ff (Int.lt_irrefl (p : Int))
  have k2 := tt (show (0 : Int) ≤ (p : Int) from Int.natCast_nonneg p)
  have k3 := tt (show (p : Int) ≤ (a.length : Int) from Int.ofNat_le.2 pa)
  have k4 := tt (show (p : Int) ≤ (b.length : Int) from Int.ofNat_le.2 pb)
  have k5 := tt (show ((DG p).map p41).length + ((G (a.drop p) (b.drop p) p p).map p41).length < 8796093022208 by
    rw [List.length_map, List.length_map, DG_length]
    clear na nb
    omega)
  have full : C = false → Ev (fun k => (align_least.f k (a.drop p) (b.drop p) (p : Int)).bind fun t => if ((DG p).map p41).length + t.length < 8796093022208 then some ((DG p).map p41 ++ t, false) else none)
      ((if C = true then DG p else DG p ++ G (a.drop p) (b.drop p) p p).map p41, C) := by
    rintro rfl
    refine Ev.bind hls ?_
    have c := ff (show ¬ (false = true) by decide)
    simp only [k5, c, if_true, if_false, List.map_append]
    exact Ev.now _
  refine evs ?_
  by_cases hN : 0 < a.length - p
  · have c1 := tt (show ((a.length - p : Nat) : Int) > 0 from Int.ofNat_lt.2 hN)
    have c2 := ff (show ¬ ((a.length - p : Nat) : Int) = 0 from fun h => by rw [Int.natCast_eq_zero] at h; rw [h] at hN; exact Nat.lt_irrefl 0 hN)
    have hdiv : X / ((a.length - p : Nat) : Int) < ((b.length - p : Nat) : Int) ↔ X < (((a.length - p) * (b.length - p) : Nat) : Int) := by
      rw [Int.ediv_lt_iff_lt_mul (Int.ofNat_lt.2 hN), ← Int.natCast_mul, Nat.mul_comm]
    have wd : wrap64 (X / ((a.length - p : Nat) : Int)) = X / ((a.length - p : Nat) : Int) := by
      refine w64 ?_ ?_
      · have := Int.ediv_nonneg m0 (Int.natCast_nonneg (a.length - p))
        clear na nb
        omega
      · have := Int.ediv_le_self ((a.length - p : Nat) : Int) m0
        clear na nb
        omega
    by_cases hc : X < (((a.length - p) * (b.length - p) : Nat) : Int)
    · have c3 := tt (show ((b.length - p : Nat) : Int) > X / ((a.length - p : Nat) : Int) from hdiv.2 hc)
      have eC : C = true := by rw [hC]; exact decide_eq_true hc
      subst eC
      simp only [align_Match.l0, k1, na, nb, c1, c2, ← hX, wd, c3, if_true, if_false]
      exact Ev.now _
    · have c3 := ff (show ¬ ((b.length - p : Nat) : Int) > X / ((a.length - p : Nat) : Int) from fun h => hc (hdiv.1 h))
      have eC : C = false := by rw [hC]; exact decide_eq_false hc
      simp only [align_Match.l0, k1, na, nb, c1, c2, ← hX, wd, c3, k2, k3, k4, Int.toNat_natCast, if_true, if_false]
      exact full eC
  · have c1 := ff (show ¬ ((a.length - p : Nat) : Int) > 0 from fun h => hN (Int.ofNat_lt.1 h))
    have eC : C = false := by
      rw [hC, show a.length - p = 0 by clear na nb; omega, Nat.zero_mul]
      exact decide_eq_false (Int.not_lt.2 m0)
    simp only [align_Match.l0, k1, na, nb, c1, k2, k3, k4, Int.toNat_natCast, if_true, if_false]
    exact full eC
theorem Match_loop (a b : List S24) (lim : Int) (ha : a.length ≤ 1000) (hb : b.length ≤ 1000) (h0 : -9223372036854775808 ≤ lim) (h1 : lim ≤ 9223372036854775807) : ∀ (d i : Nat), i + d = pre a b →
    Ev (fun k => align_Match.l0 k a b lim (pre a b : Int) ((DG i).map p41) (pre a b : Int) (i : Int)) ((Mt a b lim).map p41, cut a b lim) := by
  obtain ⟨pa, pb⟩ := pre_le a b
  intro d
  induction d with
  | zero =>
    intro i hi
    obtain rfl : i = pre a b := by omega
    exact Match_end a b lim ha hb h0 h1
  | succ d ih =>
    intro i hi
    have := ih (i + 1) (by omega)
    rw [DG_succ, List.map_append] at this
    have k1 := tt (show (i : Int) < (pre a b : Int) by omega)
    have k2 := tt (show ((DG i).map p41).length < 8796093022208 by rw [List.length_map, DG_length]; omega)
    have b1 : i + 1 ≤ 1000000000000 := by omega
    refine evs ?_
    simp only [align_Match.l0, k1, k2, wsucc b1, if_true]
    exact this
theorem Match_ok (a b : List S24) (lim : Int) (ha : a.length ≤ 1000) (hb : b.length ≤ 1000) (h0 : -9223372036854775808 ≤ lim) (h1 : lim ≤ 9223372036854775807) :
    Ev (fun k => align_Match.f k a b lim) ((Mt a b lim).map p41, cut a b lim) := by
  have hl := Match_loop a b lim ha hb h0 h1 (pre a b) 0 (Nat.zero_add _)
  have j : ∀ n : Int, n = (pre a b : Int) → Ev (fun k => align_Match.j0 k a b lim n) ((Mt a b lim).map p41, cut a b lim) := by
    rintro n rfl
    refine evs ?_
    simp only [align_Match.j0]
    exact hl
  unfold align_Match.f
  refine Ev.bind (Parting_ok a b (by omega) (by omega)) ?_
  by_cases h : pre a b = a.length ∧ pre a b = b.length
  · have e : part a b = -1 := by unfold part; rw [if_pos h]
    have c := tt (show (-1 : Int) < 0 by decide)
    simp only [e, c, if_true]
    exact j _ (congrArg _ h.1.symm)
  · have e : part a b = (pre a b : Int) := by unfold part; rw [if_neg h]
    have c := ff (show ¬ ((pre a b : Int) < 0) from Int.not_lt.2 (Int.natCast_nonneg _))
    simp only [e, c, if_false]
    exact j _ rfl
theorem refMatch_end (a b : List S24) (lim : Int) (ha : a.length ≤ 1000) (hb : b.length ≤ 1000) (h0 : -9223372036854775808 ≤ lim) (h1 : lim ≤ 9223372036854775807) :
    Ev (fun k => parallaxref15_Match.l0 k a b lim (pre a b : Int) ((DG (pre a b)).map p67) (pre a b : Int)) ((Mt a b lim).map p67, cut a b lim) := by
  obtain ⟨pa, pb⟩ := pre_le a b
  have gl := G_len2 a b (pre a b) ha
  have hls := refLeast_ok a b (pre a b) ha hb pa pb
  have hmul : (a.length - pre a b) * (b.length - pre a b) ≤ 1000 * 1000 := Nat.mul_le_mul (by omega) (by omega)
  obtain ⟨C, hC⟩ : ∃ C, C = cut a b lim := ⟨_, rfl⟩
  have hM : Mt a b lim = if C = true then DG (pre a b) else DG (pre a b) ++ G (a.drop (pre a b)) (b.drop (pre a b)) (pre a b) (pre a b) := by rw [hC]; rfl
  rw [hM, ← hC]
  unfold cut at hC
  obtain ⟨p, hp⟩ : ∃ p, p = pre a b := ⟨_, rfl⟩
  rw [← hp] at pa pb gl hls hC hmul ⊢
  clear hM hp
  obtain ⟨Y, hY⟩ : ∃ Y, Y = (a.length - p) * (b.length - p) := ⟨_, rfl⟩
  rw [← hY] at hC hmul
  have k5 := tt (show ((DG p).map p67).length + ((G (a.drop p) (b.drop p) p p).map p67).length < 8796093022208 by
    rw [List.length_map, List.length_map, DG_length]
    omega)
  have na : wrap64 ((a.length : Int) - (p : Int)) = ((a.length - p : Nat) : Int) := by rw [w64 (by omega) (by omega)]; omega
  have nb : wrap64 ((b.length : Int) - (p : Int)) = ((b.length - p : Nat) : Int) := by rw [w64 (by omega) (by omega)]; omega
  have wm : wrap64 (((a.length - p : Nat) : Int) * ((b.length - p : Nat) : Int)) = (Y : Int) := by
    rw [← Int.natCast_mul, ← hY]
    clear na nb
    exact w64 (by omega) (by omega)
  have k1 := ff (Int.lt_irrefl (p : Int))
  have full : C = false → Ev (fun k => (parallaxref15_least.f k a b (p : Int) (p : Int)).bind fun t => if ((DG p).map p67).length + t.length < 8796093022208 then some ((DG p).map p67 ++ t, false) else none)
      ((if C = true then DG p else DG p ++ G (a.drop p) (b.drop p) p p).map p67, C) := by
    rintro rfl
    refine Ev.bind hls ?_
    have c := ff (show ¬ (false = true) by decide)
    simp only [k5, c, if_true, if_false, List.map_append]
    exact Ev.now _
  have key : ∀ z : Int, z = mx 0 lim → Ev (fun k => if (Y : Int) > z then some ((DG p).map p67, true) else (parallaxref15_least.f k a b (p : Int) (p : Int)).bind fun t => if ((DG p).map p67).length + t.length < 8796093022208 then some ((DG p).map p67 ++ t, false) else none)
      ((if C = true then DG p else DG p ++ G (a.drop p) (b.drop p) p p).map p67, C) := by
    rintro z rfl
    by_cases hc : mx 0 lim < (Y : Int)
    · have c3 := tt (show (Y : Int) > mx 0 lim from hc)
      have eC : C = true := by rw [hC]; exact decide_eq_true hc
      subst eC
      simp only [c3, if_true]
      exact Ev.now _
    · have c3 := ff (show ¬ (Y : Int) > mx 0 lim from hc)
      have eC : C = false := by rw [hC]; exact decide_eq_false hc
      simp only [c3, if_false]
      exact full eC
  refine evs ?_
  by_cases hl : lim < 0
  · have c := tt hl
    have := key 0 (by unfold mx; split <;> omega)
    simp only [parallaxref15_Match.l0, k1, na, nb, wm, c, if_true, if_false]
    exact this
  · have c := ff hl
    have := key lim (by unfold mx; split <;> omega)
    simp only [parallaxref15_Match.l0, k1, na, nb, wm, c, if_true, if_false]
    exact this
theorem refMatch_loop (a b : List S24) (lim : Int) (ha : a.length ≤ 1000) (hb : b.length ≤ 1000) (h0 : -9223372036854775808 ≤ lim) (h1 : lim ≤ 9223372036854775807) : ∀ (d i : Nat), i + d = pre a b →
    Ev (fun k => parallaxref15_Match.l0 k a b lim (pre a b : Int) ((DG i).map p67) (i : Int)) ((Mt a b lim).map p67, cut a b lim) := by
  obtain ⟨pa, pb⟩ := pre_le a b
  intro d
  induction d with
  | zero =>
    intro i hi
    obtain rfl : i = pre a b := by omega
    exact refMatch_end a b lim ha hb h0 h1
  | succ d ih =>
    intro i hi
    have := ih (i + 1) (by omega)
    rw [DG_succ, List.map_append] at this
    have k1 := tt (show (i : Int) < (pre a b : Int) by omega)
    have k2 := tt (show ((DG i).map p67).length < 8796093022208 by rw [List.length_map, DG_length]; omega)
    have b1 : i + 1 ≤ 1000000000000 := by omega
    refine evs ?_
    simp only [parallaxref15_Match.l0, k1, k2, wsucc b1, if_true]
    exact this
theorem refMatch_ok (a b : List S24) (lim : Int) (ha : a.length ≤ 1000) (hb : b.length ≤ 1000) (h0 : -9223372036854775808 ≤ lim) (h1 : lim ≤ 9223372036854775807) :
    Ev (fun k => parallaxref15_Match.f k a b lim) ((Mt a b lim).map p67, cut a b lim) := by
  have hl := refMatch_loop a b lim ha hb h0 h1 (pre a b) 0 (Nat.zero_add _)
  have j : ∀ n : Int, n = (pre a b : Int) → Ev (fun k => parallaxref15_Match.j0 k a b lim n) ((Mt a b lim).map p67, cut a b lim) := by
    rintro n rfl
    refine evs ?_
    simp only [parallaxref15_Match.j0]
    exact hl
  unfold parallaxref15_Match.f
  refine Ev.bind (refParting_ok a b (by omega) (by omega)) ?_
  by_cases h : pre a b = a.length ∧ pre a b = b.length
  · have e : part a b = -1 := by unfold part; rw [if_pos h]
    have c := tt (show (-1 : Int) < 0 by decide)
    simp only [e, c, if_true]
    exact j _ (congrArg _ h.1.symm)
  · have e : part a b = (pre a b : Int) := by unfold part; rw [if_neg h]
    have c := ff (show ¬ ((pre a b : Int) < 0) from Int.not_lt.2 (Int.natCast_nonneg _))
    simp only [e, c, if_false]
    exact j _ rfl

end Go.Proofs.Ythbgbeelcnfofaa.Q
