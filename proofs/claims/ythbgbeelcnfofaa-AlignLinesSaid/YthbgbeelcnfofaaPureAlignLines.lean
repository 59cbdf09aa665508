/- Both programs tell alike the lines of any region. -/
import Derived.Test.YthbgbeelcnfofaaPx0
import Derived.Test.YthbgbeelcnfofaaPx10
import Derived.Test.YthbgbeelcnfofaaPx13
import Derived.Test.YthbgbeelcnfofaaPx14
import Derived.Test.YthbgbeelcnfofaaPx15
import Derived.Test.YthbgbeelcnfofaaPx9
import Derived.Test.YthbgbeelcnfofaaQRefLines
import Derived.Test.YthbgbeelcnfofaaQRefFits
import Derived.Test.YthbgbeelcnfofaaQOwn
import Derived.Test.YthbgbeelcnfofaaQOwnFits
import Derived.Test.YthbgbeelcnfofaaQKnown15
-- use: QRefLines
-- use: QRefFits
-- use: QOwn
-- use: QOwnFits
-- use: QKnown15
namespace Go.Proofs.Ythbgbeelcnfofaa.Pure
set_option linter.unusedVariables false
set_option linter.unusedSimpArgs false
open Go.RowKit Go.Proofs.Ythbgbeelcnfofaa.P Go.Proofs.YthbgbeelcnfofaaW.PrintWords Go.Proofs.YthbgbeelcnfofaaW.PrintLast Go.Proofs.YthbgbeelcnfofaaW.PrintMore Go.Proofs.Ythbgbeelcnfofaa.Q

theorem sameT_loop (l : List ByteArray) (hl : l.length ≤ 1000000) : ∀ (d i : Nat), i + d = l.length → Ev (fun k => parallaxref01_Same.l0 k l l (i : Int)) true := by
  intro d
  induction d with
  | zero =>
    intro i hi
    obtain rfl : i = l.length := by omega
    have c1 := ff (Int.lt_irrefl (l.length : Int))
    refine evs ?_
    simp only [parallaxref01_Same.l0, c1, if_false]
    exact Ev.now _
  | succ d ih =>
    intro i hi
    have := ih (i + 1) (by omega)
    have c1 := tt (show (i : Int) < (l.length : Int) by omega)
    have c2 := tt (show (0 : Int) ≤ (i : Int) by omega)
    have b1 : i + 1 ≤ 1000000000000 := by omega
    refine evs ?_
    simp only [parallaxref01_Same.l0, c1, c2, wsucc b1, if_true]
    exact this
theorem sameT_ok (l : List ByteArray) (hl : l.length ≤ 1000000) : Ev (fun k => parallaxref01_Same.f k l l) true := by
  unfold parallaxref01_Same.f
  simp only [if_true]
  exact sameT_loop l hl l.length 0 (Nat.zero_add _)
theorem good_of {l : List S24} (h : ∀ y ∈ l, ((Lit.int .i64 y.f0).wf = true ∧ (Lit.int .i64 y.f1).wf = true)) : GoodE l := fun y hy => ⟨wf64 (h y hy).1, wf64 (h y hy).2⟩
/-- Whether a region leaves the rows, or does not rise. -/
def ins (n m r0 r1 r2 r3 : Int) : Bool := decide (0 ≤ r0 ∧ r0 ≤ r1 ∧ r1 ≤ n ∧ 0 ≤ r2 ∧ r2 ≤ r3 ∧ r3 ≤ m)
theorem inside_ok (n m r0 r1 r2 r3 : Int) : align_inside.f n m r0 r1 r2 r3 = some (ins n m r0 r1 r2 r3) := by
  unfold align_inside.f ins
  by_cases h1 : r0 ≥ 0
  · rw [if_pos h1]
    by_cases h2 : r0 ≤ r1
    · rw [if_pos h2]
      by_cases h3 : r1 ≤ n
      · rw [if_pos h3]
        by_cases h4 : r2 ≥ 0
        · rw [if_pos h4]
          by_cases h5 : r2 ≤ r3
          · rw [if_pos h5]
            congr 1
            simp only [decide_eq_decide]
            omega
          · rw [if_neg h5, decide_eq_false (by omega)]
        · rw [if_neg h4, decide_eq_false (by omega)]
      · rw [if_neg h3, decide_eq_false (by omega)]
    · rw [if_neg h2, decide_eq_false (by omega)]
  · rw [if_neg h1, decide_eq_false (by omega)]
/-- What both programs answer. -/
def ans (a b : List S24) (l : List S67) (r0 r1 r2 r3 : Int) : List ByteArray × Int :=
  if fit a b (l.map o41) = true then (if ins (a.length : Int) (b.length : Int) r0 r1 r2 r3 = true then (fin a b r1 r3 (Wl a b (l.filter (inn r0 r1 r2 r3)) r0.toNat r2.toNat []), 0) else ([], 1)) else ([], 90)
theorem chain_of {a b : List S24} {l : List S67} {r0 r1 r2 r3 : Int} (h : fit a b (l.map o41) = true) (h0 : 0 ≤ r0) (h2 : 0 ≤ r2) : Chain (a.length : Int) (b.length : Int) r0.toNat r2.toNat (l.filter (inn r0 r1 r2 r3)) := by
  have : up (a.length : Int) (b.length : Int) (-1) (-1) (l.map o41) = true := by
    unfold fit at h
    rw [Bool.and_eq_true] at h
    exact h.1
  exact up_chain _ _ r0 r1 r2 r3 h0 h2 l (-1) (-1) _ _ (by decide) (by decide) (.inr (by omega)) (.inr (by omega)) this
theorem ownLines_ok (a b : List S24) (l : List S67) (ga : GoodE a) (gb : GoodE b) (ha : a.length ≤ 300) (hb : b.length ≤ 300) (hl : l.length ≤ 300) (r0 r1 r2 r3 : Int) :
    Ev (fun k => align_Lines.f k a b (l.map o41) r0 r1 r2 r3) (ans a b l r0 r1 r2 r3) ∧ (ans a b l r0 r1 r2 r3).1.length ≤ 5000 := by
  unfold align_Lines.f ans
  have hf := ownFits_ok a b (l.map o41) (by rw [List.length_map]; omega)
  have c0 := ff (show ¬ (false = true) by decide)
  cases h : fit a b (l.map o41) with
  | false =>
    rw [h] at hf
    simp only [c0, if_false]
    refine ⟨Ev.bind hf ?_, by simp⟩
    simp only [c0, if_false]
    exact Ev.now _
  | true =>
    rw [h] at hf
    simp only [if_true]
    cases hi : ins (a.length : Int) (b.length : Int) r0 r1 r2 r3 with
    | false =>
      simp only [c0, if_false]
      refine ⟨Ev.bind hf ?_, by simp⟩
      simp only [if_true, inside_ok, hi]
      refine Ev.bind (Ev.now _) ?_
      simp only [c0, if_false]
      exact Ev.now _
    | true =>
      have hii := hi
      unfold ins at hii
      rw [decide_eq_true_iff] at hii
      obtain ⟨i0, i1, i2, i3, i4, i5⟩ := hii
      have hc := chain_of (r1 := r1) (r3 := r3) h i0 i3
      obtain ⟨u, hu⟩ : ∃ u : Nat, r0 = (u : Int) := ⟨r0.toNat, by omega⟩
      obtain ⟨v, hv⟩ : ∃ v : Nat, r2 = (v : Int) := ⟨r2.toNat, by omega⟩
      obtain ⟨q', i', j', w1, w2, w3, w4, w5⟩ := ll_ok a b ga gb (by omega) (by omega) l (by omega) r0 r1 r2 r3 l.length 0 r0.toNat r2.toNat [] (Nat.zero_add _) (by omega) (by omega) (by simp) (by rw [List.drop_zero]; exact hc)
      rw [List.drop_zero] at w1
      have e0 : ((r0.toNat : Nat) : Int) = r0 := by omega
      have e2 : ((r2.toNat : Nat) : Int) = r2 := by omega
      rw [e0, e2] at w5
      have la := la_ok ga (by omega) r1 (r1 - (i' : Int)).toNat i' q' rfl w2 i2 (by omega)
      have lb := lb_ok gb (by omega) r3 (r3 - (j' : Int)).toNat j' (q' ++ ds 45 a i' (r1 - (i' : Int)).toNat) rfl w3 i5 (by rw [List.length_append, ds_length]; omega)
      rw [w1]
      unfold fin
      simp only [if_true]
      refine ⟨Ev.bind hf ?_, by rw [List.length_append, List.length_append, ds_length, ds_length]; omega⟩
      simp only [if_true, inside_ok, hi]
      refine Ev.bind (Ev.now _) ?_
      simp only [if_true]
      refine Ev.bind w5 (Ev.bind la (Ev.bind lb (Ev.now _)))
theorem refLines_ok (a b : List S24) (l : List S67) (ga : GoodE a) (gb : GoodE b) (ha : a.length ≤ 300) (hb : b.length ≤ 300) (hl : l.length ≤ 300) (r0 r1 r2 r3 : Int) :
    Ev (fun k => parallaxref15_Lines.f k a b l r0 r1 r2 r3) (ans a b l r0 r1 r2 r3) := by
  unfold parallaxref15_Lines.f ans
  have hf := refFits_ok a b l (by omega)
  have c0 := ff (show ¬ (false = true) by decide)
  cases h : fit a b (l.map o41) with
  | false =>
    rw [h] at hf
    simp only [c0, if_false]
    refine Ev.bind hf ?_
    simp only [c0, if_false]
    exact Ev.now _
  | true =>
    rw [h] at hf
    simp only [if_true]
    refine Ev.bind hf ?_
    simp only [if_true]
    have no : ins (a.length : Int) (b.length : Int) r0 r1 r2 r3 = false → ∀ z, z = true → Ev (fun k => parallaxref15_Lines.j0 k a b l z r0 r1 r2 r3) (if ins (a.length : Int) (b.length : Int) r0 r1 r2 r3 = true then (fin a b r1 r3 (Wl a b (l.filter (inn r0 r1 r2 r3)) r0.toNat r2.toNat []), 0) else ([], 1)) := by
      rintro hi z rfl
      rw [hi]
      simp only [c0, if_false]
      refine evs ?_
      simp only [parallaxref15_Lines.j0, if_true]
      exact Ev.now _
    by_cases h1 : r0 < 0
    · simp only [tt h1, if_true]
      exact no (decide_eq_false (by omega)) _ rfl
    by_cases h2 : r0 > r1
    · simp only [ff h1, tt h2, if_true, if_false]
      exact no (decide_eq_false (by omega)) _ rfl
    by_cases h3 : r1 > (a.length : Int)
    · simp only [ff h1, ff h2, tt h3, if_true, if_false]
      exact no (decide_eq_false (by omega)) _ rfl
    by_cases h4 : r2 < 0
    · simp only [ff h1, ff h2, ff h3, tt h4, if_true, if_false]
      exact no (decide_eq_false (by omega)) _ rfl
    by_cases h5 : r2 > r3
    · simp only [ff h1, ff h2, ff h3, ff h4, tt h5, if_true, if_false]
      exact no (decide_eq_false (by omega)) _ rfl
    simp only [ff h1, ff h2, ff h3, ff h4, ff h5, if_false]
    by_cases h6 : r3 > (b.length : Int)
    · exact no (decide_eq_false (by omega)) _ (decide_eq_true h6)
    rw [decide_eq_false h6]
    have hi : ins (a.length : Int) (b.length : Int) r0 r1 r2 r3 = true := decide_eq_true (by omega)
    rw [hi]
    simp only [if_true]
    refine evs ?_
    simp only [parallaxref15_Lines.j0, c0, if_false]
    have hfl := List.length_filter_le (inn r0 r1 r2 r3) l
    have := ref_l1 a b ga gb (by omega) (by omega) r1 r3 (by omega) (by omega) (l.filter (inn r0 r1 r2 r3)) [] r0.toNat r2.toNat [] (by simp only [List.length_nil]; omega) (by omega) (by omega) (by simp) (chain_of h (by omega) (by omega))
    have e0 : ((r0.toNat : Nat) : Int) = r0 := by omega
    have e2 : ((r2.toNat : Nat) : Int) = r2 := by omega
    rw [e0, e2, List.nil_append] at this
    exact ref_l0 a b l (by omega) r0 r1 r2 r3 _ this l.length 0 (Nat.zero_add _)

theorem AlignLines : parallaxlaw15_AlignLines.Pure := by
  intro a b l r0 r1 r2 r3 wa wb _ _ _ _ _
  have ga := good_of wa.2
  have gb := good_of wb.2
  refine Ev.rounds ?_
  unfold parallaxlaw15_AlignLines.f
  have jt : Ev (fun k => parallaxlaw15_AlignLines.j0 k a b l true r0 r1 r2 r3) true := by
    refine evs ?_
    simp only [parallaxlaw15_AlignLines.j0, if_true]
    exact known_fin
  by_cases ha : (a.length : Int) > 300
  · simp only [tt ha, if_true]
    exact jt
  by_cases hb : (b.length : Int) > 300
  · simp only [ff ha, tt hb, if_true, if_false]
    exact jt
  simp only [ff ha, ff hb, if_false]
  by_cases hl : (l.length : Int) > 300
  · rw [decide_eq_true hl]
    exact jt
  rw [decide_eq_false hl]
  have c0 := ff (show ¬ (false = true) by decide)
  obtain ⟨A, la⟩ := ownLines_ok a b l ga gb (by omega) (by omega) (by omega) r0 r1 r2 r3
  have B := refLines_ok a b l ga gb (by omega) (by omega) (by omega) r0 r1 r2 r3
  refine evs ?_
  simp only [parallaxlaw15_AlignLines.j0, c0, if_false]
  refine Ev.bind (own_ok l (by omega)) (Ev.bind A (Ev.bind B (Ev.bind (sameT_ok _ (by omega)) ?_)))
  simp only [if_true]
  exact known_fin

end Go.Proofs.Ythbgbeelcnfofaa.Pure
