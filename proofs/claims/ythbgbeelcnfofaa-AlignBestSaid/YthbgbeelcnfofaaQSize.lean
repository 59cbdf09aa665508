/- The document's size is the greatest. -/
import Derived.Test.YthbgbeelcnfofaaPx0
import Derived.Test.YthbgbeelcnfofaaPx26
import Derived.Test.YthbgbeelcnfofaaQBits
import Derived.Test.YthbgbeelcnfofaaQLcs
-- use: QBits
-- use: QLcs
namespace Go.Proofs.Ythbgbeelcnfofaa.Q
set_option linter.unusedVariables false
set_option linter.unusedSimpArgs false
open Go.RowKit Go.Proofs.YthbgbeelcnfofaaW.PrintWords Go.Proofs.YthbgbeelcnfofaaW.PrintLast Go.Proofs.YthbgbeelcnfofaaW.PrintMore Go.Proofs.Ythbgbeelcnfofaa.P

theorem L_snoc_ne (a b : List S24) (x y : S24) (h : x ≠ y) : L (a ++ [x]) (b ++ [y]) = max (L a (b ++ [y])) (L (a ++ [x]) b) := by
  rw [← L_reverse, ← L_reverse a, ← L_reverse (a ++ [x]) b]
  simp only [List.reverse_append, List.reverse_singleton, List.singleton_append]
  rw [L_cons, if_neg h]
theorem L_left' (x : S24) (a b : List S24) : L (a ++ [x]) b ≤ L a b + 1 := by
  rw [← L_reverse, ← L_reverse a]
  simp only [List.reverse_append, List.reverse_singleton, List.singleton_append]
  exact L_left _ _ _
theorem L_right' (y : S24) (a b : List S24) : L a (b ++ [y]) ≤ L a b + 1 := by
  rw [L_comm a, L_comm a]
  exact L_left' _ _ _
/-- The sizes of what stands ahead of an index. -/
def PR (a b : List S24) (n : Nat) : List Int := (List.range n).map (fun j => (L a (b.take j) : Int))
theorem PR_length (a b : List S24) (n : Nat) : (PR a b n).length = n := by simp [PR]
theorem PR_succ (a b : List S24) (n : Nat) : PR a b (n + 1) = PR a b n ++ [(L a (b.take n) : Int)] := by simp [PR, List.range_succ]
theorem PR_at (a b : List S24) (n j : Nat) (h : j < n) : rd (PR a b n) (j : Int) = (L a (b.take j) : Int) := by simp [rd, PR, List.getD, h]
theorem PR_zero (b : List S24) (n : Nat) : PR [] b n = List.replicate n 0 := by
  induction n with
  | zero => rfl
  | succ n ih => rw [PR_succ, ih, L_nil, List.replicate_succ']; rfl
theorem take24 (l : List S24) (i : Nat) (h : i < l.length) : l.take (i + 1) = l.take i ++ [rd_T24 l (i : Int)] := by
  rw [List.take_succ_eq_append_getElem h, rd24_get l i h]
theorem Size_inner (a b : List S24) (ha : a.length ≤ 1000000) (hb : b.length ≤ 1000000) (i : Nat) (hi : i < a.length) (r : Int)
    (hr : Ev (fun k => parallaxref15_Size.l0 k a b (PR (a.take (i + 1)) b (b.length + 1)) ((i + 1 : Nat) : Int)) r) : ∀ (d j : Nat), j + d = b.length →
    Ev (fun k => parallaxref15_Size.l1 k a b (PR (a.take i) b (b.length + 1)) (i : Int) (PR (a.take (i + 1)) b (j + 1)) (j : Int)) r := by
  intro d
  induction d with
  | zero =>
    intro j hj
    obtain rfl : j = b.length := by omega
    have c1 := ff (Int.lt_irrefl (b.length : Int))
    have b1 : i + 1 ≤ 1000000000000 := by omega
    refine evs ?_
    simp only [parallaxref15_Size.l1, c1, wsucc b1, if_false]
    exact hr
  | succ d ih =>
    intro j hj
    have ih := ih (j + 1) (by omega)
    rw [PR_succ (a.take (i + 1)) b (j + 1)] at ih
    have r1 := PR_at (a.take (i + 1)) b (j + 1) j (by omega)
    have r2 := PR_at (a.take i) b (b.length + 1) (j + 1) (by omega)
    have r3 := PR_at (a.take i) b (b.length + 1) j (by omega)
    have l1 := L_left' (rd_T24 a (i : Int)) (a.take i) (b.take j)
    have l2 := L_right' (rd_T24 b (j : Int)) (a.take i) (b.take j)
    have l3 := L_snoc (a.take i) (b.take j) (rd_T24 b (j : Int))
    have l4 := L_snoc_ne (a.take i) (b.take j) (rd_T24 a (i : Int)) (rd_T24 b (j : Int))
    have l5 := (L_le (a.take i) (b.take j)).1
    rw [List.length_take] at l5
    rw [← take24 a i hi] at l1 l4
    rw [← take24 b j (by omega)] at l2 l3 l4
    have k1 := tt (show (j : Int) < (b.length : Int) by omega)
    have k2 := tt (show (0 : Int) ≤ ((j + 1 : Nat) : Int) by omega)
    have k3 := tt (show ((j + 1 : Nat) : Int) < ((PR (a.take i) b (b.length + 1)).length : Int) by rw [PR_length]; omega)
    have k4 := tt (show (0 : Int) ≤ (j : Int) by omega)
    have k5 := tt (show (j : Int) < ((PR (a.take (i + 1)) b (j + 1)).length : Int) by rw [PR_length]; omega)
    have k6 := tt (show (0 : Int) ≤ (i : Int) by omega)
    have k7 := tt (show (i : Int) < (a.length : Int) by omega)
    have k8 := tt (show (j : Int) < ((PR (a.take i) b (b.length + 1)).length : Int) by rw [PR_length]; omega)
    have k9 := tt (show (PR (a.take (i + 1)) b (j + 1)).length < 17592186044416 by rw [PR_length]; omega)
    have b1 : j + 1 ≤ 1000000000000 := by omega
    have b2 : L (a.take i) (b.take j) + 1 ≤ 1000000000000 := by omega
    have fin : ∀ z : Int, z = (L (a.take (i + 1)) (b.take (j + 1)) : Int) → Ev (fun k => parallaxref15_Size.l1 k a b (PR (a.take i) b (b.length + 1)) (i : Int) (PR (a.take (i + 1)) b (j + 1) ++ [z]) ((j + 1 : Nat) : Int)) r := by
      rintro z rfl
      exact ih
    by_cases hxy : rd_T24 a (i : Int) = rd_T24 b (j : Int)
    · have c5 := tt (show (((rd_T24 a (i : Int)).f0 == (rd_T24 b (j : Int)).f0 && ((rd_T24 a (i : Int)).f1 == (rd_T24 b (j : Int)).f1)) = true) from (eqv_iff _ _).2 hxy)
      rw [← hxy] at l3
      rw [← take24 a i hi] at l3
      by_cases g1 : (L (a.take (i + 1)) (b.take j) : Int) > (L (a.take i) (b.take (j + 1)) : Int)
      · by_cases g2 : ((L (a.take i) (b.take j) + 1 : Nat) : Int) > (L (a.take (i + 1)) (b.take j) : Int)
        · refine evs ?_
          simp only [parallaxref15_Size.l1, k1, k2, k3, k4, k5, k6, k7, k8, k9, wsucc b1, wsucc b2, r1, r2, r3, c5, tt g1, tt g2, if_true]
          exact fin _ (by rw [l3])
        · refine evs ?_
          simp only [parallaxref15_Size.l1, k1, k2, k3, k4, k5, k6, k7, k8, k9, wsucc b1, wsucc b2, r1, r2, r3, c5, tt g1, ff g2, if_true, if_false]
          exact fin _ (by omega)
      · by_cases g2 : ((L (a.take i) (b.take j) + 1 : Nat) : Int) > (L (a.take i) (b.take (j + 1)) : Int)
        · refine evs ?_
          simp only [parallaxref15_Size.l1, k1, k2, k3, k4, k5, k6, k7, k8, k9, wsucc b1, wsucc b2, r1, r2, r3, c5, ff g1, tt g2, if_true, if_false]
          exact fin _ (by rw [l3])
        · refine evs ?_
          simp only [parallaxref15_Size.l1, k1, k2, k3, k4, k5, k6, k7, k8, k9, wsucc b1, wsucc b2, r1, r2, r3, c5, ff g1, ff g2, if_true, if_false]
          exact fin _ (by omega)
    · have c5 := ff (show ¬ (((rd_T24 a (i : Int)).f0 == (rd_T24 b (j : Int)).f0 && ((rd_T24 a (i : Int)).f1 == (rd_T24 b (j : Int)).f1)) = true) from fun h2 => hxy ((eqv_iff _ _).1 h2))
      have l4 := l4 hxy
      by_cases g1 : (L (a.take (i + 1)) (b.take j) : Int) > (L (a.take i) (b.take (j + 1)) : Int)
      · refine evs ?_
        simp only [parallaxref15_Size.l1, k1, k2, k3, k4, k5, k6, k7, k8, k9, wsucc b1, r1, r2, r3, c5, tt g1, if_true, if_false]
        exact fin _ (by omega)
      · refine evs ?_
        simp only [parallaxref15_Size.l1, k1, k2, k3, k4, k5, k6, k7, k8, k9, wsucc b1, r1, r2, r3, c5, ff g1, if_true, if_false]
        exact fin _ (by omega)
theorem Size_loop (a b : List S24) (ha : a.length ≤ 1000000) (hb : b.length ≤ 1000000) : ∀ (d i : Nat), i + d = a.length →
    Ev (fun k => parallaxref15_Size.l0 k a b (PR (a.take i) b (b.length + 1)) (i : Int)) (L a b : Int) := by
  intro d
  induction d with
  | zero =>
    intro i hi
    obtain rfl : i = a.length := by omega
    have c1 := ff (Int.lt_irrefl (a.length : Int))
    have c2 := tt (show (0 : Int) ≤ (b.length : Int) by omega)
    have c3 := tt (show (b.length : Int) < ((PR (a.take a.length) b (b.length + 1)).length : Int) by rw [PR_length]; omega)
    have r1 := PR_at (a.take a.length) b (b.length + 1) b.length (by omega)
    refine evs ?_
    simp only [parallaxref15_Size.l0, c1, c2, c3, r1, if_true, if_false]
    rw [List.take_length, List.take_length]
    exact Ev.now _
  | succ d ih =>
    intro i hi
    have := Size_inner a b ha hb i (by omega) _ (ih (i + 1) (by omega)) b.length 0 (Nat.zero_add _)
    have c1 := tt (show (i : Int) < (a.length : Int) by omega)
    have c2 := tt (show ([] : List Int).length < 17592186044416 by decide)
    refine evs ?_
    simp only [parallaxref15_Size.l0, c1, c2, if_true]
    rw [PR_succ (a.take (i + 1)) b 0, List.take_zero, L_nil'] at this
    exact this
theorem Size_ok (a b : List S24) (ha : a.length ≤ 1000000) (hb : b.length ≤ 1000000) : Ev (fun k => parallaxref15_Size.f k a b) (L a b : Int) := by
  have := Size_loop a b ha hb a.length 0 (Nat.zero_add _)
  rw [List.take_zero, PR_zero] at this
  have b1 : b.length + 1 ≤ 1000000000000 := by omega
  have c1 := tt (show (0 : Int) ≤ ((b.length + 1 : Nat) : Int) by omega)
  have c2 := tt (show (((b.length + 1 : Nat) : Int)).toNat ≤ 35184372088832 by omega)
  unfold parallaxref15_Size.f
  simp only [wsucc b1, c1, c2, if_true]
  rw [Int.toNat_natCast]
  exact this

end Go.Proofs.Ythbgbeelcnfofaa.Q
