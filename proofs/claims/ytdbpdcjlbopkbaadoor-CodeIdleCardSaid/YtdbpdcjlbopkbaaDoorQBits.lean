/- Numbers by their binary digits: what the reference's functions come to, in plain arithmetic. -/
import Derived.Test.YtdbpdcjlbopkbaaDoorPx10
import Derived.Test.YtdbpdcjlbopkbaaDoorPx11
import Derived.Test.YtdbpdcjlbopkbaaDoorQBase
-- use: QBase
import Derived.IntWalk
namespace Go.Proofs.YtdbpdcjlbopkbaaDoor.Q
set_option linter.unusedVariables false
set_option linter.unusedSimpArgs false
open Go.RowKit Go.Proofs.YtdbpdcjlbopkbaaDoorW.PrintWords Go.Proofs.YtdbpdcjlbopkbaaDoorW.PrintLast Go.Proofs.YtdbpdcjlbopkbaaDoorW.PrintMore Go.Proofs.YtdbpdcjlbopkbaaDoor.P

/-- The number of some binary digits, the least one first. -/
def val : List Int → Nat
  | [] => 0
  | b :: l => b.toNat + 2 * val l
def isBits (l : List Int) : Prop := ∀ b ∈ l, b = 0 ∨ b = 1

theorem val_append (a b : List Int) : val (a ++ b) = val a + 2 ^ a.length * val b := by
  induction a with
  | nil => simp [val]
  | cons x a ih => simp only [List.cons_append, val, ih, List.length_cons, Nat.pow_succ]; rw [Nat.mul_comm (2 ^ a.length) 2, Nat.mul_assoc]; omega
theorem val_lt {l : List Int} (h : isBits l) : val l < 2 ^ l.length := by
  induction l with
  | nil => simp [val]
  | cons x l ih =>
    have := ih (fun b hb => h b (List.mem_cons_of_mem _ hb))
    have := h x (List.mem_cons_self ..)
    simp only [val, List.length_cons, Nat.pow_succ]
    rcases this with rfl | rfl <;> simp <;> omega
theorem isBits_append {a b : List Int} (ha : isBits a) (hb : isBits b) : isBits (a ++ b) := fun x hx => by
  rcases List.mem_append.1 hx with h | h
  · exact ha x h
  · exact hb x h
theorem isBits_one {b : Int} (h : b = 0 ∨ b = 1) : isBits [b] := fun x hx => by simp at hx; subst hx; exact h
theorem rd_bit {l : List Int} (h : isBits l) {i : Nat} (hi : i < l.length) : rd l i = 0 ∨ rd l i = 1 := by
  have : rd l i = l[i] := by simp [rd, List.getD, hi]
  rw [this]
  exact h _ (List.getElem_mem hi)
theorem val_drop {l : List Int} {i : Nat} (hi : i < l.length) : val (l.drop i) = (rd l i).toNat + 2 * val (l.drop (i + 1)) := by
  rw [List.drop_eq_getElem_cons hi]
  simp [val, rd, List.getD, hi]
theorem val_take {l : List Int} {i : Nat} (hi : i < l.length) : val (l.take (i + 1)) = val (l.take i) + 2 ^ i * (rd l i).toNat := by
  rw [List.take_succ_eq_append_getElem hi, val_append]
  simp [val, rd, List.getD, hi, Nat.min_eq_left (Nat.le_of_lt hi)]

/-- The 64 digits of a number. -/
def IsBits (L : List Int) (m : Nat) : Prop := L.length = 64 ∧ isBits L ∧ val L = m

def um (n : Int) : Nat := (n % 18446744073709551616).toNat
theorem um_lt (n : Int) : um n < 2 ^ 64 := by unfold um; omega
theorem um_cast (n : Int) : ((um n : Nat) : Int) = n % 18446744073709551616 := by unfold um; omega

theorem shr_um (n : Int) (i : Nat) (hi : i < 64) : shr .u64 (IntKind.u64.wrap n) (IntKind.u64.wrap (i : Int)) = ((um n / 2 ^ i : Nat) : Int) := by
  have h2 : IntKind.u64.wrap (i : Int) = (i : Int) := by rw [u64w]; omega
  have h3 : min i 64 = i := by omega
  rw [h2, u64w, ← um_cast]
  simp [shr, IntKind.bits, h3]

theorem tmod_two (m : Nat) : Int.tmod (m : Int) 2 = ((m % 2 : Nat) : Int) := by
  rw [Int.tmod_eq_emod_of_nonneg (by omega)]
  rfl

theorem Bits_loop (n : Int) : ∀ (d i : Nat) (l : List Int), i + d = 64 → l.length = i → isBits l → val l = um n % 2 ^ i →
    ∃ L, Ev (fun k => parallaxref01_Bits.l0 k n l i) L ∧ IsBits L (um n) := by
  intro d
  induction d with
  | zero =>
    intro i l hd hl hb hv
    obtain rfl : i = 64 := by omega
    refine ⟨l, ?_, hl, hb, by rw [hv, Nat.mod_eq_of_lt (um_lt n)]⟩
    refine evs ?_
    simp only [parallaxref01_Bits.l0, if_true, if_false, ff (show ¬ ((64 : Nat) : Int) < 64 by omega)]
    exact Ev.now _
  | succ d ih =>
    intro i l hd hl hb hv
    have hi : i < 64 := by omega
    have c1 := tt (show (i : Int) < 64 by omega)
    have c2 := tt (show l.length < 17592186044416 by omega)
    have c3 : (0 ≤ IntKind.u64.wrap (i : Int)) = True := tt (by rw [u64w]; omega)
    have c4 : wrap64 ((i : Int) + 1) = ((i + 1 : Nat) : Int) := by rw [w64 (by omega) (by omega)]; rfl
    have hbit : wrap64 (Int.tmod (shr .u64 (IntKind.u64.wrap n) (IntKind.u64.wrap (i : Int))) 2) = ((um n / 2 ^ i % 2 : Nat) : Int) := by
      rw [shr_um n i hi, tmod_two, w64 (by omega) (by omega)]
    obtain ⟨L, hL, h⟩ := ih (i + 1) (l ++ [((um n / 2 ^ i % 2 : Nat) : Int)]) (by omega) (by simp [hl]) (isBits_append hb (isBits_one (by omega)))
      (by rw [val_append, hv, hl]; simp only [val]; rw [Nat.pow_succ, Nat.mod_mul, Int.toNat_natCast]; simp)
    refine ⟨L, evs ?_, h⟩
    simp only [parallaxref01_Bits.l0, if_true, c1, c2, c3, c4, hbit]
    exact hL
theorem Bits_ok (n : Int) : ∃ L, Ev (fun k => parallaxref01_Bits.f k n) L ∧ IsBits L (um n) :=
  Bits_loop n 64 0 [] rfl rfl (fun _ h => by cases h) (by simp [val, Nat.mod_one])

theorem plus_loop (A B : List Int) (hA : A.length = 64) (hB : B.length = 64) (bA : isBits A) (bB : isBits B) (t : Nat) : ∀ (d i c : Nat) (l : List Int), i + d = 64 → l.length = i → isBits l → c ≤ 1 →
    val l + 2 ^ i * (c + val (A.drop i) + val (B.drop i)) = t →
    ∃ L, Ev (fun k => parallaxref01_plus.l0 k A B c l i) L ∧ IsBits L (t % 2 ^ 64) := by
  intro d
  induction d with
  | zero =>
    intro i c l hd hl hb hc hv
    obtain rfl : i = 64 := by omega
    refine ⟨l, ?_, hl, hb, ?_⟩
    · refine evs ?_
      simp only [parallaxref01_plus.l0, if_true, if_false, ff (show ¬ ((64 : Nat) : Int) < 64 by omega)]
      exact Ev.now _
    · have := val_lt hb
      rw [hl] at this
      rw [← hv, Nat.add_mul_mod_self_left, Nat.mod_eq_of_lt this]
  | succ d ih =>
    intro i c l hd hl hb hc hv
    have hi : i < 64 := by omega
    have c1 := tt (show (i : Int) < 64 by omega)
    have c2 := tt (show l.length < 17592186044416 by omega)
    have c3 := tt (show (0 : Int) ≤ i by omega)
    have c4 : wrap64 ((i : Int) + 1) = ((i + 1 : Nat) : Int) := by rw [w64 (by omega) (by omega)]; rfl
    have c5 := tt (show (i : Int) < (A.length : Int) by omega)
    have c6 := tt (show (i : Int) < (B.length : Int) by omega)
    have a1 := rd_bit bA (show i < A.length by omega)
    have b1 := rd_bit bB (show i < B.length by omega)
    have vA := val_drop (show i < A.length by omega)
    have vB := val_drop (show i < B.length by omega)
    generalize hp : rd A i = p at a1 vA
    generalize hq : rd B i = q at b1 vB
    have hs : wrap64 (wrap64 (p + q) + (c : Int)) = ((p.toNat + q.toNat + c : Nat) : Int) := by
      rw [w64 (n := p + q) (by omega) (by omega), w64 (by omega) (by omega)]; omega
    have ht : wrap64 (Int.tdiv ((p.toNat + q.toNat + c : Nat) : Int) 2) = (((p.toNat + q.toNat + c) / 2 : Nat) : Int) := by
      rw [Int.tdiv_eq_ediv_of_nonneg (by omega), w64 (by omega) (by omega)]; rfl
    obtain ⟨L, hL, h⟩ := ih (i + 1) ((p.toNat + q.toNat + c) / 2) (l ++ [(((p.toNat + q.toNat + c) % 2 : Nat) : Int)]) (by omega) (by simp [hl]) (isBits_append hb (isBits_one (by omega))) (by omega)
      (by
        rw [val_append, hl]; simp only [val]
        rw [← hv, vA, vB, Nat.pow_succ, Int.toNat_natCast, Nat.mul_assoc, Nat.add_assoc, ← Nat.mul_add]
        congr 2
        omega)
    refine ⟨L, evs ?_, h⟩
    simp only [parallaxref01_plus.l0, if_true, c1, c2, c3, c4, c5, c6, hp, hq, hs, ht, tmod_two]
    exact hL
theorem plus_ok {A B : List Int} {a b : Nat} (hA : IsBits A a) (hB : IsBits B b) (c : Nat) (hc : c ≤ 1) : ∃ L, Ev (fun k => parallaxref01_plus.f k A B c) L ∧ IsBits L ((a + b + c) % 2 ^ 64) := by
  obtain ⟨L, hL, h⟩ := plus_loop A B hA.1 hB.1 hA.2.1 hB.2.1 (a + b + c) 64 0 c [] rfl rfl (fun _ h => by cases h) hc (by simp [val, hA.2.2, hB.2.2]; omega)
  exact ⟨L, hL, h⟩

theorem other_loop (A : List Int) (hA : A.length = 64) (bA : isBits A) : ∀ (d i : Nat) (l : List Int), i + d = 64 → l.length = i → isBits l → val l + val (A.take i) + 1 = 2 ^ i →
    ∃ L, Ev (fun k => parallaxref01_other.l0 k A l i) L ∧ IsBits L (2 ^ 64 - 1 - val A) := by
  intro d
  induction d with
  | zero =>
    intro i l hd hl hb hv
    obtain rfl : i = 64 := by omega
    refine ⟨l, ?_, hl, hb, ?_⟩
    · refine evs ?_
      simp only [parallaxref01_other.l0, if_true, if_false, ff (show ¬ ((64 : Nat) : Int) < (A.length : Int) by omega)]
      exact Ev.now _
    · rw [List.take_of_length_le (by omega)] at hv
      omega
  | succ d ih =>
    intro i l hd hl hb hv
    have hi : i < 64 := by omega
    have c2 := tt (show l.length < 17592186044416 by omega)
    have c3 := tt (show (0 : Int) ≤ i by omega)
    have c4 : wrap64 ((i : Int) + 1) = ((i + 1 : Nat) : Int) := by rw [w64 (by omega) (by omega)]; rfl
    have c5 := tt (show (i : Int) < (A.length : Int) by omega)
    have a1 := rd_bit bA (show i < A.length by omega)
    have vA := val_take (show i < A.length by omega)
    generalize hp : rd A i = p at a1 vA
    have hs : wrap64 (1 - p) = ((1 - p.toNat : Nat) : Int) := by rw [w64 (by omega) (by omega)]; omega
    obtain ⟨L, hL, h⟩ := ih (i + 1) (l ++ [((1 - p.toNat : Nat) : Int)]) (by omega) (by simp [hl]) (isBits_append hb (isBits_one (by omega)))
      (by
        rw [val_append, hl, vA, Nat.pow_succ]; simp only [val]
        rcases a1 with rfl | rfl <;> simp <;> omega)
    refine ⟨L, evs ?_, h⟩
    simp only [parallaxref01_other.l0, if_true, c2, c3, c4, c5, hp, hs]
    exact hL
theorem other_ok {A : List Int} {a : Nat} (hA : IsBits A a) : ∃ L, Ev (fun k => parallaxref01_other.f k A) L ∧ IsBits L (2 ^ 64 - 1 - a) := by
  obtain ⟨L, hL, h⟩ := other_loop A hA.1 hA.2.1 64 0 [] rfl rfl (fun _ h => by cases h) (by simp [val])
  rw [hA.2.2] at h
  exact ⟨L, hL, h⟩

theorem number_loop (A : List Int) (hA : A.length = 64) (bA : isBits A) : ∀ (d : Nat), d ≤ 64 → Ev (fun k => parallaxref01_number.l0 k A (val (A.drop d) : Int) ((d : Int) - 1)) (wrap64 (val A)) := by
  intro d
  induction d with
  | zero =>
    intro _
    refine evs ?_
    simp only [parallaxref01_number.l0, if_true, if_false, ff (show ¬ ((0 : Nat) : Int) - 1 ≥ 0 by omega), List.drop_zero]
    exact Ev.now _
  | succ d ih =>
    intro hd
    have := ih (by omega)
    have a1 := rd_bit bA (show d < A.length by omega)
    have vA := val_drop (show d < A.length by omega)
    have hlt := val_lt (l := A.drop d) (fun b hb => bA b (List.mem_of_mem_drop hb))
    have hlt2 : 2 ^ (A.drop d).length ≤ 2 ^ 64 := Nat.pow_le_pow_right (by omega) (by simp; omega)
    generalize hp : rd A d = p at a1 vA
    have hs : IntKind.u64.wrap (IntKind.u64.wrap ((val (A.drop (d + 1)) : Int) * 2) + IntKind.u64.wrap p) = (val (A.drop d) : Int) := by
      rw [u64w, u64w, u64w]; omega
    refine evs ?_
    have e1 : ((d + 1 : Nat) : Int) - 1 = (d : Int) := by omega
    have h2 : wrap64 ((d : Int) - 1) = (d : Int) - 1 := w64 (by omega) (by omega)
    simp only [parallaxref01_number.l0, if_true, if_false, e1, tt (show (d : Int) ≥ 0 by omega), tt (show (0 : Int) ≤ (d : Int) by omega), tt (show (d : Int) < (A.length : Int) by omega), hp, hs, h2]
    exact this
theorem number_ok {A : List Int} {a : Nat} (hA : IsBits A a) : Ev (fun k => parallaxref01_number.f k A) (wrap64 a) := by
  have := number_loop A hA.1 hA.2.1 64 (Nat.le_refl _)
  rw [List.drop_of_length_le (by rw [hA.1]; omega), hA.2.2] at this
  exact this

end Go.Proofs.YtdbpdcjlbopkbaaDoor.Q
