/- The plain texts, in one. -/
import Derived.Test.YthckiolgpgplpaaDoorPx15
import Derived.Test.YthckiolgpgplpaaDoorRows
import Derived.Lib.LaidTab
import Derived.SizedLaws
import Derived.Test.YthckiolgpgplpaaDoorPx13
import Derived.Test.YthckiolgpgplpaaDoorPx7
section
/- What the pure proofs lean on: rounds, wrapped sums. -/
namespace Go.Proofs.YthckiolgpgplpaaDoor.YE
set_option linter.unusedVariables false
set_option linter.unusedSimpArgs false
open Go.RowKit YC YA YB YD
theorem evs {α : Type} {g : Nat → Option α} {r : α} (h : Ev (fun k => g (k + 1)) r) : Ev g r := Ev.step (fun _ => rfl) h
theorem tt {c : Prop} (h : c) : c = True := eq_true h
theorem ff {c : Prop} (h : ¬ c) : c = False := eq_false h
theorem w64 {n : Int} (h0 : -9223372036854775808 ≤ n) (h1 : n ≤ 9223372036854775807) : wrap64 n = n := by unfold wrap64; omega
theorem jG {a : Nat} (h : a + 1 ≤ 1000000000000) : wrap64 ((a : Int) + 1) = ((a + 1 : Nat) : Int) := by rw [w64 (by omega) (by omega)]; rfl
theorem ku (n : Int) : IntKind.u64.wrap n = n % 18446744073709551616 := by simp [IntKind.wrap, IntKind.bits, IntKind.signed]
theorem qH {a b : Int} (h : a % 18446744073709551616 = b % 18446744073709551616) : wrap64 a = wrap64 b := by unfold wrap64; omega
theorem tJ (a : Int) : wrap64 a % 18446744073709551616 = a % 18446744073709551616 := by unfold wrap64; omega
theorem w64_range (a : Int) : -9223372036854775808 ≤ wrap64 a ∧ wrap64 a ≤ 9223372036854775807 := by unfold wrap64; omega
theorem qW {a : Int} (h : (Lit.int .i64 a).wf = true) : -9223372036854775808 ≤ a ∧ a ≤ 9223372036854775807 := by
 simpa [Lit.wf, IntKind.min, IntKind.max, IntKind.bits, IntKind.signed] using h
end Go.Proofs.YthckiolgpgplpaaDoor.YE
end
section
/- Numbers by their binary digits: what the reference's functions come to, in plain arithmetic. -/
namespace Go.Proofs.YthckiolgpgplpaaDoor.YE
set_option linter.unusedVariables false
set_option linter.unusedSimpArgs false
open Go.RowKit YC YA YB YD
def val : List Int → Nat
 | [] => 0
 | b :: l => b.toNat + 2 * val l
def iN (l : List Int) : Prop := ∀ b ∈ l, b = 0 ∨ b = 1
theorem val_append (a b : List Int) : val (a ++ b) = val a + 2 ^ a.length * val b := by
 induction a with
 | nil => simp [val]
 | cons x a ih => simp only [List.cons_append, val, ih, List.length_cons, Nat.pow_succ]; rw [Nat.mul_comm (2 ^ a.length) 2, Nat.mul_assoc]; omega
theorem uE {l : List Int} (h : iN l) : val l < 2 ^ l.length := by
 induction l with
 | nil => simp [val]
 | cons x l ih =>
  have := ih (fun b hb => h b (List.mem_cons_of_mem _ hb))
  have := h x (List.mem_cons_self ..)
  simp only [val, List.length_cons, Nat.pow_succ]
  rcases this with rfl | rfl <;> simp <;> omega
theorem jI {a b : List Int} (ha : iN a) (hb : iN b) : iN (a ++ b) := fun x hx => by
 rcases Zn.1 hx with h | h
 ·exact ha x h
 ·exact hb x h
theorem lF {b : Int} (h : b = 0 ∨ b = 1) : iN [b] := fun x hx => by simp at hx; subst hx; exact h
theorem nS {l : List Int} (h : iN l) {i : Nat} (hi : i < l.length) : rd l i = 0 ∨ rd l i = 1 := by
 have : rd l i = l[i] := by simp [rd, List.getD, hi]
 rw [this]
 exact h _ (List.getElem_mem hi)
theorem nX {l : List Int} {i : Nat} (hi : i < l.length) : val (l.drop i) = (rd l i).toNat + 2 * val (l.drop (i + 1)) := by
 rw [List.drop_eq_getElem_cons hi]
 simp [val, rd, List.getD, hi]
theorem qX {l : List Int} {i : Nat} (hi : i < l.length) : val (l.take (i + 1)) = val (l.take i) + 2 ^ i * (rd l i).toNat := by
 rw [List.take_succ_eq_append_getElem hi, val_append]
 simp [val, rd, List.getD, hi, Nat.min_eq_left (Nat.le_of_lt hi)]
def iQ (L : List Int) (m : Nat) : Prop := L.length = 64 ∧ iN L ∧ val L = m
def um (n : Int) : Nat := (n % 18446744073709551616).toNat
theorem uO (n : Int) : um n < 2 ^ 64 := by unfold um; omega
theorem jS (n : Int) : ((um n : Nat) : Int) = n % 18446744073709551616 := by unfold um; omega
theorem shr_um (n : Int) (i : Nat) (hi : i < 64) : shr .u64 (IntKind.u64.wrap n) (IntKind.u64.wrap (i : Int)) = ((um n / 2 ^ i : Nat) : Int) := by
 have h2 : IntKind.u64.wrap (i : Int) = (i : Int) := by rw [ku]; omega
 have h3 : min i 64 = i := by omega
 rw [h2, ku, ← jS]
 simp [shr, IntKind.bits, h3]
theorem ou (m : Nat) : Int.tmod (m : Int) 2 = ((m % 2 : Nat) : Int) := by
 rw [Int.tmod_eq_emod_of_nonneg (by omega)]
 rfl
theorem Bits_loop (n : Int) : ∀ (d i : Nat) (l : List Int), i + d = 64 → l.length = i → iN l → val l = um n % 2 ^ i →
  ∃ L, Ev (fun k => aI.l0 k n l i) L ∧ iQ L (um n) := by
 intro d
 induction d with
 | zero =>
  intro i l hd hl hb hv
  obtain rfl : i = 64 := by omega
  refine ⟨l, ?_, hl, hb, by rw [hv, Nat.mod_eq_of_lt (uO n)]⟩
  refine evs ?_
  simp only [aI.l0, if_true, if_false, ff (show ¬ ((64 : Nat) : Int) < 64 by omega)]
  exact Ev.now _
 | succ d ih =>
  intro i l hd hl hb hv
  have hi : i < 64 := by omega
  have c1 := tt (show (i : Int) < 64 by omega)
  have c2 := tt (show l.length < 17592186044416 by omega)
  have c3 : (0 ≤ IntKind.u64.wrap (i : Int)) = True := tt (by rw [ku]; omega)
  have c4 : wrap64 ((i : Int) + 1) = ((i + 1 : Nat) : Int) := by rw [w64 (by omega) (by omega)]; rfl
  have hbit : wrap64 (Int.tmod (shr .u64 (IntKind.u64.wrap n) (IntKind.u64.wrap (i : Int))) 2) = ((um n / 2 ^ i % 2 : Nat) : Int) := by
   rw [shr_um n i hi, ou, w64 (by omega) (by omega)]
  obtain ⟨L, hL, h⟩ := ih (i + 1) (l ++ [((um n / 2 ^ i % 2 : Nat) : Int)]) (by omega) (by simp [hl]) (jI hb (lF (by omega)))
   (by rw [val_append, hv, hl]; simp only [val]; rw [Nat.pow_succ, Nat.mod_mul, Int.toNat_natCast]; simp)
  refine ⟨L, evs ?_, h⟩
  simp only [aI.l0, if_true, c1, c2, c3, c4, hbit]
  exact hL
theorem jV (n : Int) : ∃ L, Ev (fun k => aI.f k n) L ∧ iQ L (um n) :=
 Bits_loop n 64 0 [] rfl rfl (fun _ h => by cases h) (by simp [val, Nat.mod_one])
theorem plus_loop (A B : List Int) (hA : A.length = 64) (hB : B.length = 64) (bA : iN A) (bB : iN B) (t : Nat) : ∀ (d i c : Nat) (l : List Int), i + d = 64 → l.length = i → iN l → c ≤ 1 →
  val l + 2 ^ i * (c + val (A.drop i) + val (B.drop i)) = t →
  ∃ L, Ev (fun k => bC.l0 k A B c l i) L ∧ iQ L (t % 2 ^ 64) := by
 intro d
 induction d with
 | zero =>
  intro i c l hd hl hb hc hv
  obtain rfl : i = 64 := by omega
  refine ⟨l, ?_, hl, hb, ?_⟩
  ·refine evs ?_
   simp only [bC.l0, if_true, if_false, ff (show ¬ ((64 : Nat) : Int) < 64 by omega)]
   exact Ev.now _
  ·have := uE hb
   rw [hl] at this
   rw [← hv, Nat.add_mul_mod_self_left, Nat.mod_eq_of_lt this]
 | succ d ih =>
  intro i c l hd hl hb hc hv
  have hi : i < 64 := by omega
  have c1 := tt (show (i : Int) < 64 by omega)
  have c2 := tt (show l.length < 17592186044416 by omega)
  have c3 := tt (show (0 : Int) ≤ i by omega)
  have c4 : wrap64 ((i : Int) + 1) = ((i + 1 : Nat) : Int) := by rw [w64 (by omega) (by omega)]; rfl
  have c5 := tt (show (i : Int) < (A.length : Int) by omega)
  have c6 := tt (show (i : Int) < (B.length : Int) by omega)
  have a1 := nS bA (show i < A.length by omega)
  have b1 := nS bB (show i < B.length by omega)
  have vA := nX (show i < A.length by omega)
  have vB := nX (show i < B.length by omega)
  generalize hp : rd A i = p at a1 vA
  generalize hq : rd B i = q at b1 vB
  have hs : wrap64 (wrap64 (p + q) + (c : Int)) = ((p.toNat + q.toNat + c : Nat) : Int) := by
   rw [w64 (n := p + q) (by omega) (by omega), w64 (by omega) (by omega)]; omega
  have ht : wrap64 (Int.tdiv ((p.toNat + q.toNat + c : Nat) : Int) 2) = (((p.toNat + q.toNat + c) / 2 : Nat) : Int) := by
   rw [Int.tdiv_eq_ediv_of_nonneg (by omega), w64 (by omega) (by omega)]; rfl
  obtain ⟨L, hL, h⟩ := ih (i + 1) ((p.toNat + q.toNat + c) / 2) (l ++ [(((p.toNat + q.toNat + c) % 2 : Nat) : Int)]) (by omega) (by simp [hl]) (jI hb (lF (by omega))) (by omega)
   (by
    rw [val_append, hl]; simp only [val]
    rw [← hv, vA, vB, Nat.pow_succ, Int.toNat_natCast, Nat.mul_assoc, Nat.add_assoc, ← Nat.mul_add]
    congr 2
    omega)
  refine ⟨L, evs ?_, h⟩
  simp only [bC.l0, if_true, c1, c2, c3, c4, c5, c6, hp, hq, hs, ht, ou]
  exact hL
theorem nH {A B : List Int} {a b : Nat} (hA : iQ A a) (hB : iQ B b) (c : Nat) (hc : c ≤ 1) : ∃ L, Ev (fun k => bC.f k A B c) L ∧ iQ L ((a + b + c) % 2 ^ 64) := by
 obtain ⟨L, hL, h⟩ := plus_loop A B hA.1 hB.1 hA.2.1 hB.2.1 (a + b + c) 64 0 c [] rfl rfl (fun _ h => by cases h) hc (by simp [val, hA.2.2, hB.2.2]; omega)
 exact ⟨L, hL, h⟩
theorem other_loop (A : List Int) (hA : A.length = 64) (bA : iN A) : ∀ (d i : Nat) (l : List Int), i + d = 64 → l.length = i → iN l → val l + val (A.take i) + 1 = 2 ^ i →
  ∃ L, Ev (fun k => bO.l0 k A l i) L ∧ iQ L (2 ^ 64 - 1 - val A) := by
 intro d
 induction d with
 | zero =>
  intro i l hd hl hb hv
  obtain rfl : i = 64 := by omega
  refine ⟨l, ?_, hl, hb, ?_⟩
  ·refine evs ?_
   simp only [bO.l0, if_true, if_false, ff (show ¬ ((64 : Nat) : Int) < (A.length : Int) by omega)]
   exact Ev.now _
  ·rw [List.take_of_length_le (by omega)] at hv
   omega
 | succ d ih =>
  intro i l hd hl hb hv
  have hi : i < 64 := by omega
  have c2 := tt (show l.length < 17592186044416 by omega)
  have c3 := tt (show (0 : Int) ≤ i by omega)
  have c4 : wrap64 ((i : Int) + 1) = ((i + 1 : Nat) : Int) := by rw [w64 (by omega) (by omega)]; rfl
  have c5 := tt (show (i : Int) < (A.length : Int) by omega)
  have a1 := nS bA (show i < A.length by omega)
  have vA := qX (show i < A.length by omega)
  generalize hp : rd A i = p at a1 vA
  have hs : wrap64 (1 - p) = ((1 - p.toNat : Nat) : Int) := by rw [w64 (by omega) (by omega)]; omega
  obtain ⟨L, hL, h⟩ := ih (i + 1) (l ++ [((1 - p.toNat : Nat) : Int)]) (by omega) (by simp [hl]) (jI hb (lF (by omega)))
   (by
    rw [val_append, hl, vA, Nat.pow_succ]; simp only [val]
    rcases a1 with rfl | rfl <;> simp <;> omega)
  refine ⟨L, evs ?_, h⟩
  simp only [bO.l0, if_true, c2, c3, c4, c5, hp, hs]
  exact hL
theorem other_ok {A : List Int} {a : Nat} (hA : iQ A a) : ∃ L, Ev (fun k => bO.f k A) L ∧ iQ L (2 ^ 64 - 1 - a) := by
 obtain ⟨L, hL, h⟩ := other_loop A hA.1 hA.2.1 64 0 [] rfl rfl (fun _ h => by cases h) (by simp [val])
 rw [hA.2.2] at h
 exact ⟨L, hL, h⟩
theorem number_loop (A : List Int) (hA : A.length = 64) (bA : iN A) : ∀ (d : Nat), d ≤ 64 → Ev (fun k => bE.l0 k A (val (A.drop d) : Int) ((d : Int) - 1)) (wrap64 (val A)) := by
 intro d
 induction d with
 | zero =>
  intro _
  refine evs ?_
  simp only [bE.l0, if_true, if_false, ff (show ¬ ((0 : Nat) : Int) - 1 ≥ 0 by omega), List.drop_zero]
  exact Ev.now _
 | succ d ih =>
  intro hd
  have := ih (by omega)
  have a1 := nS bA (show d < A.length by omega)
  have vA := nX (show d < A.length by omega)
  have hlt := uE (l := A.drop d) (fun b hb => bA b (List.mem_of_mem_drop hb))
  have hlt2 : 2 ^ (A.drop d).length ≤ 2 ^ 64 := Nat.pow_le_pow_right (by omega) (by simp; omega)
  generalize hp : rd A d = p at a1 vA
  have hs : IntKind.u64.wrap (IntKind.u64.wrap ((val (A.drop (d + 1)) : Int) * 2) + IntKind.u64.wrap p) = (val (A.drop d) : Int) := by
   rw [ku, ku, ku]; omega
  refine evs ?_
  have e1 : ((d + 1 : Nat) : Int) - 1 = (d : Int) := by omega
  have h2 : wrap64 ((d : Int) - 1) = (d : Int) - 1 := w64 (by omega) (by omega)
  simp only [bE.l0, if_true, if_false, e1, tt (show (d : Int) ≥ 0 by omega), tt (show (0 : Int) ≤ (d : Int) by omega), tt (show (d : Int) < (A.length : Int) by omega), hp, hs, h2]
  exact this
theorem mE {A : List Int} {a : Nat} (hA : iQ A a) : Ev (fun k => bE.f k A) (wrap64 a) := by
 have := number_loop A hA.1 hA.2.1 64 (Zd _)
 rw [List.drop_of_length_le (by rw [hA.1]; omega), hA.2.2] at this
 exact this
end Go.Proofs.YthckiolgpgplpaaDoor.YE
end
section
/- The reference's difference, opposite and size, in plain arithmetic. -/
namespace Go.Proofs.YthckiolgpgplpaaDoor.YE
set_option linter.unusedVariables false
set_option linter.unusedSimpArgs false
open Go.RowKit YC YA YB YD
theorem Ev.fin {α : Type} {g : Nat → Option α} {r : α} (h : Ev g r) : Ev (fun k => (g k).bind fun t => some t) r := Ev.bind h (Ev.now _)
theorem sF (a b : Int) : Ev (fun k => dA.f k a b) (wrap64 (a - b)) := by
 obtain ⟨A, hA, pA⟩ := jV a
 obtain ⟨B, hB, pB⟩ := jV b
 obtain ⟨C, hC, pC⟩ := other_ok pB
 obtain ⟨D, hD, pD⟩ := nH pA pC 1 (Zd _)
 have hn := mE pD
 have e : wrap64 (((um a + (2 ^ 64 - 1 - um b) + 1) % 2 ^ 64 : Nat) : Int) = wrap64 (a - b) := by
  have := uO a
  have := uO b
  have := jS a
  have := jS b
  apply qH
  omega
 rw [e] at hn
 exact Ev.bind hA (Ev.bind hB (Ev.bind hC (Ev.bind hD (Ev.fin hn))))
theorem sj (a : Int) : Ev (fun k => dz.f k a) (wrap64 (-a)) := by
 have h := sF 0 a
 rw [Int.zero_sub] at h
 exact Ev.fin h
theorem qz (a : Int) (h0 : -9223372036854775808 ≤ a) (h1 : a ≤ 9223372036854775807) : Ev (fun k => bT.f k a) (a.natAbs : Int) := by
 unfold bT.f
 by_cases h : a < 0
 ·have e : IntKind.u64.wrap (wrap64 (-a)) = (a.natAbs : Int) := by rw [ku]; unfold wrap64; omega
  have c := tt h
  simp only [c, if_true]
  rw [← e]
  exact Ev.bind (sj a) (Ev.now _)
 ·have e : IntKind.u64.wrap a = (a.natAbs : Int) := by rw [ku]; omega
  have c := ff h
  simp only [c, if_false, e]
  exact Ev.now _
end Go.Proofs.YthckiolgpgplpaaDoor.YE
end
section
/- The reference's sums, products and quotients, in plain arithmetic. -/
namespace Go.Proofs.YthckiolgpgplpaaDoor.YE
set_option linter.unusedVariables false
set_option linter.unusedSimpArgs false
open Go.RowKit YC YA YB YD
def M64 : Nat := 18446744073709551616
theorem mul_loop (a b : Int) (Y : List Int) (hY : iQ Y (um b)) : ∀ (d i : Nat) (S X : List Int) (s x : Nat), i + d = 64 → iQ S s → iQ X x → s % M64 = um a * val (Y.take i) % M64 → x % M64 = um a * 2 ^ i % M64 →
  Ev (fun k => bM.l0 k S X Y i) (wrap64 (a * b)) := by
 intro d
 induction d with
 | zero =>
  intro i S X s x hd hS hX hs hx
  obtain rfl : i = 64 := by omega
  rw [List.take_of_length_le (by rw [hY.1]; omega), hY.2.2] at hs
  have hn := mE hS
  have e : wrap64 (s : Int) = wrap64 (a * b) := by
   apply qH
   have h1 : ((s % M64 : Nat) : Int) = ((um a * um b % M64 : Nat) : Int) := by rw [hs]
   rw [Int.natCast_emod, Int.natCast_emod, Int.natCast_mul, jS, jS] at h1
   rw [show (M64 : Int) = 18446744073709551616 from rfl] at h1
   rw [h1, ← Int.mul_emod]
  rw [e] at hn
  refine evs ?_
  have c1 := ff (show ¬ ((64 : Nat) : Int) < 64 by omega)
  simp only [bM.l0, if_false, c1]
  exact Ev.fin hn
 | succ d ih =>
  intro i S X s x hd hS hX hs hx
  have hi : i < 64 := by omega
  have c1 := tt (show (i : Int) < 64 by omega)
  have c2 := tt (show (0 : Int) ≤ i by omega)
  have c3 := tt (show (i : Int) < (Y.length : Int) by have := hY.1; omega)
  have c4 : wrap64 ((i : Int) + 1) = ((i + 1 : Nat) : Int) := by rw [w64 (by omega) (by omega)]; rfl
  have hyl : i < Y.length := by have := hY.1; omega
  have yb := nS hY.2.1 hyl
  have vt := qX hyl
  obtain ⟨X2, hX2, pX2⟩ := nH hX hX 0 (Nat.zero_le _)
  have hx2 : (x + x + 0) % 2 ^ 64 % M64 = um a * 2 ^ (i + 1) % M64 := by
   rw [show (2 : Nat) ^ 64 = M64 from rfl, Nat.mod_mod, Nat.add_zero, Nat.add_mod, hx, ← Nat.add_mod, Nat.pow_succ, ← Nat.mul_assoc, Nat.mul_two]
  rcases yb with yb | yb
  ·have c5 : (rd Y i = 1) = False := ff (by rw [yb]; decide)
   have := ih (i + 1) S X2 s _ (by omega) hS pX2 (by rw [vt, yb]; simpa using hs) hx2
   refine evs ?_
   simp only [bM.l0, if_true, if_false, c1, c2, c3, c4, c5]
   exact Ev.bind hX2 this
  ·have c5 : (rd Y i = 1) = True := tt yb
   obtain ⟨S2, hS2, pS2⟩ := nH hS hX 0 (Nat.zero_le _)
   have hs2 : (s + x + 0) % 2 ^ 64 % M64 = um a * val (Y.take (i + 1)) % M64 := by
    rw [show (2 : Nat) ^ 64 = M64 from rfl, Nat.mod_mod, Nat.add_zero, Nat.add_mod, hx, hs, ← Nat.add_mod, vt, yb]
    congr 1
    rw [Nat.mul_add]
    simp
   have := ih (i + 1) S2 X2 _ _ (by omega) pS2 pX2 hs2 hx2
   refine evs ?_
   simp only [bM.l0, if_true, c1, c2, c3, c4, c5]
   exact Ev.bind hS2 (Ev.bind hX2 this)
theorem uS (a b : Int) : Ev (fun k => bM.f k a b) (wrap64 (a * b)) := by
 obtain ⟨Z, hZ, pZ⟩ := jV 0
 obtain ⟨A, hA, pA⟩ := jV a
 obtain ⟨B, hB, pB⟩ := jV b
 exact Ev.bind hZ (Ev.bind hA (Ev.bind hB (mul_loop a b B pB 64 0 Z A _ _ rfl pZ pA (by simp [val]; rfl) (by simp))))
theorem bit_next (a i : Nat) : a / 2 ^ i = 2 * (a / 2 ^ (i + 1)) + a / 2 ^ i % 2 := by
 rw [Nat.pow_succ, ← Nat.div_div_eq_div_mul]
 omega
theorem parted_loop (a b : Nat) (hb : 0 < b) (ha : a < 2 ^ 64) (hb2 : b < 2 ^ 64) : ∀ (d : Nat) (q r : Nat), d ≤ 64 → a / 2 ^ d = q * b + r → r < b →
  Ev (fun k => aQ.l0 k (a : Int) (b : Int) (q : Int) (r : Int) ((d : Int) - 1)) (((a / b : Nat) : Int), ((a % b : Nat) : Int)) := by
 intro d
 induction d with
 | zero =>
  intro q r hd hq hr
  rw [Nat.pow_zero, Nat.div_one] at hq
  have e1 : a / b = q := by
   rw [hq, Nat.mul_comm, Nat.mul_add_div hb, Nat.div_eq_of_lt hr, Nat.add_zero]
  have e2 : a % b = r := by
   rw [hq, Nat.mul_comm, Nat.mul_add_mod, Nat.mod_eq_of_lt hr]
  rw [e1, e2]
  refine evs ?_
  have c1 := ff (show ¬ ((0 : Nat) : Int) - 1 ≥ 0 by omega)
  simp only [aQ.l0, if_false, c1]
  exact Ev.now _
 | succ d ih =>
  intro q r hd hq hr
  have e0 : ((d + 1 : Nat) : Int) - 1 = (d : Int) := by omega
  have c1 := tt (show (d : Int) ≥ 0 by omega)
  have c2 : (0 ≤ IntKind.u64.wrap (d : Int)) = True := tt (by rw [ku]; omega)
  have c3 : wrap64 ((d : Int) - 1) = (d : Int) - 1 := w64 (by omega) (by omega)
  have hqq : q * b ≤ a := Ze (Ze (Nat.le_add_right _ _) (Nat.le_of_eq hq.symm)) (Nat.div_le_self _ _)
  have hq1 : q ≤ q * b := Nat.le_mul_of_pos_right _ hb
  have hn := bit_next a d
  have hbit : Int.tmod (shr .u64 (a : Int) (IntKind.u64.wrap (d : Int))) 2 = ((a / 2 ^ d % 2 : Nat) : Int) := by
   have h2 : IntKind.u64.wrap (d : Int) = (d : Int) := by rw [ku]; omega
   have h3 : min d 64 = d := by omega
   rw [h2]
   simp only [shr, IntKind.bits, Int.toNat_natCast, h3]
   rw [show (a : Int) / 2 ^ d = ((a / 2 ^ d : Nat) : Int) by simp, ou]
  rw [hq] at hn
  have hbb : a / 2 ^ d % 2 ≤ 1 := by omega
  generalize a / 2 ^ d % 2 = bit at hn hbit hbb
  have hA : a / 2 ^ d ≤ a := Nat.div_le_self _ _
  have hq2 : 2 * q * b = 2 * (q * b) := Nat.mul_assoc ..
  have hq3 : (2 * q + 1) * b = 2 * (q * b) + b := by rw [Nat.add_mul, Nat.mul_assoc, Nat.one_mul]
  have hwx : IntKind.u64.wrap ((r : Int) * 2) = ((r * 2 % 18446744073709551616 : Nat) : Int) := by rw [ku]; omega
  have hw : IntKind.u64.wrap (IntKind.u64.wrap ((r : Int) * 2) + (bit : Int)) = (((2 * r + bit) % 18446744073709551616 : Nat) : Int) := by rw [hwx, ku]; omega
  refine evs ?_
  by_cases hge : b ≤ 2 * r + bit
  ·have hlt : 2 * q + 1 < 18446744073709551616 := by
    have : (2 * q + 1) * b ≤ a := by omega
    have h4 : 2 * q + 1 ≤ (2 * q + 1) * b := Nat.le_mul_of_pos_right _ hb
    omega
   have hq5 : IntKind.u64.wrap (IntKind.u64.wrap ((q : Int) * 2) + 1) = ((2 * q + 1 : Nat) : Int) := by rw [ku, ku]; omega
   have hr5 : IntKind.u64.wrap ((((2 * r + bit) % 18446744073709551616 : Nat) : Int) - (b : Int)) = ((2 * r + bit - b : Nat) : Int) := by rw [ku]; omega
   have := ih (2 * q + 1) (2 * r + bit - b) (by omega) (by omega) (by omega)
   by_cases ho : 9223372036854775808 ≤ r
   ·have c4 := tt (show (r : Int) ≥ 9223372036854775808 by omega)
    simp only [aQ.l0, if_true, e0, c1, c2, c3, c4, hbit, hw, hq5, hr5]
    exact this
   ·have c4 := ff (show ¬ (r : Int) ≥ 9223372036854775808 by omega)
    have c5 := tt (show (((2 * r + bit) % 18446744073709551616 : Nat) : Int) ≥ (b : Int) by omega)
    simp only [aQ.l0, if_true, if_false, e0, c1, c2, c3, c4, c5, hbit, hw, hq5, hr5]
    exact this
  ·have c4 := ff (show ¬ (r : Int) ≥ 9223372036854775808 by omega)
   have c5 := ff (show ¬ (((2 * r + bit) % 18446744073709551616 : Nat) : Int) ≥ (b : Int) by omega)
   have hlt : 2 * q < 18446744073709551616 := by
    have : 2 * q * b ≤ a := by omega
    have h4 : 2 * q ≤ 2 * q * b := Nat.le_mul_of_pos_right _ hb
    omega
   have hq5 : IntKind.u64.wrap ((q : Int) * 2) = ((2 * q : Nat) : Int) := by rw [ku]; omega
   have hr5 : (2 * r + bit) % 18446744073709551616 = 2 * r + bit := by omega
   have := ih (2 * q) (2 * r + bit) (by omega) (by omega) (by omega)
   rw [hr5] at c5 hw
   simp only [aQ.l0, if_true, if_false, e0, c1, c2, c3, c4, c5, hbit, hw, hq5]
   exact this
theorem parted_ok (a b : Nat) (hb : 0 < b) (ha : a < 2 ^ 64) (hb2 : b < 2 ^ 64) : Ev (fun k => aQ.f k (a : Int) (b : Int)) (((a / b : Nat) : Int), ((a % b : Nat) : Int)) :=
 parted_loop a b hb ha hb2 64 0 0 (Zd _) (by rw [Nat.div_eq_of_lt ha]; simp) hb
theorem sM (a b : Int) (a0 : -9223372036854775808 ≤ a) (a1 : a ≤ 9223372036854775807) (b0 : -9223372036854775808 ≤ b) (b1 : b ≤ 9223372036854775807) (hb : b ≠ 0) :
  Ev (fun k => dw.f k a b) (wrap64 (Int.tdiv a b), 0) := by
 unfold dw.f
 have c1 := ff hb
 simp only [c1, if_false]
 refine Ev.bind (qz a a0 a1) (Ev.bind (qz b b0 b1) (Ev.bind (parted_ok a.natAbs b.natAbs (by omega) (by omega) (by omega)) ?_))
 have ht : Int.tdiv a b = if (a < 0) = (b < 0) then ((a.natAbs / b.natAbs : Nat) : Int) else -((a.natAbs / b.natAbs : Nat) : Int) := by
  rcases Int.lt_or_le a 0 with ha | ha <;> rcases Int.lt_or_le b 0 with hb | hb
  ·rw [if_pos (by simp [ha, hb])]
   obtain ⟨m, rfl⟩ : ∃ m : Nat, a = -(m : Int) := ⟨a.natAbs, by omega⟩
   obtain ⟨n, rfl⟩ : ∃ n : Nat, b = -(n : Int) := ⟨b.natAbs, by omega⟩
   simp
  ·rw [if_neg (by simp [ha, Int.not_lt.mpr hb])]
   obtain ⟨m, rfl⟩ : ∃ m : Nat, a = -(m : Int) := ⟨a.natAbs, by omega⟩
   obtain ⟨n, rfl⟩ : ∃ n : Nat, b = (n : Int) := ⟨b.natAbs, by omega⟩
   simp
  ·rw [if_neg (by simp [hb, Int.not_lt.mpr ha])]
   obtain ⟨m, rfl⟩ : ∃ m : Nat, a = (m : Int) := ⟨a.natAbs, by omega⟩
   obtain ⟨n, rfl⟩ : ∃ n : Nat, b = -(n : Int) := ⟨b.natAbs, by omega⟩
   simp
  ·rw [if_pos (by simp [Int.not_lt.mpr ha, Int.not_lt.mpr hb])]
   obtain ⟨m, rfl⟩ : ∃ m : Nat, a = (m : Int) := ⟨a.natAbs, by omega⟩
   obtain ⟨n, rfl⟩ : ∃ n : Nat, b = (n : Int) := ⟨b.natAbs, by omega⟩
   simp
 rw [ht]
 generalize (a.natAbs / b.natAbs : Nat) = q
 by_cases hs : (a < 0) = (b < 0)
 ·have c2 : (((decide (a < 0)) != (decide (b < 0))) = true) = False := ff (by simp [hs])
  simp only [c2, if_false, if_pos hs]
  exact Ev.now _
 ·have c2 : (((decide (a < 0)) != (decide (b < 0))) = true) = True := tt (by
   simp only [bne_iff_ne, ne_eq, decide_eq_decide]
   exact fun h => hs (propext h))
  have e : wrap64 (-(q : Int)) = wrap64 (-(wrap64 (q : Int))) := by unfold wrap64; omega
  simp only [c2, if_true, if_neg hs]
  rw [e]
  exact Ev.bind (sj _) (Ev.now _)
theorem tdiv_in (a b : Int) (a0 : -9223372036854775808 ≤ a) (a1 : a ≤ 9223372036854775807) (hb : b ≠ 0) : wrap64 (a - wrap64 (wrap64 (Int.tdiv a b) * b)) = Int.tmod a b := by
 have h := Int.mul_tdiv_add_tmod a b
 have e : (a - wrap64 (wrap64 (Int.tdiv a b) * b)) % 18446744073709551616 = Int.tmod a b % 18446744073709551616 := by
  have h1 : wrap64 (wrap64 (Int.tdiv a b) * b) % 18446744073709551616 = (b * Int.tdiv a b) % 18446744073709551616 := by
   rw [tJ, Int.mul_comm b, Int.mul_emod, tJ, ← Int.mul_emod]
  rw [Int.sub_emod, h1, ← Int.sub_emod]
  congr 1
  omega
 have hm : -9223372036854775808 ≤ Int.tmod a b ∧ Int.tmod a b ≤ 9223372036854775807 := by
  have h2 : (Int.tmod a b).natAbs ≤ a.natAbs := by
   rw [Int.natAbs_tmod]
   exact Nat.mod_le _ _
  rcases Int.lt_or_le a 0 with ha | ha
  ·have h3 := Int.tmod_nonneg b (a := -a) (by omega)
   rw [Int.neg_tmod] at h3
   omega
  ·have h3 := Int.tmod_nonneg b ha
   omega
 rw [qH e, w64 hm.1 hm.2]
theorem Mod_ok (a b : Int) (a0 : -9223372036854775808 ≤ a) (a1 : a ≤ 9223372036854775807) (b0 : -9223372036854775808 ≤ b) (b1 : b ≤ 9223372036854775807) (hb : b ≠ 0) :
  Ev (fun k => eP.f k a b) (Int.tmod a b, 0) := by
 unfold eP.f
 refine Ev.bind (sM a b a0 a1 b0 b1 hb) ?_
 simp only [if_true]
 refine Ev.bind (uS _ b) ?_
 rw [← tdiv_in a b a0 a1 hb]
 exact Ev.bind (sF _ _) (Ev.now _)
end Go.Proofs.YthckiolgpgplpaaDoor.YE
end
section
/- Texts as lists of byte values. -/
namespace Go.Proofs.YthckiolgpgplpaaDoor.YE
set_option linter.unusedVariables false
set_option linter.unusedSimpArgs false
open Go.RowKit YC YA YB YD
theorem toList_loop (s : ByteArray) : ∀ (d i : Nat) (r : List UInt8), i + d = s.size → ByteArray.toList.loop s i r = r.reverse ++ s.data.toList.drop i := by
 intro d
 induction d with
 | zero =>
  intro i r h
  have h2 : s.data.toList.length = s.size := kG s
  rw [ByteArray.toList.loop, if_neg (by omega), List.drop_of_length_le (by omega), List.append_nil]
 | succ d ih =>
  intro i r h
  have h2 : s.data.toList.length = s.size := kG s
  rw [ByteArray.toList.loop, if_pos (by omega), ih (i + 1) _ (by omega), List.drop_eq_getElem_cons (show i < s.data.toList.length by omega)]
  have e : s.get! i = s.data.toList[i] := by
   have h3 : i < s.data.size := by rw [Array.length_toList] at h2; omega
   rw [ByteArray.get!, Array.getElem_toList]
   exact getElem!_pos s.data i h3
  rw [e]
  simp
theorem toList_data (s : ByteArray) : s.toList = s.data.toList := by
 rw [ByteArray.toList, toList_loop s s.size 0 [] (by omega)]
 simp
theorem oh {a b : ByteArray} (h : a.data.toList = b.data.toList) : a = b := by
 cases a; cases b; simp at h; simp [h]
theorem toNat_inj : ∀ {a b : List UInt8}, (a.map fun x => ((x.toNat : Nat) : Int)) = (b.map fun x => ((x.toNat : Nat) : Int)) → a = b
 | [], [], _ => rfl
 | [], _ :: _, h => by simp at h
 | _ :: _, [], h => by simp at h
 | x :: a, y :: b, h => by
  simp only [List.map_cons, List.cons.injEq] at h
  obtain ⟨h1, h2⟩ := h
  have : x = y := UInt8.toNat_inj.mp (by omega)
  rw [this, toNat_inj h2]
theorem bytesOf_inj {a b : ByteArray} (h : bytesOf a = bytesOf b) : a = b := oh (toNat_inj h)
theorem oG (a : ByteArray) : a.toList = ([] : List UInt8) ↔ bytesOf a = [] := by
 rw [toList_data, bytesOf]
 simp
def Byte (c : Int) : Prop := 0 ≤ c ∧ c ≤ 255
theorem lN {s : ByteArray} {c : Int} (h : c ∈ bytesOf s) : Byte c := by
 obtain ⟨x, _, rfl⟩ := List.mem_map.1 h
 have := x.toNat_lt
 exact ⟨by omega, by omega⟩
theorem dW {l : List Int} (h : ∀ c ∈ l, Byte c) : bytesOf (strOfNums l) = l := by
 unfold bytesOf strOfNums
 simp only [List.map_map]
 rw [List.map_congr_left (g := id) (fun c hc => ?_), List.map_id]
 obtain ⟨h0, h1⟩ := h c hc
 simp only [Function.comp, id]
 rw [UInt8.toNat_ofNat', Nat.mod_eq_of_lt (by omega)]
 omega
theorem strOfNums_bytesOf (s : ByteArray) : strOfNums (bytesOf s) = s := bytesOf_inj (dW (fun _ h => lN h))
theorem uX {l : List Int} {i : Nat} (h : i < l.length) : rd l i = l[i] := by simp [rd, List.getD, h]
end Go.Proofs.YthckiolgpgplpaaDoor.YE
end
section
/- Texts of numbers: the digits, and that both programs lay the same. -/
namespace Go.Proofs.YthckiolgpgplpaaDoor.YE
set_option linter.unusedVariables false
set_option linter.unusedSimpArgs false
open Go.RowKit YC YA YB YD
def Digit (c : Int) : Prop := 48 ≤ c ∧ c ≤ 57
def dv : List Int → Nat → Nat
 | [], u => u
 | c :: l, u => dv l (u * 10 + (c - 48).toNat)
theorem dv_append (a b : List Int) : ∀ u, dv (a ++ b) u = dv b (dv a u) := by
 induction a with
 | nil => intro u; rfl
 | cons c a ih => intro u; exact ih _
def Canon (l : List Int) : Prop := (∀ c ∈ l, Digit c) ∧ l ≠ [] ∧ (rd l 0 = 48 → l.length = 1)
theorem oq : ∀ (k : Nat) (u : Nat) (acc : List Int), 1 ≤ k → u < 10 ^ k → ∃ ds, aV.digs k u acc = ds ++ acc ∧ Canon ds ∧ dv ds 0 = u ∧ ds.length ≤ k
 | 0, u, acc, h, _ => absurd h (by omega)
 | k + 1, u, acc, _, hu => by
  have hdig : Digit (48 + (u : Int) % 10) := ⟨by omega, by omega⟩
  rw [aV.kU]
  by_cases h : (u : Int) / 10 = 0
  ·rw [if_pos h]
   refine ⟨[48 + (u : Int) % 10], rfl, ⟨?_, by simp, fun _ => rfl⟩, ?_, by simp⟩
   ·intro c hc
    simp at hc
    subst hc
    exact hdig
   ·simp only [dv]; omega
  ·rw [if_neg h]
   have hk : 1 ≤ k := by
    rcases Nat.eq_zero_or_pos k with e | e
    ·subst e
     simp at hu
     omega
    ·exact e
   obtain ⟨ds, e, ⟨c1, c2, c3⟩, hv, hl⟩ := oq k (u / 10) ((48 + (u : Int) % 10) :: acc) hk (by rw [Nat.pow_succ] at hu; omega)
   have e2 : aV.digs k ((u : Int) / 10) ((48 + (u : Int) % 10) :: acc) = aV.digs k ((u / 10 : Nat) : Int) ((48 + (u : Int) % 10) :: acc) := by congr 1
   rw [e2, e]
   refine ⟨ds ++ [48 + (u : Int) % 10], by simp, ⟨?_, by simp, ?_⟩, ?_, by simp; omega⟩
   ·intro c hc
    rcases Zn.1 hc with h | h
    ·exact c1 c h
    ·simp at h
     subst h
     exact hdig
   ·intro h0
    exfalso
    have hl0 : 0 < ds.length := List.length_pos_iff.2 c2
    have h48 : rd ds 0 = 48 := by
     have h1 : rd (ds ++ [48 + (u : Int) % 10]) ((0 : Nat) : Int) = rd ds ((0 : Nat) : Int) := by
      rw [uX (by simp), uX hl0, List.getElem_append_left hl0]
     exact h1.symm.trans h0
    have h1 := c3 h48
    obtain ⟨x, rfl⟩ := List.length_eq_one_iff.1 h1
    have : x = 48 := h48
    subst this
    simp [dv] at hv
    omega
   ·rw [dv_append, hv]
    simp only [dv]
    omega
def T (a : Int) : List Int := if a < 0 then 45 :: aV.digs 20 (aV.abs a) [] else aV.digs 20 (aV.abs a) []
theorem tQ (a : Int) : aV.abs a = ((a.natAbs : Nat) : Int) := by unfold aV.abs; split <;> omega
theorem uQ (a : Int) (h0 : -9223372036854775808 ≤ a) (h1 : a ≤ 9223372036854775807) : ∃ ds, Canon ds ∧ dv ds 0 = a.natAbs ∧ ds.length ≤ 20 ∧ T a = if a < 0 then 45 :: ds else ds := by
 obtain ⟨ds, e, hc, hv, hl⟩ := oq 20 a.natAbs [] (by omega) (by omega)
 refine ⟨ds, hc, hv, hl, ?_⟩
 unfold T
 rw [tQ, e, List.append_nil]
theorem sH (a : Int) (h0 : -9223372036854775808 ≤ a) (h1 : a ≤ 9223372036854775807) : ∀ c ∈ T a, Byte c := by
 obtain ⟨ds, ⟨c1, _, _⟩, _, _, e⟩ := uQ a h0 h1
 intro c hc
 rw [e] at hc
 split at hc
 ·rcases List.mem_cons.1 hc with rfl | h
  ·exact ⟨by omega, by omega⟩
  ·obtain ⟨x, y⟩ := c1 c h; exact ⟨by omega, by omega⟩
 ·obtain ⟨x, y⟩ := c1 c hc; exact ⟨by omega, by omega⟩
theorem tL (a : Int) (h0 : -9223372036854775808 ≤ a) (h1 : a ≤ 9223372036854775807) : aV.f a = some (strOfNums (T a)) := by
 unfold aV.f T
 rw [if_pos h0, if_pos h1]
 split <;> rfl
theorem qP (a : Int) (h0 : -9223372036854775808 ≤ a) (h1 : a ≤ 9223372036854775807) : (T a).length ≤ 21 := by
 obtain ⟨ds, _, _, hl, e⟩ := uQ a h0 h1
 rw [e]
 split
 ·simp; omega
 ·omega
theorem iL (d : Int) (l : List Int) : strOfNums [d] ++ strOfNums l = strOfNums (d :: l) := by
 apply oh
 simp [strOfNums]
theorem strOfNums_size (l : List Int) : (strOfNums l).size = l.length := by
 simp [strOfNums, ByteArray.size]
theorem iZ (l : List Int) : (strOfNums l).toList = ([] : List UInt8) ↔ l = [] := by
 rw [toList_data]
 simp [strOfNums]
theorem lW (a : Int) : ∀ (k : Nat) (u : Nat) (acc : List Int), (acc = [] ∨ 0 < u) → u < 10 ^ k → 1 ≤ k → acc.length + k ≤ 40 → u < 18446744073709551616 →
  Ev (fun n => bz.l0 n a (strOfNums acc) u) (if a < 0 then strOfNums (45 :: aV.digs k u acc) else strOfNums (aV.digs k u acc))
 | 0, u, acc, _, _, h, _, _ => absurd h (by omega)
 | k + 1, u, acc, hs, hu, _, hlen, hu2 => by
  have hd : (IntKind.u64.wrap (48 + Int.tmod (u : Int) 10)) % 256 = 48 + (u : Int) % 10 := by
   rw [Int.tmod_eq_emod_of_nonneg (by omega), ku]; omega
  have hq : IntKind.u64.wrap (Int.tdiv (u : Int) 10) = ((u / 10 : Nat) : Int) := by
   rw [Int.tdiv_eq_ediv_of_nonneg (by omega), ku]; omega
  have c1 := tt (show (strOfNums [48 + (u : Int) % 10]).size + (strOfNums acc).size ≤ 9223372036854775807 by
   rw [strOfNums_size, strOfNums_size]; simp; omega)
  have hdiv : (u : Int) / 10 = ((u / 10 : Nat) : Int) := by omega
  have next : Ev (fun n => bz.l0 n a (strOfNums ((48 + (u : Int) % 10) :: acc)) ((u / 10 : Nat) : Int)) (if a < 0 then strOfNums (45 :: aV.digs (k + 1) u acc) else strOfNums (aV.digs (k + 1) u acc)) := by
   rw [aV.kU]
   by_cases h : (u : Int) / 10 = 0
   ·rw [if_pos h]
    have hz : u / 10 = 0 := by omega
    refine evs ?_
    have c2 := ff (show ¬ (strOfNums ((48 + (u : Int) % 10) :: acc)).toList = ([] : List UInt8) by rw [iZ]; simp)
    have c3 := ff (show ¬ ((0 : Nat) : Int) > 0 by omega)
    have c4 := tt (show 1 + (strOfNums ((48 + (u : Int) % 10) :: acc)).size ≤ 9223372036854775807 by rw [strOfNums_size]; simp; omega)
    have e45 : (⟨#[45]⟩ : ByteArray) = strOfNums [45] := rfl
    simp only [bz.l0, hz, if_true, if_false, c2, c3, c4]
    by_cases ha : a < 0
    ·simp only [if_pos ha]
     rw [e45, iL]
     exact Ev.now _
    ·simp only [if_neg ha]
     exact Ev.now _
   ·rw [if_neg h, hdiv]
    exact lW a k (u / 10) _ (.inr (by omega)) (by rw [Nat.pow_succ] at hu; omega) (by
     rcases Nat.eq_zero_or_pos k with e | e
     ·subst e; simp at hu; omega
     ·exact e) (by simp; omega) (by omega)
  refine evs ?_
  rcases hs with hs | hs
  ·have c2 := tt (show (strOfNums acc).toList = ([] : List UInt8) by rw [iZ]; exact hs)
   simp only [bz.l0, if_true, c1, c2, hd, hq, Option.bind_some, iL]
   exact next
  ·by_cases hn : acc = []
   ·have c2 := tt (show (strOfNums acc).toList = ([] : List UInt8) by rw [iZ]; exact hn)
    simp only [bz.l0, if_true, c1, c2, hd, hq, Option.bind_some, iL]
    exact next
   ·have c2 := ff (show ¬ (strOfNums acc).toList = ([] : List UInt8) by rw [iZ]; exact hn)
    have c3 := tt (show (u : Int) > 0 by omega)
    simp only [bz.l0, if_true, if_false, c1, c2, c3, hd, hq, Option.bind_some, iL]
    exact next
theorem oN (a : Int) (h0 : -9223372036854775808 ≤ a) (h1 : a ≤ 9223372036854775807) : Ev (fun k => bz.f k a) (strOfNums (T a)) := by
 unfold bz.f
 refine Ev.bind (qz a h0 h1) ?_
 have := lW a 20 a.natAbs [] (.inl rfl) (by omega) (by omega) (by simp) (by omega)
 have e : (if a < 0 then strOfNums (45 :: aV.digs 20 (a.natAbs : Int) []) else strOfNums (aV.digs 20 (a.natAbs : Int) [])) = strOfNums (T a) := by
  unfold T
  rw [tQ]
  split <;> rfl
 rw [e] at this
 exact this
end Go.Proofs.YthckiolgpgplpaaDoor.YE
end
section
/- Words joined: what num.Join comes to. -/
namespace Go.Proofs.YthckiolgpgplpaaDoor.YE
set_option linter.unusedVariables false
set_option linter.unusedSimpArgs false
open Go.RowKit YC YA YB YD
def jn : Bool → List (List Int) → List Int
 | _, [] => []
 | false, w :: l => w ++ jn true l
 | true, w :: l => 32 :: (w ++ jn true l)
def tl : List (List Int) → Nat
 | [] => 0
 | w :: l => 1 + w.length + tl l
theorem bdrop_rd {l : List ByteArray} {i : Nat} (h : i < l.length) : l.drop i = dN ByteArray.empty l i :: l.drop (i + 1) := by
 rw [List.drop_eq_getElem_cons h]
 simp [dN, List.getD, h]
theorem Join_loop (l : List ByteArray) : ∀ (d i : Nat) (out : List Int), i + d = l.length → l.length ≤ 9000000000000000000 → (i = 0 → out = []) → out.length + tl ((l.drop i).map bytesOf) < 140737488355328 →
  Ev (fun k => cz.l0 k out l l.length i) (strOfNums (out ++ jn (decide (0 < i)) ((l.drop i).map bytesOf))) := by
 intro d
 induction d with
 | zero =>
  intro i out hd hlen h0 hsz
  rw [List.drop_of_length_le (by omega)]
  refine evs ?_
  have c1 := ff (show ¬ (i : Int) < (l.length : Int) by omega)
  simp only [cz.l0, c1, if_false, List.map_nil, jn, List.append_nil]
  exact Ev.now _
 | succ d ih =>
  intro i out hd hlen h0 hsz
  have hi : i < l.length := by omega
  have c1 := tt (show (i : Int) < (l.length : Int) by omega)
  have c2 := tt (show (0 : Int) ≤ i by omega)
  have c4 : wrap64 ((i : Int) + 1) = ((i + 1 : Nat) : Int) := by rw [w64 (by omega) (by omega)]; rfl
  rw [bdrop_rd hi] at hsz ⊢
  generalize hs : dN ByteArray.empty l i = s at hsz ⊢
  simp only [List.map_cons, tl, bytesOf_length] at hsz
  have hnext : decide (0 < i + 1) = true := by simp
  by_cases h : 0 < i
  ·have c5 := tt (show (i : Int) > 0 by omega)
   have c6 := tt (show out.length < 140737488355328 by omega)
   have c7 := tt (show (out ++ [32]).length + s.size < 140737488355328 by simp only [List.length_append, List.length_cons, List.length_nil]; omega)
   have := ih (i + 1) (out ++ [32] ++ bytesOf s) (by omega) hlen (by omega) (by simp only [List.length_append, List.length_cons, List.length_nil, bytesOf_length]; omega)
   rw [hnext] at this
   have e : decide (0 < i) = true := Za h
   rw [e]
   refine evs ?_
   simp only [cz.l0, c1, c2, c4, c5, c6, if_true, Option.bind_some, hs, c7]
   simp only [List.map_cons, jn]
   rw [show out ++ 32 :: (bytesOf s ++ jn true (List.map bytesOf (l.drop (i + 1)))) = out ++ [32] ++ bytesOf s ++ jn true (List.map bytesOf (l.drop (i + 1))) by simp]
   exact this
  ·have hz : i = 0 := by omega
   have ho := h0 hz
   have c5 := ff (show ¬ (i : Int) > 0 by omega)
   have c7 := tt (show out.length + s.size < 140737488355328 by omega)
   have := ih (i + 1) (out ++ bytesOf s) (by omega) hlen (by omega) (by simp only [List.length_append, bytesOf_length]; omega)
   rw [hnext] at this
   have e : decide (0 < i) = false := Zb h
   rw [e]
   refine evs ?_
   simp only [cz.l0, c1, c2, c4, c5, if_true, if_false, hs, c7]
   simp only [List.map_cons, jn]
   rw [← List.append_assoc]
   exact this
theorem qG (l : List ByteArray) (hlen : l.length ≤ 9000000000000000000) (hsz : tl (l.map bytesOf) < 140737488355328) : Ev (fun k => cz.f k l) (strOfNums (jn false (l.map bytesOf))) := by
 have := Join_loop l l.length 0 [] (by omega) hlen (fun _ => rfl) (by simpa using hsz)
 exact this
end Go.Proofs.YthckiolgpgplpaaDoor.YE
end
section
/- An instruction's line: both programs say the same; a line's instruction, too. -/
namespace Go.Proofs.YthckiolgpgplpaaDoor.YE
set_option linter.unusedVariables false
set_option linter.unusedSimpArgs false
open Go.RowKit YC YA YB YD
theorem two (l : List Int) (x : Int) (hl : ∀ c ∈ l, Byte c) (hn : l.length ≤ 5) (h0 : -9223372036854775808 ≤ x) (h1 : x ≤ 9223372036854775807) : Ev (fun k => cz.f k [strOfNums l, strOfNums (T x)]) (strOfNums (l ++ 32 :: T x)) := by
 have bl := dW hl
 have bt := dW (sH x h0 h1)
 have := qP x h0 h1
 have h := qG [strOfNums l, strOfNums (T x)] (by simp) (by simp only [List.map_cons, List.map_nil, bl, bt, tl]; omega)
 simpa [bl, bt, jn] using h
theorem three (l : List Int) (y x : Int) (hl : ∀ c ∈ l, Byte c) (hn : l.length ≤ 5) (h0 : -9223372036854775808 ≤ x) (h1 : x ≤ 9223372036854775807) (g0 : -9223372036854775808 ≤ y) (g1 : y ≤ 9223372036854775807) : Ev (fun k => cz.f k [strOfNums l, strOfNums (T y), strOfNums (T x)]) (strOfNums (l ++ 32 :: (T y ++ 32 :: T x))) := by
 have bl := dW hl
 have bt := dW (sH x h0 h1)
 have by_ := dW (sH y g0 g1)
 have := qP x h0 h1
 have := qP y g0 g1
 have h := qG [strOfNums l, strOfNums (T y), strOfNums (T x)] (by simp) (by simp only [List.map_cons, List.map_nil, bl, bt, by_, tl]; omega)
 simpa [bl, bt, by_, jn] using h
theorem one (l : List Int) (hl : ∀ c ∈ l, Byte c) (hn : l.length ≤ 5) : Ev (fun k => cz.f k [strOfNums l]) (strOfNums l) := by
 have bl := dW hl
 have h := qG [strOfNums l] (by simp) (by simp only [List.map_cons, List.map_nil, bl, tl]; omega)
 simpa [bl, jn] using h
def NUMS : List Int := [0, 1, 1, 1, 2, 2, 2, 0, 0, 0, 0, 0, 0, 0, 0, 0, 0, 1, 1, 2, 1, 0, 0, 0, 2, 0]
def wd (op : Int) : List Int := bytesOf (dN ByteArray.empty aT op)
def nm (op : Int) : Int := rd NUMS op
theorem ops {op : Int} (h0 : 1 ≤ op) (h1 : op ≤ 25) : op = 1 ∨ op = 2 ∨ op = 3 ∨ op = 4 ∨ op = 5 ∨ op = 6 ∨ op = 7 ∨ op = 8 ∨ op = 9 ∨ op = 10 ∨ op = 11 ∨ op = 12 ∨ op = 13 ∨ op = 14 ∨ op = 15 ∨ op = 16 ∨ op = 17 ∨ op = 18 ∨ op = 19 ∨ op = 20 ∨ op = 21 ∨ op = 22 ∨ op = 23 ∨ op = 24 ∨ op = 25 := by omega
theorem numbers_at {op : Int} (h0 : 1 ≤ op) (h1 : op ≤ 25) : bG.f 1 op = some (nm op) := by
 rcases ops h0 h1 with rfl | rfl | rfl | rfl | rfl | rfl | rfl | rfl | rfl | rfl | rfl | rfl | rfl | rfl | rfl | rfl | rfl | rfl | rfl | rfl | rfl | rfl | rfl | rfl | rfl <;> kernel_rfl
theorem numbers_ok {op : Int} (h0 : 1 ≤ op) (h1 : op ≤ 25) : Ev (fun k => bG.f k op) (nm op) := Ev.of (fun k => bG.mono _ k) (numbers_at h0 h1)
theorem vk {op : Int} (h0 : 1 ≤ op) (h1 : op ≤ 25) : bV.f op = some (dN ByteArray.empty aT op, nm op, rd aN (op * 2), rd aN (op * 2 + 1)) := by
 rcases ops h0 h1 with rfl | rfl | rfl | rfl | rfl | rfl | rfl | rfl | rfl | rfl | rfl | rfl | rfl | rfl | rfl | rfl | rfl | rfl | rfl | rfl | rfl | rfl | rfl | rfl | rfl <;> kernel_rfl
theorem Of_none {op : Int} (h : op < 1 ∨ 25 < op) : bV.f op = some ((⟨#[]⟩ : ByteArray), 0, 0, 0) := by
 unfold bV.f
 rw [Option.bind_some]
 rcases h with h | h
 ·rw [if_pos h]
 ·rw [if_neg (by omega), if_pos (by simp only [List.length_cons, List.length_nil]; omega)]
theorem vF {op : Int} (h0 : 1 ≤ op) (h1 : op ≤ 25) : nm op = 0 ∨ nm op = 1 ∨ nm op = 2 := by
 rcases ops h0 h1 with rfl | rfl | rfl | rfl | rfl | rfl | rfl | rfl | rfl | rfl | rfl | rfl | rfl | rfl | rfl | rfl | rfl | rfl | rfl | rfl | rfl | rfl | rfl | rfl | rfl <;> decide
theorem ul {op : Int} (h0 : 1 ≤ op) (h1 : op ≤ 25) : (wd op).length ≤ 5 ∧ (wd op ≠ []) ∧ ∀ c ∈ wd op, c ≠ 32 := by
 rcases ops h0 h1 with rfl | rfl | rfl | rfl | rfl | rfl | rfl | rfl | rfl | rfl | rfl | rfl | rfl | rfl | rfl | rfl | rfl | rfl | rfl | rfl | rfl | rfl | rfl | rfl | rfl <;> exact ⟨by decide +kernel, by decide +kernel, by decide +kernel⟩
theorem wd_byte (op : Int) : ∀ c ∈ wd op, Byte c := fun _ h => lN h
theorem uU (op : Int) : strOfNums (wd op) = dN ByteArray.empty aT op := strOfNums_bytesOf _
def TX (op n m : Int) : ByteArray × Int :=
 if op < 1 ∨ 25 < op then (⟨#[]⟩, 61) else if nm op < 1 ∧ n ≠ 0 ∨ nm op < 2 ∧ m ≠ 0 then (⟨#[]⟩, 61) else
  (strOfNums (if nm op < 1 then wd op else if nm op < 2 then wd op ++ 32 :: T n else wd op ++ 32 :: (T n ++ 32 :: T m)), 0)
theorem Text_ok (op n m : Int) (n0 : -9223372036854775808 ≤ n) (n1 : n ≤ 9223372036854775807) (m0 : -9223372036854775808 ≤ m) (m1 : m ≤ 9223372036854775807) : Ev (fun k => dJ.f k op n m) (TX op n m) := by
 unfold dJ.f TX
 by_cases h0 : op < 1
 ·rw [if_pos (.inl h0)]; simp only [tt h0, if_true]; exact Ev.now _
 by_cases h1 : 25 < op
 ·rw [if_pos (.inr h1)]; simp only [ff h0, tt (show op > 25 from h1), if_true, if_false]; exact Ev.now _
 rw [if_neg (by omega)]
 simp only [ff h0, ff (show ¬ op > 25 from h1), if_false]
 refine Ev.bind (numbers_ok (by omega) (by omega)) ?_
 obtain ⟨wl, _, _⟩ := ul (op := op) (by omega) (by omega)
 have wb := wd_byte op
 simp only [← uU op]
 rw [show aV.f n = some (strOfNums (T n)) from tL n n0 n1, show aV.f m = some (strOfNums (T m)) from tL m m0 m1]
 rcases vF (op := op) (by omega) (by omega) with e | e | e <;> rw [e]
 ·by_cases hn : n = 0
  ·by_cases hm : m = 0
   ·rw [if_neg (by omega)]
    simp only [show (0 : Int) < 1 by decide, if_true, tt hn, tt hm]
    exact Ev.bind (one _ wb wl) (Ev.now _)
   ·rw [if_pos (.inr ⟨by decide, hm⟩)]
    simp only [show (0 : Int) < 1 by decide, if_true, if_false, tt hn, ff hm]
    exact Ev.now _
  ·rw [if_pos (.inl ⟨by decide, hn⟩)]
   simp only [show (0 : Int) < 1 by decide, if_true, if_false, ff hn]
   exact Ev.now _
 ·simp only [ff (show ¬ (1 : Int) < 1 by decide), tt (show (1 : Int) < 2 by decide), if_true, if_false, false_and, false_or, true_and, Option.bind_some]
  by_cases hm : m = 0
  ·rw [if_neg (by simpa using hm)]
   simp only [tt hm, if_true]
   exact Ev.bind (two _ _ wb wl n0 n1) (Ev.now _)
  ·rw [if_pos hm]
   simp only [ff hm, if_false]
   exact Ev.now _
 ·simp only [ff (show ¬ (2 : Int) < 1 by decide), ff (show ¬ (2 : Int) < 2 by decide), if_true, if_false, false_and, false_or, or_self, Option.bind_some]
  exact Ev.bind (three _ _ _ wb wl m0 m1 n0 n1) (Ev.now _)
theorem strs (a b : List Int) : strOfNums a ++ strOfNums b = strOfNums (a ++ b) := by
 apply oh
 simp [strOfNums]
theorem blank : (⟨#[32]⟩ : ByteArray) = strOfNums [32] := by decide
theorem refj0_ok (op n m : Int) (w : List Int) (c t l : Int) (hc : c = 0 ∨ c = 1 ∨ c = 2) (hw : w.length ≤ 5) (n0 : -9223372036854775808 ≤ n) (n1 : n ≤ 9223372036854775807) (m0 : -9223372036854775808 ≤ m) (m1 : m ≤ 9223372036854775807) :
  Ev (fun k => aX.j0 k false op n m (strOfNums w) c t l) (strOfNums (if c < 1 then w else if c < 2 then w ++ 32 :: T n else w ++ 32 :: (T n ++ 32 :: T m)), 0) := by
 refine evs ?_
 have c0 := ff (show ¬ (false = true) by decide)
 have hn := oN n n0 n1
 have hm := oN m m0 m1
 have ln := qP n n0 n1
 have lm := qP m m0 m1
 have d1 := tt (show w.length + 1 ≤ 9223372036854775807 by omega)
 have d2 := tt (show (w ++ [32]).length + (T n).length ≤ 9223372036854775807 by simp only [List.length_append, List.length_cons, List.length_nil]; omega)
 have d3 := tt (show ((w ++ [32]) ++ T n).length + 1 ≤ 9223372036854775807 by simp only [List.length_append, List.length_cons, List.length_nil]; omega)
 have d4 := tt (show (((w ++ [32]) ++ T n) ++ [32]).length + (T m).length ≤ 9223372036854775807 by simp only [List.length_append, List.length_cons, List.length_nil]; omega)
 simp only [aX.j0, c0, if_false, blank, strs, strOfNums_size, d1, if_true]
 rcases hc with rfl | rfl | rfl
 ·simp only [ff (show ¬ (0 : Int) > 0 by decide), ff (show ¬ (0 : Int) > 1 by decide), tt (show (0 : Int) < 1 by decide), if_true, if_false]
  exact Ev.now _
 ·simp only [tt (show (1 : Int) > 0 by decide), ff (show ¬ (1 : Int) > 1 by decide), ff (show ¬ (1 : Int) < 1 by decide), tt (show (1 : Int) < 2 by decide), if_true, if_false]
  refine Ev.bind hn ?_
  simp only [strs, strOfNums_size, d2, if_true]
  rw [show w ++ 32 :: T n = w ++ [32] ++ T n by simp]
  exact Ev.now _
 ·simp only [tt (show (2 : Int) > 0 by decide), tt (show (2 : Int) > 1 by decide), ff (show ¬ (2 : Int) < 1 by decide), ff (show ¬ (2 : Int) < 2 by decide), if_true, if_false]
  refine Ev.bind hn ?_
  simp only [strs, strOfNums_size, d2, d3, if_true]
  refine Ev.bind hm ?_
  simp only [strs, strOfNums_size, d4, if_true]
  rw [show w ++ 32 :: (T n ++ 32 :: T m) = w ++ [32] ++ T n ++ [32] ++ T m by simp]
  exact Ev.now _
theorem pQ (op n m : Int) (w : ByteArray) (c t l : Int) : Ev (fun k => aX.j0 k true op n m w c t l) ((⟨#[]⟩ : ByteArray), 61) := by
 refine evs ?_
 simp only [aX.j0, if_true]
 exact Ev.now _
theorem uV {m : Int} (h : m = 0) : (m != 0) = false := by simp [h]
theorem uo {m : Int} (h : ¬ m = 0) : (m != 0) = true := by simp [h]
theorem refText08_ok (op n m : Int) (n0 : -9223372036854775808 ≤ n) (n1 : n ≤ 9223372036854775807) (m0 : -9223372036854775808 ≤ m) (m1 : m ≤ 9223372036854775807) : Ev (fun k => aX.f k op n m) (TX op n m) := by
 unfold aX.f TX
 by_cases h : op < 1 ∨ 25 < op
 ·rw [if_pos h, Of_none h]
  simp only [Option.bind_some, tt ((oG (⟨#[]⟩ : ByteArray)).2 rfl), if_true]
  exact pQ _ _ _ _ _ _ _
 rw [if_neg h, vk (op := op) (by omega) (by omega)]
 obtain ⟨wl, wn, _⟩ := ul (op := op) (by omega) (by omega)
 have hc := vF (op := op) (by omega) (by omega)
 have c1 := ff (show ¬ (dN ByteArray.empty aT op).toList = ([] : List UInt8) from fun h => wn ((oG _).1 h))
 simp only [Option.bind_some, c1, if_false]
 rw [← uU op]
 have good := fun h0 h1 h2 h3 => refj0_ok op n m (wd op) (nm op) (rd aN (op * 2)) (rd aN (op * 2 + 1)) hc wl h0 h1 h2 h3
 have bad := pQ op n m (strOfNums (wd op)) (nm op) (rd aN (op * 2)) (rd aN (op * 2 + 1))
 by_cases h1 : nm op < 1
 ·have h2 : nm op < 2 := by omega
  by_cases hn : n = 0
  ·by_cases hm : m = 0
   ·rw [if_neg (by omega)]
    simp only [tt h1, tt h2, tt hn, if_true, uV hm]
    have := good n0 n1 m0 m1
    rw [if_pos h1] at this
    exact this
   ·rw [if_pos (.inr ⟨h2, hm⟩)]
    simp only [tt h1, tt h2, tt hn, if_true, uo hm]
    exact bad
  ·rw [if_pos (.inl ⟨h1, hn⟩)]
   simp only [tt h1, ff hn, if_true, if_false]
   exact bad
 ·by_cases h2 : nm op < 2
  ·by_cases hm : m = 0
   ·rw [if_neg (by omega)]
    simp only [ff h1, tt h2, if_true, if_false, uV hm]
    have := good n0 n1 m0 m1
    rw [if_neg h1, if_pos h2] at this
    exact this
   ·rw [if_pos (.inr ⟨h2, hm⟩)]
    simp only [ff h1, tt h2, if_true, if_false, uo hm]
    exact bad
  ·rw [if_neg (by omega)]
   simp only [ff h1, ff h2, if_true, if_false]
   have := good n0 n1 m0 m1
   rw [if_neg h1, if_neg h2] at this
   exact this
def WX (op n m : Int) : List (List Int) := if nm op < 1 then [wd op] else if nm op < 2 then [wd op, T n] else [wd op, T n, T m]
def qF (op n m : Int) : Prop := (1 ≤ op ∧ op ≤ 25) ∧ (nm op < 1 → n = 0) ∧ (nm op < 2 → m = 0)
theorem TX_fine {op n m : Int} (h : qF op n m) : TX op n m = (strOfNums (jn false (WX op n m)), 0) := by
 obtain ⟨⟨h0, h1⟩, h2, h3⟩ := h
 unfold TX WX
 rw [if_neg (by omega), if_neg (by
  rintro (⟨a, b⟩ | ⟨a, b⟩)
  ·exact b (h2 a)
  ·exact b (h3 a))]
 split
 ·simp [jn]
 ·split <;> simp [jn]
theorem TX_not {op n m : Int} (h : ¬ qF op n m) : TX op n m = (⟨#[]⟩, 61) := by
 unfold TX
 by_cases h0 : op < 1 ∨ 25 < op
 ·rw [if_pos h0]
 rw [if_neg h0]
 by_cases h1 : nm op < 1 ∧ n ≠ 0 ∨ nm op < 2 ∧ m ≠ 0
 ·rw [if_pos h1]
 refine absurd ⟨by omega, fun h2 => ?_, fun h2 => ?_⟩ h
 ·by_cases e : n = 0
  ·exact e
  ·exact absurd (.inl ⟨h2, e⟩) h1
 ·by_cases e : m = 0
  ·exact e
  ·exact absurd (.inr ⟨h2, e⟩) h1
instance (op n m : Int) : Decidable (qF op n m) := by unfold qF; exact inferInstance
end Go.Proofs.YthckiolgpgplpaaDoor.YE
end
section
/- Heights of places that can be reached: a table that is whole is the only one; plain Lean. -/
namespace Go.Proofs.YthckiolgpgplpaaDoor.YE
set_option linter.unusedVariables false
set_option linter.unusedSimpArgs false
open Go.RowKit YC YA YB YD
theorem mP (H : List Int) (p : Nat) (v : Int) (h : p < H.length) : rd (H.set p v) (p : Int) = v := by simp [rd, List.getD, h]
theorem jl (H : List Int) (p q : Nat) (v : Int) (h : p ≠ q) : rd (H.set p v) (q : Int) = rd H (q : Int) := by simp [rd, List.getD, List.getElem?_set_ne h]
theorem nP {l : List Int} {i : Nat} (h : i < l.length) : rd l (i : Int) = l[i] := by simp [rd, List.getD, h]
structure Net where
 n : Nat
 ok : Nat → Int → Bool
 d : Nat → Int → Int
 nx : Nat → List Int
 pos : ∀ p h, p < n → 0 ≤ h → ok p h = true → 0 ≤ d p h
 fwd : ∀ p, p < n → ∀ q ∈ nx p, 0 ≤ q
namespace Net
inductive R (N : Net) : Nat → Int → Prop
 | zero : R N 0 0
 | step {p : Nat} {h : Int} {q : Nat} : R N p h → p < N.n → N.ok p h = true → (q : Int) ∈ N.nx p → R N q (N.d p h)
def Bad (N : Net) : Prop := ∃ p h, N.R p h ∧ (N.n ≤ p ∨ N.ok p h = false ∨ ∃ h', N.R p h' ∧ h' ≠ h)
def Done (N : Net) (H : List Int) (p : Nat) : Prop := N.ok p (rd H p) = true ∧ ∀ q ∈ N.nx p, q < (N.n : Int) ∧ 0 ≤ rd H q ∧ rd H q = N.d p (rd H p)
structure jg (N : Net) (H : List Int) : Prop where
 len : H.length = N.n
 zero : rd H 0 = 0
 here : ∀ p, p < N.n → 0 ≤ rd H p → N.R p (rd H p)
 away : ∀ p, p < N.n → rd H p < 0 → rd H p = -1
def Whole (N : Net) (H : List Int) : Prop := ∀ p, p < N.n → 0 ≤ rd H p → N.Done H p
theorem reach {N : Net} (h0 : 0 < N.n) {H : List Int} (hT : N.jg H) (hW : N.Whole H) {p : Nat} {h : Int} (hr : N.R p h) : p < N.n ∧ rd H p = h ∧ 0 ≤ h := by
 induction hr with
 | zero => exact ⟨h0, hT.zero, by decide⟩
 | step hr hp hok hq ih =>
  obtain ⟨i1, i2, i3⟩ := ih
  subst i2
  obtain ⟨_, hd⟩ := hW _ i1 i3
  obtain ⟨a, b, c⟩ := hd _ hq
  exact ⟨by omega, c, by rw [← c]; exact b⟩
theorem sZ {N : Net} (h0 : 0 < N.n) {H : List Int} (hT : N.jg H) (hW : N.Whole H) : ¬ N.Bad := by
 rintro ⟨p, h, hr, hb⟩
 obtain ⟨a, b, c⟩ := reach h0 hT hW hr
 subst b
 rcases hb with hb | hb | ⟨h', hr', hne⟩
 ·omega
 ·have := (hW p a c).1
  rw [hb] at this
  cases this
 ·exact hne (reach h0 hT hW hr').2.1.symm
theorem list_ext_rd {A B : List Int} (hl : A.length = B.length) (h : ∀ p, p < A.length → rd A (p : Int) = rd B (p : Int)) : A = B := by
 apply List.ext_getElem hl
 intro i h1 h2
 have := h i h1
 rwa [nP h1, nP h2] at this
theorem unique {N : Net} (h0 : 0 < N.n) {A B : List Int} (hA : N.jg A) (wA : N.Whole A) (hB : N.jg B) (wB : N.Whole B) : A = B := by
 refine list_ext_rd (by rw [hA.len, hB.len]) (fun p hp => ?_)
 rw [hA.len] at hp
 by_cases h : 0 ≤ rd A p
 ·exact ((reach h0 hB wB (hA.here p hp h)).2.1).symm
 ·by_cases h' : 0 ≤ rd B p
  ·have := reach h0 hA wA (hB.here p hp h')
   omega
  ·rw [hA.away p hp (by omega), hB.away p hp (by omega)]
theorem done_set {N : Net} {H : List Int} (hl : H.length = N.n) {p q : Nat} {v : Int} (hq : rd H q < 0) (hp : p < N.n) (hp0 : 0 ≤ rd H p) (hpos : ∀ p, p < N.n → ∀ q ∈ N.nx p, 0 ≤ q) (h : N.Done H p) : N.Done (H.set q v) p := by
 have e : rd (H.set q v) p = rd H p := jl _ _ _ _ (by rintro rfl; omega)
 refine ⟨by rw [e]; exact h.1, fun x hx => ?_⟩
 obtain ⟨a, b, c⟩ := h.2 x hx
 have x0 := hpos p hp x hx
 obtain ⟨y, rfl⟩ : ∃ y : Nat, x = y := ⟨x.toNat, by omega⟩
 rw [e, jl _ _ _ _ (by rintro rfl; omega)]
 exact ⟨a, b, c⟩
theorem rG {N : Net} {H : List Int} (hT : N.jg H) {q : Nat} {v : Int} (hq : rd H q < 0) (hqn : q < N.n) (hv : 0 ≤ v) (hr : N.R q v) : N.jg (H.set q v) := by
 have hne : ∀ p : Nat, p ≠ q → rd (H.set q v) p = rd H p := fun p hp => jl _ _ _ _ (fun h => hp h.symm)
 have heq : rd (H.set q v) q = v := mP _ _ _ (by rw [hT.len]; exact hqn)
 refine ⟨by rw [List.length_set]; exact hT.len, ?_, fun p hp h => ?_, fun p hp h => ?_⟩
 ·have h0 : q ≠ 0 := by
   rintro rfl
   have := hT.zero
   rw [show ((0 : Nat) : Int) = 0 from rfl] at hq
   omega
  rw [show (0 : Int) = ((0 : Nat) : Int) from rfl, hne 0 (by omega)]
  exact hT.zero
 ·by_cases e : p = q
  ·subst e; rw [heq]; exact hr
  ·rw [hne p e] at h ⊢; exact hT.here p hp h
 ·by_cases e : p = q
  ·subst e; omega
  ·rw [hne p e] at h ⊢; exact hT.away p hp h
theorem oM {H : List Int} {q p : Nat} {v : Int} (h : q ≠ p) : rd (H.set q v) (p : Int) = rd H (p : Int) := jl _ _ _ _ h
def left (H : List Int) : Nat := H.countP (fun x => decide (x < 0))
theorem rC {H : List Int} {q : Nat} {v : Int} (hl : q < H.length) (hq : rd H q < 0) (hv : 0 ≤ v) : left (H.set q v) + 1 = left H := by
 rw [nP hl] at hq
 have hp : 0 < H.countP (fun x => decide (x < 0)) := List.countP_pos_iff.2 ⟨H[q], List.getElem_mem hl, by simpa using hq⟩
 unfold left
 rw [List.countP_set hl, if_pos (by simpa using hq), if_neg (by simp; omega)]
 omega
end Net
end Go.Proofs.YthckiolgpgplpaaDoor.YE
end
section
/- The places of a code: what an instruction takes and leaves, what comes next; the program's table of heights. -/
namespace Go.Proofs.YthckiolgpgplpaaDoor.YE
set_option linter.unusedVariables false
set_option linter.unusedSimpArgs false
open Go.RowKit YC YA YB YD
abbrev Ins := S43
abbrev Cod := S46
abbrev rdI (l : List Ins) (i : Int) : Ins := az l i
abbrev rdC (l : List Cod) (i : Int) : Cod := au l i
theorem oO (l : List Ins) (i : Nat) (h : i < l.length) : rdI l (i : Int) = l[i] := by simp [rdI, az, List.getD, h]
theorem ol (l : List Cod) (i : Nat) (h : i < l.length) : rdC l (i : Int) = l[i] := by simp [rdC, au, List.getD, h]
def mv (l : List Cod) (x : Ins) : Int × Int :=
 if x.f0 = 19 then (x.f2, if (rdC l x.f1).f3 = true then 1 else 0) else if x.f0 = 20 then (x.f1, 0) else (rd aN (x.f0 * 2), rd aN (x.f0 * 2 + 1))
def nxt (x : Ins) (at_ : Nat) : List Int := if x.f0 = 17 then [x.f1] else if x.f0 = 18 then [(at_ : Int) + 1, x.f1] else if x.f0 = 20 then [] else [(at_ : Int) + 1]
theorem tY (x : Ins) (at_ : Nat) : (nxt x at_).length ≤ 2 := by
 unfold nxt
 split
 ·simp
 split
 ·simp
 split <;> simp
def okH (l : List Cod) (x : Ins) (h : Int) : Bool := decide (¬ (h < (mv l x).1 ∨ 4096 < h ∨ (x.f0 = 20 ∧ h ≠ (mv l x).1) ∨ (x.f0 = 24 ∧ h ≠ 0)))
structure kz (m : Nat) (n : Nat) (x : Ins) : Prop where
 op0 : 1 ≤ x.f0
 op1 : x.f0 ≤ 25
 call : x.f0 = 19 → 0 ≤ x.f1 ∧ x.f1 < (m : Int) ∧ 0 ≤ x.f2 ∧ x.f2 ≤ 8
 leave : x.f0 = 20 → 0 ≤ x.f1 ∧ x.f1 ≤ 1
 jump : x.f0 = 17 ∨ x.f0 = 18 → 0 ≤ x.f1 ∧ x.f1 < (n : Int)
theorem stack_all : ∀ x ∈ aN, 0 ≤ x ∧ x ≤ 2 := by decide
theorem rF (i : Int) : 0 ≤ rd aN i ∧ rd aN i ≤ 2 := by
 unfold rd
 rw [List.getD_eq_getElem?_getD]
 cases h : aN[i.toNat]? with
 | none => simp
 | some x => exact stack_all x (List.mem_of_getElem? h)
theorem uD {m n : Nat} (l : List Cod) {x : Ins} (h : kz m n x) : 0 ≤ (mv l x).1 ∧ (mv l x).1 ≤ 8 ∧ 0 ≤ (mv l x).2 ∧ (mv l x).2 ≤ 2 := by
 unfold mv
 split
 ·rename_i e
  have := h.call e
  refine ⟨this.2.2.1, this.2.2.2, ?_, ?_⟩ <;> (simp only []; split <;> omega)
 ·split
  ·rename_i e
   have := h.leave e
   exact ⟨this.1, by simp only []; omega, by simp only []; omega, by simp only []; omega⟩
  ·have a := rF (x.f0 * 2)
   have b := rF (x.f0 * 2 + 1)
   exact ⟨a.1, by simp only []; omega, b.1, b.2⟩
theorem lQ {l : List Cod} {x : Ins} {h : Int} : okH l x h = true ↔ ¬ (h < (mv l x).1 ∨ 4096 < h ∨ (x.f0 = 20 ∧ h ≠ (mv l x).1) ∨ (x.f0 = 24 ∧ h ≠ 0)) := by simp only [okH, decide_eq_true_eq]
theorem rV {m n : Nat} {x : Ins} (h : kz m n x) (at_ : Nat) : ∀ q ∈ nxt x at_, 0 ≤ q ∧ (q < (n : Int) ∨ q = at_ + 1) := by
 unfold nxt
 intro q hq
 split at hq
 ·rename_i e
  simp at hq
  have := h.jump (.inl e)
  omega
 ·split at hq
  ·rename_i e
   simp at hq
   have := h.jump (.inr e)
   omega
  ·split at hq
   ·cases hq
   ·simp at hq
    omega
def net (l : List Cod) (ins : List Ins) (hv : ∀ p, p < ins.length → kz l.length ins.length (rdI ins p)) : Net where
 n := ins.length
 ok := fun p h => okH l (rdI ins p) h
 d := fun p h => h - (mv l (rdI ins p)).1 + (mv l (rdI ins p)).2
 nx := fun p => nxt (rdI ins p) p
 pos := fun p h hp h0 hk => by
  have := lQ.1 hk
  have := uD l (hv p hp)
  omega
 fwd := fun p hp q hq => (rV (hv p hp) p q hq).1
theorem moves_at {n : Nat} (l : List Cod) {x : Ins} (h : kz l.length n x) : aZ.f l x.f0 x.f1 x.f2 = some (mv l x) := by
 unfold aZ.f mv
 by_cases h1 : x.f0 = 19
 ·obtain ⟨a, b, c, d⟩ := h.call h1
  rw [if_pos h1, if_pos h1, if_pos a, if_pos b]
  split <;> rfl
 ·rw [if_neg h1, if_neg h1]
  by_cases h2 : x.f0 = 20
  ·rw [if_pos h2, if_pos h2]
  ·have := h.op0
   have := h.op1
   rw [if_neg h2, if_neg h2, if_pos (by omega), if_pos (by omega)]
theorem effect_at {n : Nat} (l : List Cod) {x : Ins} (h : kz l.length n x) : dM.f l x.f0 x.f1 x.f2 = some (mv l x) := by
 unfold dM.f mv
 rw [vk h.op0 h.op1, Option.bind_some]
 by_cases h1 : x.f0 = 19
 ·obtain ⟨a, b, c, d⟩ := h.call h1
  rw [if_neg (by omega), if_pos h1, if_pos h1, if_pos a, if_pos b]
  split <;> rfl
 ·by_cases h2 : x.f0 = 20
  ·rw [if_pos h2, if_neg h1, if_pos h2]
  ·rw [if_neg h2, if_neg h1, if_neg h1, if_neg h2]
theorem next_at (x : Ins) (at_ : Nat) (h : at_ ≤ 100000000) : jo.f x.f0 x.f1 x.f2 at_ = some (nxt x at_) := by
 have e : wrap64 ((at_ : Int) + 1) = (at_ : Int) + 1 := w64 (by omega) (by omega)
 unfold jo.f nxt
 rw [e]
 split
 ·rfl
 split
 ·rfl
 split
 ·rfl
 ·rfl
theorem follow_at (x : Ins) (at_ : Nat) (h : at_ ≤ 100000000) : dV.f x.f0 x.f1 x.f2 at_ = some (nxt x at_) := by
 have e : wrap64 ((at_ : Int) + 1) = (at_ : Int) + 1 := w64 (by omega) (by omega)
 unfold dV.f nxt
 rw [e]
 by_cases h1 : x.f0 = 20
 ·rw [if_pos h1, if_neg (by omega), if_neg (by omega), if_pos h1]
 rw [if_neg h1]
 by_cases h2 : x.f0 = 17
 ·rw [if_pos h2, if_pos h2]
 rw [if_neg h2, if_neg h2, Option.bind_some]
 by_cases h3 : x.f0 = 18
 ·rw [if_pos h3, if_pos h3, if_pos (by simp only [List.length_cons, List.length_nil]; omega)]
  rfl
 ·rw [if_neg h3, if_neg h3, if_neg h1]
theorem pM {h a b : Int} (h0 : 0 ≤ h) (h1 : h ≤ 5000) (a0 : 0 ≤ a) (a1 : a ≤ 8) (b0 : 0 ≤ b) (b1 : b ≤ 2) : wrap64 (wrap64 (h - a) + b) = h - a + b := by
 rw [w64 (n := h - a) (by omega) (by omega), w64 (by omega) (by omega)]
end Go.Proofs.YthckiolgpgplpaaDoor.YE
end
section
/- The program's way with heights: places wait, one after the other is taken. -/
namespace Go.Proofs.YthckiolgpgplpaaDoor.YE
set_option linter.unusedVariables false
set_option linter.unusedSimpArgs false
open Go.RowKit YC YA YB YD
def qY (N : Net) (r : Bool × List Int) : Prop := (r.1 = true ∧ N.jg r.2 ∧ N.Whole r.2) ∨ (r.1 = false ∧ N.Bad)
section
variable (l : List Cod) (ins : List Ins) (a b : Int) (c : Bool) (hv : ∀ p, p < ins.length → kz l.length ins.length (rdI ins p))
structure vo (N : Net) (W : List Int) (H : List Int) : Prop where
 tr : N.jg H
 inn : ∀ w ∈ W, ∃ p : Nat, w = p ∧ p < N.n ∧ 0 ≤ rd H p
 cov : ∀ p, p < N.n → 0 ≤ rd H p → (p : Int) ∈ W ∨ N.Done H p
theorem tF {N : Net} {p q : Nat} {h : Int} (hr : N.R p h) (hp : p < N.n) (hk : N.ok p h = true) (hq : (q : Int) ∈ N.nx p) (hf : N.n ≤ q) : N.Bad := ⟨q, _, .step hr hp hk hq, .inl hf⟩
theorem tK {N : Net} {p q : Nat} {h g : Int} (hr : N.R p h) (hp : p < N.n) (hk : N.ok p h = true) (hq : (q : Int) ∈ N.nx p) (hg : N.R q g) (hne : g ≠ N.d p h) : N.Bad := ⟨q, _, .step hr hp hk hq, .inr (.inr ⟨g, hg, hne⟩)⟩
theorem rA {N : Net} {p : Nat} {h : Int} (hr : N.R p h) (hk : N.ok p h = false) : N.Bad := ⟨p, h, hr, .inr (.inl hk)⟩
theorem inner (at_ : Nat) (hat : at_ < ins.length) (h : Int) (h0 : 0 ≤ h) (hk : (net l ins hv).ok at_ h = true) (hr : (net l ins hv).R at_ h) (m : Nat) (hm : m ≤ 70000)
  (out : ∀ W H, vo (net l ins hv) W H → W.length + Net.left H ≤ m → ∃ r, Ev (fun k => ag.l1 k W l ins a b c H) r ∧ qY (net l ins hv) r) :
  ∀ (d j : Nat) (W H : List Int), j + d = (nxt (rdI ins at_) at_).length → (net l ins hv).jg H → rd H at_ = h → W.length + Net.left H ≤ m → (∀ w ∈ W, ∃ p : Nat, w = p ∧ p < ins.length ∧ 0 ≤ rd H p) →
   (∀ p, p < ins.length → 0 ≤ rd H p → (p : Int) ∈ W ∨ p = at_ ∨ (net l ins hv).Done H p) →
   (∀ i, (hi : i < (nxt (rdI ins at_) at_).length) → i < j → ((nxt (rdI ins at_) at_)[i]) < (ins.length : Int) ∧ 0 ≤ rd H ((nxt (rdI ins at_) at_)[i]) ∧ rd H ((nxt (rdI ins at_) at_)[i]) = (net l ins hv).d at_ h) →
   ∃ r, Ev (fun k => ag.l2 k W h (mv l (rdI ins at_)).1 (mv l (rdI ins at_)).2 (nxt (rdI ins at_) at_) ((nxt (rdI ins at_) at_).length : Int) (j : Int) l ins a b c H) r ∧ qY (net l ins hv) r := by
 have hmv := uD l (hv at_ hat)
 have hh := lQ.1 hk
 have hd : (net l ins hv).d at_ h = h - (mv l (rdI ins at_)).1 + (mv l (rdI ins at_)).2 := rfl
 have hw := pM h0 (by omega : h ≤ 5000) hmv.1 hmv.2.1 hmv.2.2.1 hmv.2.2.2
 have hdp : 0 ≤ (net l ins hv).d at_ h := (net l ins hv).pos at_ h hat h0 hk
 have hqs : (nxt (rdI ins at_) at_).length ≤ 2 := tY _ _
 have hq0 := fun q hq => rV (hv at_ hat) at_ q hq
 have hnx : (net l ins hv).nx at_ = nxt (rdI ins at_) at_ := rfl
 intro d
 induction d with
 | zero =>
  intro j W H hj hT hH hW hi hc hpre
  obtain rfl : j = (nxt (rdI ins at_) at_).length := by omega
  obtain ⟨r, h1, h2⟩ := out W H ⟨hT, hi, fun p hp hp0 => by
   rcases hc p hp hp0 with h | rfl | h
   ·exact .inl h
   ·right
    refine ⟨by rw [hH]; exact hk, fun q hq => ?_⟩
    obtain ⟨i, hi, rfl⟩ := List.getElem_of_mem hq
    obtain ⟨x, y, z⟩ := hpre i hi hi
    exact ⟨x, y, by rw [hH]; exact z⟩
   ·exact .inr h⟩ hW
  refine ⟨r, ?_, h2⟩
  refine evs ?_
  have c1 := ff (Int.lt_irrefl ((nxt (rdI ins at_) at_).length : Int))
  simp only [ag.l2, c1, if_false]
  exact h1
 | succ d ih =>
  intro j W H hj hT hH hW hi hc hpre
  have hlt : j < (nxt (rdI ins at_) at_).length := by omega
  have hmem : (nxt (rdI ins at_) at_)[j] ∈ nxt (rdI ins at_) at_ := List.getElem_mem hlt
  have hpj : ∀ i (hi : i < (nxt (rdI ins at_) at_).length), i < j + 1 → i < j ∨ i = j := fun i _ h => by omega
  have c1 := tt (show (j : Int) < ((nxt (rdI ins at_) at_).length : Int) by omega)
  have c2 := tt (show (0 : Int) ≤ (j : Int) by omega)
  have b1 : j + 1 ≤ 1000000000000 := by omega
  have e1 := nP (l := nxt (rdI ins at_) at_) hlt
  obtain ⟨g0, g1⟩ := hq0 _ hmem
  obtain ⟨q, hq⟩ : ∃ q : Nat, (nxt (rdI ins at_) at_)[j] = q := ⟨((nxt (rdI ins at_) at_)[j]).toNat, by omega⟩
  rw [hq] at e1 g0 g1 hmem
  have hlen := hT.len
  have hN : (net l ins hv).n = ins.length := rfl
  rw [hN] at hlen
  by_cases f1 : (q : Int) ≥ (H.length : Int)
  ·refine ⟨(false, H), ?_, .inr ⟨rfl, tF hr hat hk hmem (by rw [hN]; omega)⟩⟩
   refine evs ?_
   simp only [ag.l2, c1, c2, if_true, e1, tt f1]
   exact Ev.now _
  have d1 := ff f1
  have d2 := tt (show (0 : Int) ≤ (q : Int) by omega)
  have d3 := tt (show (q : Int) < (H.length : Int) by omega)
  by_cases f2 : rd H (q : Int) < 0
  ·have hne : q ≠ at_ := by rintro rfl; omega
   have hR : (net l ins hv).R q ((net l ins hv).d at_ h) := .step hr hat hk hmem
   have hT' := Net.rG hT (v := (net l ins hv).d at_ h) f2 (by rw [hN]; omega) hdp hR
   have hl' := Net.rC (H := H) (q := q) (v := (net l ins hv).d at_ h) (by omega) f2 hdp
   have hat' : rd (H.set q ((net l ins hv).d at_ h)) at_ = h := by rw [Net.oM hne]; exact hH
   have hmono : ∀ p : Nat, 0 ≤ rd H p → rd (H.set q ((net l ins hv).d at_ h)) p = rd H p := fun p hp => jl _ _ _ _ (by rintro rfl; omega)
   have hhere : rd (H.set q ((net l ins hv).d at_ h)) q = (net l ins hv).d at_ h := mP _ _ _ (by omega)
   obtain ⟨r, h1, h2⟩ := ih (j + 1) (W ++ [(q : Int)]) (H.set q ((net l ins hv).d at_ h)) (by omega) hT' hat' (by simp only [List.length_append, List.length_cons, List.length_nil]; omega)
    (fun w hw => by
     rcases Zn.1 hw with hw | hw
     ·obtain ⟨p, rfl, x, y⟩ := hi w hw
      exact ⟨p, rfl, x, by rw [hmono p y]; exact y⟩
     ·simp at hw
      exact ⟨q, hw, by omega, by rw [hhere]; exact hdp⟩)
    (fun p hp hp0 => by
     by_cases e : p = q
     ·left; subst e; simp
     ·rw [jl _ _ _ _ (fun h => e h.symm)] at hp0
      rcases hc p hp hp0 with h | h | h
      ·left; simp [h]
      ·exact .inr (.inl h)
      ·exact .inr (.inr (Net.done_set (by rw [hN]; exact hlen) f2 hp hp0 (net l ins hv).fwd h)))
    (fun i hi' hij => by
     rcases hpj i hi' hij with h | rfl
     ·obtain ⟨x, y, z⟩ := hpre i hi' h
      obtain ⟨g, _⟩ := hq0 _ (List.getElem_mem hi')
      obtain ⟨u, hu⟩ : ∃ u : Nat, (nxt (rdI ins at_) at_)[i] = u := ⟨((nxt (rdI ins at_) at_)[i]).toNat, by omega⟩
      rw [hu] at x y z ⊢
      rw [hmono u y]
      exact ⟨x, y, z⟩
     ·rw [hq, hhere]
      exact ⟨by omega, hdp, rfl⟩)
   refine ⟨r, ?_, h2⟩
   refine evs ?_
   have d4 := tt (show W.length < 17592186044416 by omega)
   simp only [ag.l2, c1, c2, if_true, e1, d1, if_false, d2, d3, tt f2, d4, hw, jG b1, Int.toNat_natCast]
   exact h1
  ·have hR : (net l ins hv).R q (rd H q) := hT.here q (by rw [hN]; omega) (by omega)
   by_cases f3 : rd H (q : Int) = (net l ins hv).d at_ h
   ·obtain ⟨r, h1, h2⟩ := ih (j + 1) W H (by omega) hT hH hW hi hc (fun i hi' hij => by
     rcases hpj i hi' hij with h | rfl
     ·exact hpre i hi' h
     ·rw [hq]
      exact ⟨by omega, by omega, f3⟩)
    refine ⟨r, ?_, h2⟩
    refine evs ?_
    simp only [ag.l2, c1, c2, if_true, e1, d1, if_false, d2, d3, ff f2, hw, jG b1, tt (hd ▸ f3)]
    exact h1
   ·refine ⟨(false, H), ?_, .inr ⟨rfl, tK hr hat hk hmem hR f3⟩⟩
    refine evs ?_
    simp only [ag.l2, c1, c2, if_true, e1, d1, if_false, d2, d3, ff f2, hw, ff (hd ▸ f3)]
    exact Ev.now _
theorem outer (hn : ins.length ≤ 65536) : ∀ (m : Nat) (W H : List Int), m ≤ 70000 → vo (net l ins hv) W H → W.length + Net.left H ≤ m → ∃ r, Ev (fun k => ag.l1 k W l ins a b c H) r ∧ qY (net l ins hv) r := by
 intro m
 induction m with
 | zero =>
  intro W H _ hS hm
  obtain rfl : W = [] := List.length_eq_zero_iff.1 (by omega)
  refine ⟨(true, H), ?_, .inl ⟨rfl, hS.tr, fun p hp h0 => (hS.cov p hp h0).resolve_left (by simp)⟩⟩
  refine evs ?_
  have c1 := ff (show ¬ (([] : List Int).length : Int) > 0 by simp)
  simp only [ag.l1, c1, if_false]
  exact Ev.now _
 | succ m ih =>
  intro W H hm7 hS hm
  rcases List.eq_nil_or_concat W with rfl | ⟨V, w, rfl⟩
  ·refine ⟨(true, H), ?_, .inl ⟨rfl, hS.tr, fun p hp h0 => (hS.cov p hp h0).resolve_left (by simp)⟩⟩
   refine evs ?_
   have c1 := ff (show ¬ (([] : List Int).length : Int) > 0 by simp)
   simp only [ag.l1, c1, if_false]
   exact Ev.now _
  ·obtain ⟨at_, rfl, hat, hat0⟩ := hS.inn w (by simp)
   have hN : (net l ins hv).n = ins.length := rfl
   rw [hN] at hat
   have hlen := hS.tr.len
   rw [hN] at hlen
   rw [List.concat_eq_append] at hS hm ⊢
   have hVl : (V ++ [(at_ : Int)]).length = V.length + 1 := by simp
   rw [hVl] at hm
   have e1 : wrap64 (((V ++ [(at_ : Int)]).length : Int) - 1) = ((V.length : Nat) : Int) := by rw [hVl, w64 (by omega) (by omega)]; omega
   have e2 : rd (V ++ [(at_ : Int)]) ((V.length : Nat) : Int) = (at_ : Int) := by rw [nP (by simp)]; simp
   have e3 : (V ++ [(at_ : Int)]).take V.length = V := by simp
   have c1 := tt (show ((V ++ [(at_ : Int)]).length : Int) > 0 by rw [hVl]; omega)
   have c2 := tt (show (0 : Int) ≤ ((V.length : Nat) : Int) by omega)
   have c3 := tt (show ((V.length : Nat) : Int) < ((V ++ [(at_ : Int)]).length : Int) by rw [hVl]; omega)
   have c4 := tt (show ((V.length : Nat) : Int) ≤ ((V ++ [(at_ : Int)]).length : Int) by rw [hVl]; omega)
   have c5 := tt (show (0 : Int) ≤ (at_ : Int) by omega)
   have c6 := tt (show (at_ : Int) < (ins.length : Int) by omega)
   have c7 := tt (show (at_ : Int) < (H.length : Int) by omega)
   have hV := hv at_ hat
   have hmv := moves_at l hV
   have hnx := next_at (rdI ins at_) at_ (by omega)
   have hR := hS.tr.here at_ hat hat0
   have fin : ∃ r, Ev (fun k => ag.j2 k V at_ (rd H at_) (mv l (rdI ins at_)).1 (mv l (rdI ins at_)).2 (!okH l (rdI ins at_) (rd H at_)) l ins a b c H (rdI ins at_).f0 (rdI ins at_).f1 (rdI ins at_).f2) r ∧ qY (net l ins hv) r := by
    by_cases hk : okH l (rdI ins at_) (rd H at_) = true
    ·obtain ⟨r, h1, h2⟩ := inner l ins a b c hv at_ hat (rd H at_) hat0 hk hR m (by omega) (fun W' H' h1 h2 => ih W' H' (by omega) h1 h2) (nxt (rdI ins at_) at_).length 0 V H (by omega) hS.tr rfl (by omega)
      (fun x hx => hS.inn x (by simp [hx]))
      (fun p hp hp0 => by
       rcases hS.cov p hp hp0 with h | h
       ·rcases Zn.1 h with h | h
        ·exact .inl h
        ·simp at h; exact .inr (.inl (by omega))
       ·exact .inr (.inr h))
      (fun i _ h => by omega)
     refine ⟨r, ?_, h2⟩
     refine evs ?_
     have d1 := ff (show ¬ ((!okH l (rdI ins at_) (rd H at_)) = true) by rw [hk]; decide)
     simp only [ag.j2, d1, if_false, hnx, Option.bind_some]
     exact h1
    ·have hk' : okH l (rdI ins at_) (rd H at_) = false := by simpa using hk
     refine ⟨(false, H), ?_, .inr ⟨rfl, rA hR hk'⟩⟩
     refine evs ?_
     have d1 := tt (show ((!okH l (rdI ins at_) (rd H at_)) = true) by rw [hk']; decide)
     simp only [ag.j2, d1, if_true]
     exact Ev.now _
   obtain ⟨r, h1, h2⟩ := fin
   refine ⟨r, ?_, h2⟩
   refine evs ?_
   simp only [ag.l1, e1, e2, c1, c2, c3, c4, c5, c6, c7, if_true, Int.toNat_natCast, e3, Option.bind_some]
   rw [show aZ.f l (rdI ins at_).f0 (rdI ins at_).f1 (rdI ins at_).f2 = some (mv l (rdI ins at_)) from hmv]
   simp only [Option.bind_some]
   have hb : ∀ (P : Prop) [Decidable P] (B : Bool), (P → B = true) → (¬ P → B = false) → B = decide P := fun P _ B h1 h2 => by
    by_cases h : P
    ·rw [h1 h, Za h]
    ·rw [h2 h, Zb h]
   by_cases g1 : rd H at_ < (mv l (rdI ins at_)).1
   ·rw [show (!okH l (rdI ins at_) (rd H at_)) = true by simp [okH, g1]] at h1
    simp only [tt g1, if_true]
    exact h1
   by_cases g2 : rd H at_ > 4096
   ·rw [show (!okH l (rdI ins at_) (rd H at_)) = true by simp [okH, g1]; omega] at h1
    simp only [ff g1, tt g2, if_true, if_false]
    exact h1
   by_cases g3 : (rdI ins at_).f0 = 20
   ·by_cases g4 : rd H at_ = (mv l (rdI ins at_)).1
    ·rw [show (!okH l (rdI ins at_) (rd H at_)) = false by simp [okH, g3, g4]; omega] at h1
     simp only [ff g1, ff g2, tt g3, tt g4, ff (show ¬ (rdI ins at_).f0 = 24 by omega), if_true, if_false]
     exact h1
    ·rw [show (!okH l (rdI ins at_) (rd H at_)) = true by simp [okH, g1, g3, g4]] at h1
     simp only [ff g1, ff g2, tt g3, ff g4, if_true, if_false]
     exact h1
   ·by_cases g4 : (rdI ins at_).f0 = 24
    ·by_cases g5 : rd H at_ = 0
     ·rw [show (!okH l (rdI ins at_) (rd H at_)) = (rd H at_ != 0) by simp [okH, g1, g3, g4, g5]; omega] at h1
      simp only [ff g1, ff g2, ff g3, tt g4, if_true, if_false]
      exact h1
     ·rw [show (!okH l (rdI ins at_) (rd H at_)) = (rd H at_ != 0) by simp [okH, g1, g3, g4, g5]] at h1
      simp only [ff g1, ff g2, ff g3, tt g4, if_true, if_false]
      exact h1
    ·rw [show (!okH l (rdI ins at_) (rd H at_)) = false by simp [okH, g3, g4]; omega] at h1
     simp only [ff g1, ff g2, ff g3, ff g4, if_true, if_false]
     exact h1
end
end Go.Proofs.YthckiolgpgplpaaDoor.YE
end
section
/- What the row's condition says of the package's two tables: they lie as the text lays them. -/
namespace Go.Proofs.YthckiolgpgplpaaDoor.YE
open Go.RowKit YC YA YB YD
theorem trod_array {H : Type} {enc : TypeId × Value → H} {P : Program} {w : World} {base : Nat} {sp : Nat → Bool} {held : Bool} {fuel : Nat} {t e : TypeId} {n : Nat} {cs : List Value} {ds : List (DataW H)} {p : List MemPlace}
  (ht : P.underlying t = some (.array n e)) (h : DataW.trod enc P w base sp held fuel t cs = some (.agg ds, p)) :
  ∃ fuel', ∀ i, i < n → ∃ d q, ds[i]? = some d ∧ DataW.trod enc P w base sp held fuel' e ((cs.drop (i * P.cellsOf e)).take (P.cellsOf e)) = some (d, q) := by
 cases fuel with
 | zero => simp [DataW.trod] at h
 | succ fuel =>
  simp only [DataW.trod, ht] at h
  split at h
  ·obtain ⟨xs, hm, hx⟩ := Zo.1 h
   have hd : xs.map (·.1) = ds := by
    have := congrArg Prod.fst hx
    simpa using this
   refine ⟨fuel, fun i hi => ?_⟩
   obtain ⟨b, hb, hf⟩ := Go.Lib.mapM_at hm i i (by simp [hi])
   exact ⟨b.1, b.2, by rw [← hd]; simp [hb], hf⟩
  ·cases h
theorem qQ {cs : List Value} {i : Nat} {v : Value} (h : (cs.drop (i * 1)).take 1 = [v]) : cs[i]? = some v := by
 have := congrArg (·[0]?) h
 simpa [List.getElem?_take, List.getElem?_drop] using this
def qp : List (DataW Unit) := aT.map fun s => .lit (.string s.data.toList)
def sI : List (DataW Unit) := (List.range 26).map fun i => .agg [.lit (.int .i64 (rd aN ((2 * i : Nat) : Int))), .lit (.int .i64 (rd aN ((2 * i + 1 : Nat) : Int)))]
set_option maxRecDepth 100000 in
theorem words_cells {W : World} {cs : List Value} {fuel : Nat} {p : List MemPlace} {t e : TypeId} (ht : Tryd.prog.underlying t = some (.array 26 e)) (he : Tryd.prog.underlying e = some .string) (hc : Tryd.prog.cellsOf e = 1)
  (h : DataW.trod (fun _ => ()) Tryd.prog W 0 (fun _ => true) false fuel t cs = some (.agg qp, p)) (i : Nat) (hi : i < 26) : cs[i]? = some (.string (dN ByteArray.empty aT (i : Int))) := by
 obtain ⟨f, hf⟩ := trod_array ht h
 obtain ⟨d, q, hd, hq⟩ := hf i hi
 rw [hc] at hq
 obtain ⟨s, hs, hx, _⟩ := DataW.trod_string he hq
 have e1 : d = .lit (.string s.data.toList) := congrArg Prod.fst hx
 have hl : i < aT.length := hi
 have e2 : d = .lit (.string (aT[i]).data.toList) := by
  have : qp[i]? = some (.lit (.string (aT[i]).data.toList)) := by simp [qp, hl]
  rw [this] at hd
  exact (Zg hd).symm
 rw [e1] at e2
 have e3 : s.data.toList = (aT[i]).data.toList := by injection e2 with e2; injection e2
 have e4 : s = aT[i] := by
  have := Array.toList_inj.1 e3
  cases s; cases h9 : aT[i]; simp_all
 rw [qQ hs, e4]
 simp [dN, List.getD, hl]
set_option maxRecDepth 100000 in
theorem stack_cells {W : World} {cs : List Value} {fuel : Nat} {p : List MemPlace} {t e e2 : TypeId} (ht : Tryd.prog.underlying t = some (.array 26 e)) (he : Tryd.prog.underlying e = some (.array 2 e2)) (h2 : Tryd.prog.underlying e2 = some (.int .i64)) (hc : Tryd.prog.cellsOf e = 2) (hc2 : Tryd.prog.cellsOf e2 = 1)
  (h : DataW.trod (fun _ => ()) Tryd.prog W 0 (fun _ => true) false fuel t cs = some (.agg sI, p)) (j : Nat) (hj : j < 52) : cs[j]? = some (.int .i64 (rd aN (j : Int))) := by
 obtain ⟨f, hf⟩ := trod_array ht h
 obtain ⟨d, q, hd, hq⟩ := hf (j / 2) (by omega)
 rw [hc] at hq
 have e1 : d = .agg [.lit (.int .i64 (rd aN ((2 * (j / 2) : Nat) : Int))), .lit (.int .i64 (rd aN ((2 * (j / 2) + 1 : Nat) : Int)))] := by
  have hl : j / 2 < 26 := by omega
  simp only [sI, List.getElem?_map, List.getElem?_range hl, Option.map_some] at hd
  exact (Zg hd).symm
 subst e1
 obtain ⟨f2, hf2⟩ := trod_array he hq
 obtain ⟨d2, q2, hd2, hq2⟩ := hf2 (j % 2) (by omega)
 rw [hc2] at hq2
 obtain ⟨n, hn, hx, _⟩ := DataW.trod_int h2 hq2
 have e3 : d2 = .lit (.int .i64 n) := congrArg Prod.fst hx
 have h9 := qQ hn
 simp only [List.getElem?_take, List.getElem?_drop] at h9
 rw [if_pos (by omega), show j / 2 * 2 + j % 2 = j by omega] at h9
 rw [h9]
 congr 2
 rcases Nat.mod_two_eq_zero_or_one j with hm | hm
 ·rw [hm] at hd2
  simp only [List.getElem?_cons_zero, Zl] at hd2
  rw [e3] at hd2
  injection hd2 with hd2
  injection hd2 with _ hd2
  rw [← hd2]
  congr 2
  omega
 ·rw [hm] at hd2
  simp only [List.getElem?_cons_succ, List.getElem?_cons_zero, Zl] at hd2
  rw [e3] at hd2
  injection hd2 with hd2
  injection hd2 with _ hd2
  rw [← hd2]
  congr 2
  omega
theorem laid_of {W : World} (h : laidMet Tryd.prog [("parallax/code.words", Rows.laid_parallax_code_words), ("parallax/code.stack", Rows.laid_parallax_code_stack)] W) : Laid W := by
 obtain ⟨ps, ⟨g0, t0, cs0, f0, p0, q0, hg0, ht0, hv0, hd0, ⟨g1, t1, cs1, f1, p1, q1, hg1, ht1, hv1, hd1, hq1, e1⟩, e0⟩, hnd, hrows⟩ := h
 have n0 : Tryd.prog.globalNamed "parallax/code.words" = some 0 := by kernel_rfl
 have n1 : Tryd.prog.globalNamed "parallax/code.stack" = some 1 := by kernel_rfl
 have y0 : (Tryd.prog.globals[0]?).map (·.type) = some 126 := by kernel_rfl
 have y1 : (Tryd.prog.globals[1]?).map (·.type) = some 132 := by kernel_rfl
 obtain rfl := Zg (n0.symm.trans hg0)
 obtain rfl := Zg (n1.symm.trans hg1)
 obtain rfl := Zg (y0.symm.trans ht0)
 obtain rfl := Zg (y1.symm.trans ht1)
 have d0 : (Rows.laid_parallax_code_words : DataW Unit) = .agg qp := by kernel_rfl
 have d1 : (Rows.laid_parallax_code_stack : DataW Unit) = .agg sI := by kernel_rfl
 rw [d0] at hd0
 rw [d1] at hd1
 refine ⟨fun i hi => ?_, fun i hi => ?_⟩
 ·have := World.var?_cell n0 hv0 i
  rw [this, ← Array.getElem?_toList]
  exact words_cells (e := 9) (by kernel_rfl) (by kernel_rfl) (by kernel_rfl) hd0 i hi
 ·have := World.var?_cell n1 hv1 i
  rw [this, ← Array.getElem?_toList]
  exact stack_cells (e := 131) (e2 := 3) (by kernel_rfl) (by kernel_rfl) (by kernel_rfl) (by kernel_rfl) (by kernel_rfl) hd1 i hi
noncomputable def pu (os : Os) : World :=
 let w0 := World.holding Tryd.prog os ⟨#[], #[], []⟩
 { w0 with heap := (w0.heap.modify 0 fun
   | .cells _ t frozen => .cells (aT.map Value.string).toArray t frozen
   | o => o).modify 1 fun
   | .cells _ t frozen => .cells (aN.map (Value.int .i64)).toArray t frozen
   | o => o }
theorem laidWorld_met (os : Os) (args : Array Value) : laidMet Tryd.prog [("parallax/code.words", Rows.laid_parallax_code_words), ("parallax/code.stack", Rows.laid_parallax_code_stack)] ((pu os).forCall (fun _ _ => 0) ⟨#[], args, []⟩).memory :=
 laidMet_of_run' 8 (by kernel_rfl) (by kernel_rfl)
end Go.Proofs.YthckiolgpgplpaaDoor.YE
end
section
/- Whether an instruction may be: both programs say the same. -/
namespace Go.Proofs.YthckiolgpgplpaaDoor.YE
set_option linter.unusedVariables false
set_option linter.unusedSimpArgs false
open Go.RowKit YC YA YB YD
def Within (cells n m : Int) : Prop := 0 ≤ n ∧ 1 ≤ m ∧ n ≤ cells ∧ m ≤ cells - n
instance (cells n m : Int) : Decidable (Within cells n m) := by unfold Within; exact inferInstance
theorem mQ {P : Prop} [Decidable P] {e : Option Bool} (h1 : P → e = some true) (h2 : ¬ P → e = some false) : e = some (decide P) := by
 by_cases h : P
 ·rw [h1 h, Za h]
 ·rw [h2 h, Zb h]
theorem pO (l : List Cod) (n m : Int) (ins : List Ins) (cells p : Int) (ans : Bool) (c0 : 0 ≤ cells) (c1 : cells ≤ 65536) : cK.f l n m ins cells p ans = some (decide (Within cells n m)) := by
 unfold cK.f Within
 refine mQ (fun ⟨a, b, c, d⟩ => ?_) (fun h => ?_)
 ·rw [if_pos a, if_pos b, if_pos c, w64 (by omega) (by omega), Za (by omega)]
 ·by_cases a : n ≥ 0
  ·rw [if_pos a]
   by_cases b : m ≥ 1
   ·rw [if_pos b]
    by_cases c : n ≤ cells
    ·rw [if_pos c, w64 (by omega) (by omega), Zb (by omega)]
    ·rw [if_neg c]
   ·rw [if_neg b]
  ·rw [if_neg a]
theorem ni (n m : Int) (ins : List Ins) (cells p : Int) (ans : Bool) (c0 : 0 ≤ cells) (c1 : cells ≤ 65536) : dC.f ins cells p ans n m = some (decide (Within cells n m)) := by
 unfold dC.f Within
 refine mQ (fun ⟨a, b, c, d⟩ => ?_) (fun h => ?_)
 ·rw [if_pos a, if_pos b, if_pos (by omega), w64 (by omega) (by omega), Za (by omega)]
 ·by_cases a : n ≥ 0
  ·rw [if_pos a]
   by_cases b : m ≥ 1
   ·rw [if_pos b]
    by_cases c : m ≤ cells
    ·rw [if_pos c, w64 (by omega) (by omega), Zb (by omega)]
    ·rw [if_neg c]
   ·rw [if_neg b]
  ·rw [if_neg a]
def dX (l : List Cod) (n : Int) (cells : Int) (ans : Bool) (op f1 f2 : Int) : Bool :=
 if op = 2 ∨ op = 3 then decide (Within cells f1 1) else if op = 4 ∨ op = 5 ∨ op = 6 then decide (f2 ≤ 64 ∧ Within cells f1 f2) else if op = 17 ∨ op = 18 then decide (0 ≤ f1 ∧ f1 < n) else
 if op = 19 then decide (0 ≤ f1 ∧ f1 < (l.length : Int) ∧ 0 ≤ f2 ∧ f2 ≤ 8 ∧ f2 = (rdC l f1).f2) else if op = 20 then decide ((f1 = 0 ∧ ans = false) ∨ (f1 = 1 ∧ ans = true)) else if op = 24 then decide (0 ≤ f1 ∧ 1 ≤ f2 ∧ f2 ≤ 3) else true
section
variable (l : List Cod) (ins : List Ins) (cells p : Int) (ans : Bool)
theorem uj (k : Nat) (op f1 f2 : Int) (b : Bool) (hb : b = decide (op = 17 ∨ op = 18)) (ho : ¬ (op = 2 ∨ op = 3)) (ho2 : ¬ (op = 4 ∨ op = 5 ∨ op = 6)) : ay.j2 (k + 1) op b l ins cells p ans op f1 f2 = some (dX l ins.length cells ans op f1 f2) := by
 simp only [ay.j2]
 unfold dX
 rw [if_neg ho, if_neg ho2]
 by_cases h : op = 17 ∨ op = 18
 ·rw [if_pos h, if_pos (by rw [hb, Za h])]
  by_cases h2 : f1 ≥ 0
  ·rw [if_pos h2]; congr 1; simp only [decide_eq_decide]; omega
  ·rw [if_neg h2, Zb (by omega)]
 rw [if_neg h, if_neg (by rw [hb, Zb h]; decide)]
 by_cases h : op = 19
 ·rw [if_pos h, if_pos h]
  by_cases h1 : f1 ≥ 0
  ·rw [if_pos h1]
   by_cases h2 : f1 < (l.length : Int)
   ·rw [if_pos h2]
    by_cases h3 : f2 ≥ 0
    ·rw [if_pos h3]
     by_cases h4 : f2 ≤ 8
     ·rw [if_pos h4, if_pos h1]
      by_cases h5 : f2 = (rdC l f1).f2
      ·rw [Za ⟨h1, h2, h3, h4, h5⟩]
       exact congrArg some (beq_iff_eq.2 h5)
      ·rw [Zb (fun h => h5 h.2.2.2.2)]
       exact congrArg some (beq_eq_false_iff_ne.2 h5)
     ·rw [if_neg h4, Zb (fun h => h4 h.2.2.2.1)]
    ·rw [if_neg h3, Zb (fun h => h3 h.2.2.1)]
   ·rw [if_neg h2, Zb (fun h => h2 h.2.1)]
  ·rw [if_neg h1, Zb (fun h => h1 h.1)]
 rw [if_neg h, if_neg h]
 by_cases h : op = 20
 ·rw [if_pos h, if_pos h]
  by_cases h1 : f1 = 0
  ·subst h1
   cases ans <;> rfl
  ·rw [if_neg h1]
   by_cases h2 : f1 = 1
   ·subst h2
    cases ans <;> rfl
   ·rw [if_neg h2, Zb (by omega)]
 rw [if_neg h, if_neg h]
 by_cases h : op = 24
 ·rw [if_pos h, if_pos h]
  by_cases h1 : f1 ≥ 0
  ·rw [if_pos h1]
   by_cases h2 : f2 ≥ 1
   ·rw [if_pos h2]; congr 1; simp only [decide_eq_decide]; omega
   ·rw [if_neg h2, Zb (by omega)]
  ·rw [if_neg h1, Zb (by omega)]
 rw [if_neg h, if_neg h]
theorem fM (a b : Int) : (a == b) = decide (a = b) := by
 by_cases h : a = b
 ·rw [Za h]; exact beq_iff_eq.2 h
 ·rw [Zb h]; exact beq_eq_false_iff_ne.2 h
theorem rQ (k : Nat) (op f1 f2 : Int) (b : Bool) (hb : b = decide (op = 4 ∨ op = 5 ∨ op = 6)) (ho : ¬ (op = 2 ∨ op = 3)) (c0 : 0 ≤ cells) (c1 : cells ≤ 65536) : ay.j1 (k + 2) op b l ins cells p ans op f1 f2 = some (dX l ins.length cells ans op f1 f2) := by
 simp only [ay.j1, pO l _ _ ins cells p ans c0 c1, Option.bind_some]
 by_cases h : op = 4 ∨ op = 5 ∨ op = 6
 ·rw [if_pos (by rw [hb, Za h])]
  unfold dX
  rw [if_neg ho, if_pos h]
  by_cases h2 : f2 ≤ 64
  ·rw [if_pos h2]; congr 1; simp only [decide_eq_decide]; exact ⟨fun h => ⟨h2, h⟩, fun h => h.2⟩
  ·rw [if_neg h2, Zb (fun h => h2 h.1)]
 ·rw [if_neg (by rw [hb, Zb h]; decide)]
  by_cases h7 : op = 17
  ·rw [if_pos h7]; exact uj l ins cells p ans k op f1 f2 _ (by rw [fM]; simp [h7]) ho h
  ·rw [if_neg h7]; exact uj l ins cells p ans k op f1 f2 _ (by rw [fM]; simp [h7]) ho h
theorem uM (k : Nat) (op f1 f2 : Int) (b : Bool) (hb : b = decide (op = 2 ∨ op = 3)) (c0 : 0 ≤ cells) (c1 : cells ≤ 65536) : ay.j0 (k + 3) op b l ins cells p ans op f1 f2 = some (dX l ins.length cells ans op f1 f2) := by
 simp only [ay.j0, pO l _ _ ins cells p ans c0 c1, Option.bind_some]
 by_cases h : op = 2 ∨ op = 3
 ·rw [if_pos (by rw [hb, Za h])]
  unfold dX
  rw [if_pos h]
 ·rw [if_neg (by rw [hb, Zb h]; decide)]
  by_cases h4 : op = 4
  ·rw [if_pos h4]; exact rQ l ins cells p ans k op f1 f2 _ (by rw [fM]; simp [h4]) h c0 c1
  rw [if_neg h4]
  by_cases h5 : op = 5
  ·rw [if_pos h5]; exact rQ l ins cells p ans k op f1 f2 _ (by rw [fM]; simp [h5]) h c0 c1
  rw [if_neg h5]
  exact rQ l ins cells p ans k op f1 f2 _ (by rw [fM]; simp [h4, h5]) h c0 c1
def May (op f1 f2 : Int) : Prop := qF op f1 f2 ∧ dX l ins.length cells ans op f1 f2 = true
instance (op f1 f2 : Int) : Decidable (May l ins cells ans op f1 f2) := by unfold May; exact inferInstance
theorem ev3 {g : Nat → Option Bool} {r : Bool} (h : ∀ k, g (k + 3) = some r) : Ev g r := ⟨3, fun k hk => by
 obtain ⟨m, rfl⟩ : ∃ m, k = m + 3 := ⟨k - 3, by omega⟩
 exact h m⟩
theorem qA (op n m : Int) : (TX op n m).2 = 0 ↔ qF op n m := by
 by_cases h : qF op n m
 ·rw [TX_fine h]; exact ⟨fun _ => h, fun _ => rfl⟩
 ·rw [TX_not h]; exact ⟨fun h => absurd h (by decide), fun h' => absurd h' h⟩
theorem uL (op f1 f2 : Int) (n0 : -9223372036854775808 ≤ f1) (n1 : f1 ≤ 9223372036854775807) (m0 : -9223372036854775808 ≤ f2) (m1 : f2 ≤ 9223372036854775807) (c0 : 0 ≤ cells) (c1 : cells ≤ 65536) :
  Ev (fun k => ay.f k l op f1 f2 ins cells p ans) (decide (May l ins cells ans op f1 f2)) := by
 unfold ay.f
 refine Ev.bind (Text_ok op f1 f2 n0 n1 m0 m1) ?_
 by_cases hf : qF op f1 f2
 ·have e : decide (May l ins cells ans op f1 f2) = dX l ins.length cells ans op f1 f2 := by
   cases h : dX l ins.length cells ans op f1 f2 with
   | true => exact Za ⟨hf, h⟩
   | false => exact Zb (fun h9 => by rw [h9.2] at h; cases h)
  rw [e]
  simp only [tt ((qA op f1 f2).2 hf), if_true]
  by_cases h2 : op = 2
  ·simp only [tt h2, if_true]
   exact ev3 (fun k => uM l ins cells p ans k op f1 f2 _ (by rw [fM]; simp [h2]) c0 c1)
  ·simp only [ff h2, if_false]
   exact ev3 (fun k => uM l ins cells p ans k op f1 f2 _ (by rw [fM]; simp [h2]) c0 c1)
 ·rw [Zb (fun h => hf h.1)]
  simp only [ff (fun h => hf ((qA op f1 f2).1 h)), if_false]
  exact Ev.now _
theorem tN (k : Nat) (op f1 f2 : Int) (b : Bool) (hb : b = decide (op = 17 ∨ op = 18)) (ho : ¬ (op = 2 ∨ op = 3)) (ho2 : ¬ (op = 4 ∨ op = 5 ∨ op = 6)) : aM.j2 (k + 1) l op b ins cells p ans op f1 f2 = some (dX l ins.length cells ans op f1 f2) := by
 simp only [aM.j2]
 unfold dX
 rw [if_neg ho, if_neg ho2]
 by_cases h : op = 17 ∨ op = 18
 ·rw [if_pos h, if_pos (by rw [hb, Za h])]
  by_cases h2 : f1 ≥ 0
  ·rw [if_pos h2]; congr 1; simp only [decide_eq_decide]; omega
  ·rw [if_neg h2, Zb (by omega)]
 rw [if_neg h, if_neg (by rw [hb, Zb h]; decide)]
 by_cases h : op = 19
 ·rw [if_pos h, if_pos h]
  by_cases h1 : f1 < 0
  ·rw [if_pos h1, Zb (by omega)]
  rw [if_neg h1]
  by_cases h2 : f1 ≥ (l.length : Int)
  ·rw [if_pos h2, Zb (by omega)]
  rw [if_neg h2, if_pos (by omega), if_pos (by omega)]
  by_cases h5 : (au l f1).f2 = f2
  ·rw [if_pos h5]
   by_cases h6 : (au l f1).f2 ≥ 0
   ·rw [if_pos h6]; congr 1; simp only [decide_eq_decide]
    exact ⟨fun h => ⟨by omega, by omega, by omega, by omega, h5.symm⟩, fun h => by have := h.2.2.2.1; omega⟩
   ·rw [if_neg h6, Zb (fun h => h6 (by have := h.2.2.1; omega))]
  ·rw [if_neg h5, Zb (fun h => h5 h.2.2.2.2.symm)]
 rw [if_neg h, if_neg h]
 by_cases h : op = 20
 ·rw [if_pos h, if_pos h]
  cases ans with
  | true =>
   rw [if_pos rfl, fM]
   congr 1; simp only [decide_eq_decide]; simp
  | false =>
   rw [if_neg (by decide), fM]
   congr 1; simp only [decide_eq_decide]; simp
 rw [if_neg h, if_neg h]
 by_cases h : op = 24
 ·rw [if_pos h, if_pos h]
  by_cases h1 : f1 ≥ 0
  ·rw [if_pos h1]
   by_cases h2 : f2 ≥ 1
   ·rw [if_pos h2]; congr 1; simp only [decide_eq_decide]; omega
   ·rw [if_neg h2, Zb (by omega)]
  ·rw [if_neg h1, Zb (by omega)]
 rw [if_neg h, if_neg h]
theorem qM (k : Nat) (op f1 f2 : Int) (b : Bool) (hb : b = decide (op = 4 ∨ op = 5 ∨ op = 6)) (ho : ¬ (op = 2 ∨ op = 3)) (c0 : 0 ≤ cells) (c1 : cells ≤ 65536) : aM.j1 (k + 2) l op b ins cells p ans op f1 f2 = some (dX l ins.length cells ans op f1 f2) := by
 simp only [aM.j1, ni _ _ ins cells p ans c0 c1, Option.bind_some]
 by_cases h : op = 4 ∨ op = 5 ∨ op = 6
 ·rw [if_pos (by rw [hb, Za h])]
  unfold dX
  rw [if_neg ho, if_pos h]
  by_cases h2 : Within cells f1 f2
  ·rw [if_pos (Za h2)]; congr 1; simp only [decide_eq_decide]; exact ⟨fun h => ⟨h, h2⟩, fun h => h.1⟩
  ·rw [if_neg (by rw [Zb h2]; decide), Zb (fun h => h2 h.2)]
 ·rw [if_neg (by rw [hb, Zb h]; decide)]
  by_cases h7 : op = 17
  ·rw [if_pos h7]; exact tN l ins cells p ans k op f1 f2 _ (by rw [fM]; simp [h7]) ho h
  ·rw [if_neg h7]; exact tN l ins cells p ans k op f1 f2 _ (by rw [fM]; simp [h7]) ho h
theorem sU (k : Nat) (op f1 f2 : Int) (b : Bool) (hb : b = decide (op = 2 ∨ op = 3)) (c0 : 0 ≤ cells) (c1 : cells ≤ 65536) : aM.j0 (k + 3) l op b ins cells p ans op f1 f2 = some (dX l ins.length cells ans op f1 f2) := by
 simp only [aM.j0, ni _ _ ins cells p ans c0 c1, Option.bind_some]
 by_cases h : op = 2 ∨ op = 3
 ·rw [if_pos (by rw [hb, Za h])]
  unfold dX
  rw [if_pos h]
 ·rw [if_neg (by rw [hb, Zb h]; decide)]
  by_cases h4 : op = 4
  ·rw [if_pos h4]; exact qM l ins cells p ans k op f1 f2 _ (by rw [fM]; simp [h4]) h c0 c1
  rw [if_neg h4]
  by_cases h5 : op = 5
  ·rw [if_pos h5]; exact qM l ins cells p ans k op f1 f2 _ (by rw [fM]; simp [h5]) h c0 c1
  rw [if_neg h5]
  exact qM l ins cells p ans k op f1 f2 _ (by rw [fM]; simp [h4, h5]) h c0 c1
theorem rmay_ok (op f1 f2 : Int) (n0 : -9223372036854775808 ≤ f1) (n1 : f1 ≤ 9223372036854775807) (m0 : -9223372036854775808 ≤ f2) (m1 : f2 ≤ 9223372036854775807) (c0 : 0 ≤ cells) (c1 : cells ≤ 65536) :
  Ev (fun k => aM.f k l ins cells p ans op f1 f2) (decide (May l ins cells ans op f1 f2)) := by
 unfold aM.f
 refine Ev.bind (refText08_ok op f1 f2 n0 n1 m0 m1) ?_
 by_cases hf : qF op f1 f2
 ·have e : decide (May l ins cells ans op f1 f2) = dX l ins.length cells ans op f1 f2 := by
   cases h : dX l ins.length cells ans op f1 f2 with
   | true => exact Za ⟨hf, h⟩
   | false => exact Zb (fun h9 => by rw [h9.2] at h; cases h)
  rw [e]
  simp only [tt ((qA op f1 f2).2 hf), if_true]
  by_cases h2 : op = 2
  ·simp only [tt h2, if_true]
   exact ev3 (fun k => sU l ins cells p ans k op f1 f2 _ (by rw [fM]; simp [h2]) c0 c1)
  ·simp only [ff h2, if_false]
   exact ev3 (fun k => sU l ins cells p ans k op f1 f2 _ (by rw [fM]; simp [h2]) c0 c1)
 ·rw [Zb (fun h => hf h.1)]
  simp only [ff (fun h => hf ((qA op f1 f2).1 h)), if_false]
  exact Ev.now _
theorem qg {x : Ins} (h : May l ins cells ans x.f0 x.f1 x.f2) : kz l.length ins.length x := by
 obtain ⟨⟨⟨h0, h1⟩, _, _⟩, hr⟩ := h
 refine ⟨h0, h1, fun e => ?_, fun e => ?_, fun e => ?_⟩
 ·simp only [dX, e] at hr
  simp at hr
  omega
 ·simp only [dX, e] at hr
  simp at hr
  omega
 ·rcases e with e | e
  ·simp only [dX, e] at hr
   simp at hr
   omega
  ·simp only [dX, e] at hr
   simp at hr
   omega
end
end Go.Proofs.YthckiolgpgplpaaDoor.YE
end
section
/- How an argument that is read as data (a slice of texts, of structs, a struct) stands in the printed functions' words. -/
namespace Go.Proofs.YthckiolgpgplpaaDoor.YE
set_option linter.unusedVariables false
set_option linter.unusedSimpArgs false
open Go.RowKit YC YA YB
def kZ {α : Type} (P : Program) (d : Kd α) (t : TypeId) (good : α → Prop) : Prop :=
 ∀ (H : Type) (enc : TypeId × Value → H) (w : World) (spare : Nat → Bool) (held : Bool) (fuel : Nat) (cs : List Value) (x : DataW H × List MemPlace),
  DataW.trod enc P w 0 spare held fuel t cs = some x → (∀ n ∈ DataW.weights P t x.1, n ≤ reachBytes) → ∃ v, d.K w v cs ∧ good v
theorem jm {P : Program} {t : TypeId} {k : IntKind} (ht : P.underlying t = some (.int k)) : kZ P (Kd.int k) t (fun n => (Lit.int k n).wf = true) := by
 intro H enc w spare held fuel cs x h hw
 obtain ⟨n, rfl, rfl, hn⟩ := DataW.trod_int ht h
 exact ⟨n, rfl, hn⟩
theorem opens_bool {P : Program} {t : TypeId} (ht : P.underlying t = some .bool) : kZ P Kd.bool t (fun _ => True) := by
 intro H enc w spare held fuel cs x h hw
 obtain ⟨n, rfl, rfl⟩ := DataW.trod_bool ht h
 exact ⟨n, rfl, trivial⟩
theorem jq {w : World} {base : Nat} {a : Addr} {n : Nat} {cs : List Value} (h : w.cells? base a n = some cs) : cs.length = n ∧ ∀ i u, cs[i]? = some u → w.cell? (a.add i) = some u := by
 refine ⟨?_, ?_⟩
 ·unfold World.cells? at h
  split at h
  ·simpa using mapM_some_length h
  ·cases h
 ·intro i u hi
  unfold World.cells? at h
  split at h
  ·have hl : cs.length = n := by simpa using mapM_some_length h
   have hin : i < n := by
    rw [← hl]
    exact (List.getElem?_eq_some_iff.1 hi).1
   have := mapM_some_get h i i (by simp [hin])
   rw [hi] at this
   exact this
  ·cases h
theorem kK {α : Type} {P : Program} {d : Kd α} {t e : TypeId} {good : α → Prop} {B : Nat} (ht : P.underlying t = some (.slice e)) (hc : P.cellsOf e = d.sz) (hB : P.bytesOf e = B) (he : kZ P d e good) :
  kZ P (Kd.slice e d) t (fun xs => xs.length * B ≤ 140737488351232 ∧ ∀ x ∈ xs, good x) := by
 intro H enc w spare held fuel cs x h hw
 rcases DataW.trod_slice ht h with ⟨rfl, rfl⟩ | ⟨a, len, cap, elems, rest, n, rfl, rfl, rfl, hb, hl, hm, hel, hat, _, _⟩
 ·exact ⟨[], ⟨none, 0, rfl, Zd _, rfl, Nat.zero_le _, fun h => absurd h (Nat.lt_irrefl 0)⟩, by simp, fun x hx => by cases hx⟩
 ·have hone : ∀ i, i < len → ∃ v c, c.length = d.sz ∧ d.K w v c ∧ good v ∧ ∀ j u, c[j]? = some u → w.cell? (a.add (i * d.sz + j)) = some u := by
   intro i hi
   have h1 := hat i hi
   rw [Zi (by omega)] at h1
   obtain ⟨c, hcc, hct⟩ := Option.bind_eq_some_iff.1 h1
   obtain ⟨cl, cat⟩ := jq hcc
   obtain ⟨v, hv, hg⟩ := he H enc w spare held n c _ hct (fun m hm2 => hw m (by
    simp only [DataW.weights, ht]
    refine List.mem_cons_of_mem _ (List.mem_append_left _ ?_)
    have : ∀ (l : List (DataW H)) (y : DataW H), y ∈ l → m ∈ DataW.weights P e y → m ∈ DataW.weightsAll P e l := by
     intro l
     induction l with
     | nil => intro y hy _; cases hy
     | cons z l ih =>
      intro y hy hmy
      simp only [DataW.weightsAll, Zn]
      rcases List.mem_cons.1 hy with rfl | hy
      ·exact .inl hmy
      ·exact .inr (ih y hy hmy)
    exact this _ _ (List.mem_map.2 ⟨_, List.getElem_mem (h := by omega), rfl⟩) hm2))
   refine ⟨v, c, by rw [cl, hc], hv, hg, fun j u hj => ?_⟩
   have := cat j u hj
   rw [hc] at this
   rwa [Addr.add_add] at this
  have hall : ∀ m, m ≤ len → ∃ xs : List α, xs.length = m ∧ ∀ i v, xs[i]? = some v → good v ∧ ∃ c, c.length = d.sz ∧ d.K w v c ∧ ∀ j u, c[j]? = some u → w.cell? (a.add (i * d.sz + j)) = some u := by
   intro m
   induction m with
   | zero => intro _; exact ⟨[], rfl, fun i v hv => by simp at hv⟩
   | succ m ih =>
    intro hm2
    obtain ⟨xs, hx, hxs⟩ := ih (by omega)
    obtain ⟨v, c, c1, c2, c3, c4⟩ := hone m (by omega)
    refine ⟨xs ++ [v], by simp [hx], fun i u hu => ?_⟩
    rcases Nat.lt_or_ge i xs.length with hi | hi
    ·rw [List.getElem?_append_left hi] at hu
     exact hxs i u hu
    ·have : i = xs.length := by
      have := (List.getElem?_eq_some_iff.1 hu).1
      rw [List.length_append, List.length_singleton] at this
      omega
     subst this
     simp at hu
     subst hu
     rw [hx]
     exact ⟨c3, c, c1, c2, c4⟩
  obtain ⟨xs, hx, hxs⟩ := hall len (Zd _)
  have hm9 : cap ≤ 9223372036854775807 := hm
  refine ⟨xs, ⟨some a, cap, by rw [hx], by rw [hx]; exact hl, rfl, by rw [hx]; omega, fun _ => ⟨a, rfl, fun j p hj => ?_⟩⟩, ?_, fun x hx2 => ?_⟩
  ·obtain ⟨_, c, c1, c2, c4⟩ := hxs j p hj
   exact ⟨c, c1, c2, c4⟩
  ·have := hw ((elems.map (·.1)).length + (rest.map (·.1)).length |> (· * P.bytesOf e)) (by
    simp only [DataW.weights, ht]
    exact List.mem_cons_self ..)
   rw [hB] at this
   rw [hx, ← hel]
   simp only [List.length_map] at this
   exact Ze (Nat.mul_le_mul_right _ (Nat.le_add_right _ _)) this
  ·obtain ⟨i, hi, rfl⟩ := List.mem_iff_getElem.1 hx2
   exact (hxs i _ (Zi hi)).1
def qB {α : Type} (P : Program) (d : Kd α) (fs : List Field) (off : Nat) (good : α → Prop) : Prop :=
 ∀ (H : Type) (enc : TypeId × Value → H) (w : World) (spare : Nat → Bool) (held : Bool) (n : Nat) (cs : List Value) (xs : List (DataW H × List MemPlace)),
  cs.length = off + d.sz → xs.length = fs.length → (∀ (i : Nat) (f : Field), fs[i]? = some f → DataW.trod enc P w 0 spare held n f.type ((cs.drop f.offset).take (P.cellsOf f.type)) = xs[i]?) →
  (∀ m ∈ DataW.weightsEach P (fs.map (·.type)) (xs.map (·.1)), m ≤ reachBytes) → ∃ v, d.K w v (cs.drop off) ∧ good v
theorem nO {α : Type} {P : Program} {d : Kd α} {f : Field} {good : α → Prop} {off : Nat} (ho : f.offset = off) (hc : P.cellsOf f.type = d.sz) (h : kZ P d f.type good) : qB P d [f] off good := by
 intro H enc w spare held n cs xs hl hx hat hw
 have h0 := hat 0 f rfl
 have hx1 : xs.length = 1 := hx
 obtain ⟨x, rfl⟩ := List.length_eq_one_iff.1 hx1
 rw [ho, hc, List.take_of_length_le (by rw [List.length_drop]; omega)] at h0
 exact h H enc w spare held n _ x h0 (fun m hm => hw m (by simp only [List.map_cons, List.map_nil, DataW.weightsEach, List.append_nil]; exact hm))
theorem jc {α β : Type} {P : Program} {a : Kd α} {b : Kd β} {f : Field} {fs : List Field} {ga : α → Prop} {gb : β → Prop} {off : Nat} (ho : f.offset = off) (hc : P.cellsOf f.type = a.sz) (h : kZ P a f.type ga) (hs : qB P b fs (off + a.sz) gb) :
  qB P (Kd.pair a b) (f :: fs) off (fun x => ga x.1 ∧ gb x.2) := by
 intro H enc w spare held n cs xs hl hx hat hw
 have hsz : (Kd.pair a b).sz = a.sz + b.sz := rfl
 rw [hsz] at hl
 cases xs with
 | nil => simp at hx
 | cons x xs =>
  have h0 := hat 0 f rfl
  rw [ho, hc] at h0
  obtain ⟨v, hv, gv⟩ := h H enc w spare held n _ x h0 (fun m hm => hw m (by simp only [List.map_cons, DataW.weightsEach, Zn]; exact .inl hm))
  obtain ⟨u, hu, gu⟩ := hs H enc w spare held n cs xs (by omega) (by simpa using hx) (fun i g hg => by simpa using hat (i + 1) g (by simpa using hg)) (fun m hm => hw m (by simp only [List.map_cons, DataW.weightsEach, Zn]; exact .inr hm))
  refine ⟨(v, u), ⟨(cs.drop off).take a.sz, cs.drop (off + a.sz), ?_, hv, hu⟩, gv, gu⟩
  rw [← List.drop_drop, List.take_append_drop]
theorem lT {α β : Type} {P : Program} {d : Kd α} {t : TypeId} {fs : Array Field} {good : α → Prop} {good' : β → Prop} (f : β → α) (g : α → β) (hfg : ∀ a, f (g a) = a) (ht : P.underlying t = some (.struct fs)) (hc : P.cellsOf t = d.sz) (h : qB P d fs.toList 0 good) (hg : ∀ a, good a → good' (g a)) :
  kZ P (Kd.iso d f) t good' := by
 intro H enc w spare held fuel cs x hh hw
 obtain ⟨xs, n, rfl, rfl, hl, hxl, hat⟩ := DataW.trod_struct ht hh
 obtain ⟨v, hv, gv⟩ := h H enc w spare held n cs xs (by omega) (by simpa using hxl) (fun i ff hf => hat i ff (by simpa using hf)) (fun m hm => hw m (by simp only [DataW.weights, ht]; exact hm))
 exact ⟨g v, by show d.K w (f (g v)) cs; rw [hfg]; exact hv, hg v gv⟩
theorem oC {H : Type} {P : Program} {ts : List TypeId} {ds : List (DataW H)} (h : (DataW.weightsEach P ts ds).all (· ≤ reachBytes) = true) {j : Nat} {t : TypeId} {d : DataW H} (ht : ts[j]? = some t) (hd : ds[j]? = some d) : ∀ n ∈ DataW.weights P t d, n ≤ reachBytes := by
 intro n hn
 have := List.all_eq_true.1 h n (DataW.weights_mem_each ht hd n hn)
 simpa using this
theorem kw {α : Type} {P : Program} {d : Kd α} {t e : TypeId} {good : List α → Prop} (ho : kZ P (Kd.slice e d) t good) {H : Type} {enc : TypeId × Value → H} {W : World} {spare : Nat → Bool} {held : Bool} {a : Option Addr} {len cap : Nat} {dd : DataW H} {ps : List MemPlace}
  (h : DataW.Trod enc P W 0 spare held t (.slice a len cap) dd ps) (hw : ∀ n ∈ DataW.weights P t dd, n ≤ reachBytes) : ∃ xs : List α, len = xs.length ∧ good xs ∧ xs.length ≤ cap ∧ d.C W a xs.length xs := by
 obtain ⟨fuel, hf⟩ := h
 obtain ⟨xs, ⟨A, c, hcs, hl, hr⟩, hg⟩ := ho H enc W spare held fuel _ _ hf hw
 simp [Value.cells] at hcs
 obtain ⟨rfl, rfl, rfl⟩ := hcs
 exact ⟨xs, rfl, hg, hl, hr⟩
end Go.Proofs.YthckiolgpgplpaaDoor.YE
end
section
/- The reference's way with heights: round by round. -/
namespace Go.Proofs.YthckiolgpgplpaaDoor.YE
set_option linter.unusedVariables false
set_option linter.unusedSimpArgs false
open Go.RowKit YC YA YB YD
def kC (N : Net) (r : List Int × Bool) : Prop := (r.2 = true ∧ N.jg r.1 ∧ N.Whole r.1) ∨ (r = ([], false) ∧ N.Bad)
section
variable (l : List Cod) (ins : List Ins) (a b : Int) (c : Bool) (hv : ∀ p, p < ins.length → kz l.length ins.length (rdI ins p))
structure tX (N : Net) (m : Nat) (more : Bool) (i : Nat) (H : List Int) : Prop where
 tr : N.jg H
 le : Net.left H ≤ m
 lt : more = true → Net.left H + 1 ≤ m
 done : more = false → ∀ p, p < i → p < N.n → 0 ≤ rd H p → N.Done H p
theorem rinner (hn : ins.length ≤ 65536) (at_ : Nat) (hat : at_ < ins.length) (h : Int) (h0 : 0 ≤ h) (hk : (net l ins hv).ok at_ h = true) (hr : (net l ins hv).R at_ h) (m : Nat)
  (out : ∀ more H, tX (net l ins hv) m more (at_ + 1) H → ∃ r, Ev (fun k => af.l2 k l H more ((at_ + 1 : Nat) : Int) ins a b c) r ∧ kC (net l ins hv) r) :
  ∀ (d j : Nat) (more : Bool) (H : List Int), j + d = (nxt (rdI ins at_) at_).length → tX (net l ins hv) m more at_ H → rd H at_ = h →
   (more = false → ∀ i, (hi : i < (nxt (rdI ins at_) at_).length) → i < j → ((nxt (rdI ins at_) at_)[i]) < (ins.length : Int) ∧ 0 ≤ rd H ((nxt (rdI ins at_) at_)[i]) ∧ rd H ((nxt (rdI ins at_) at_)[i]) = (net l ins hv).d at_ h) →
   ∃ r, Ev (fun k => af.l3 k l H more (at_ : Int) (mv l (rdI ins at_)).1 (mv l (rdI ins at_)).2 (nxt (rdI ins at_) at_) (j : Int) ins a b c) r ∧ kC (net l ins hv) r := by
 have hmv := uD l (hv at_ hat)
 have hh := lQ.1 hk
 have hd : (net l ins hv).d at_ h = h - (mv l (rdI ins at_)).1 + (mv l (rdI ins at_)).2 := rfl
 have hw := pM h0 (by omega : h ≤ 5000) hmv.1 hmv.2.1 hmv.2.2.1 hmv.2.2.2
 have hdp : 0 ≤ (net l ins hv).d at_ h := (net l ins hv).pos at_ h hat h0 hk
 have hqs : (nxt (rdI ins at_) at_).length ≤ 2 := tY _ _
 have hq0 := fun q hq => rV (hv at_ hat) at_ q hq
 have hnx : (net l ins hv).nx at_ = nxt (rdI ins at_) at_ := rfl
 have hN : (net l ins hv).n = ins.length := rfl
 intro d
 induction d with
 | zero =>
  intro j more H hj hS hH hpre
  obtain rfl : j = (nxt (rdI ins at_) at_).length := by omega
  obtain ⟨r, h1, h2⟩ := out more H ⟨hS.tr, hS.le, hS.lt, fun hm p hp hpn hp0 => by
   by_cases e : p = at_
   ·subst e
    refine ⟨by rw [hH]; exact hk, fun q hq => ?_⟩
    obtain ⟨i, hi, rfl⟩ := List.getElem_of_mem hq
    obtain ⟨x, y, z⟩ := hpre hm i hi hi
    exact ⟨x, y, by rw [hH]; exact z⟩
   ·exact hS.done hm p (by omega) hpn hp0⟩
  refine ⟨r, ?_, h2⟩
  refine evs ?_
  have c1 := ff (Int.lt_irrefl ((nxt (rdI ins at_) at_).length : Int))
  have b1 : at_ + 1 ≤ 1000000000000 := by omega
  simp only [af.l3, c1, if_false, jG b1]
  exact h1
 | succ d ih =>
  intro j more H hj hS hH hpre
  have hlt : j < (nxt (rdI ins at_) at_).length := by omega
  have hmem : (nxt (rdI ins at_) at_)[j] ∈ nxt (rdI ins at_) at_ := List.getElem_mem hlt
  have hpj : ∀ i (hi : i < (nxt (rdI ins at_) at_).length), i < j + 1 → i < j ∨ i = j := fun i _ h => by omega
  have c1 := tt (show (j : Int) < ((nxt (rdI ins at_) at_).length : Int) by omega)
  have c2 := tt (show (0 : Int) ≤ (j : Int) by omega)
  have b1 : j + 1 ≤ 1000000000000 := by omega
  have e1 := nP (l := nxt (rdI ins at_) at_) hlt
  obtain ⟨g0, g1⟩ := hq0 _ hmem
  obtain ⟨q, hq⟩ : ∃ q : Nat, (nxt (rdI ins at_) at_)[j] = q := ⟨((nxt (rdI ins at_) at_)[j]).toNat, by omega⟩
  rw [hq] at e1 g0 g1 hmem
  have hT := hS.tr
  have hlen := hT.len
  rw [hN] at hlen
  by_cases f1 : (q : Int) ≥ (H.length : Int)
  ·refine ⟨([], false), ?_, .inr ⟨rfl, tF hr hat hk hmem (by rw [hN]; omega)⟩⟩
   refine evs ?_
   simp only [af.l3, c1, c2, if_true, e1, tt f1]
   exact Ev.now _
  have d1 := ff f1
  have d2 := tt (show (0 : Int) ≤ (q : Int) by omega)
  have d3 := tt (show (q : Int) < (H.length : Int) by omega)
  have d4 := tt (show (0 : Int) ≤ (at_ : Int) by omega)
  have d5 := tt (show (at_ : Int) < (H.length : Int) by omega)
  by_cases f2 : rd H (q : Int) < 0
  ·have hne : q ≠ at_ := by rintro rfl; omega
   have hR : (net l ins hv).R q ((net l ins hv).d at_ h) := .step hr hat hk hmem
   have hT' := Net.rG hT (v := (net l ins hv).d at_ h) f2 (by rw [hN]; omega) hdp hR
   have hl' := Net.rC (H := H) (q := q) (v := (net l ins hv).d at_ h) (by omega) f2 hdp
   have hat' : rd (H.set q ((net l ins hv).d at_ h)) at_ = h := by rw [Net.oM hne]; exact hH
   have hhere : rd (H.set q ((net l ins hv).d at_ h)) q = (net l ins hv).d at_ h := mP _ _ _ (by omega)
   have hle := hS.le
   obtain ⟨r, h1, h2⟩ := ih (j + 1) true (H.set q ((net l ins hv).d at_ h)) (by omega) ⟨hT', by omega, fun _ => by omega, fun h => by cases h⟩ hat' (fun h => by cases h)
   refine ⟨r, ?_, h2⟩
   refine evs ?_
   rw [hd] at hat' hhere h1
   simp only [af.l3, c1, c2, if_true, e1, d1, if_false, d2, d3, tt f2, d4, d5, hH, hw, jG b1, Int.toNat_natCast, Option.bind_some, hat', hhere]
   exact h1
  ·have hR : (net l ins hv).R q (rd H q) := hT.here q (by rw [hN]; omega) (by omega)
   by_cases f3 : rd H (q : Int) = (net l ins hv).d at_ h
   ·obtain ⟨r, h1, h2⟩ := ih (j + 1) more H (by omega) hS hH (fun hm i hi' hij => by
     rcases hpj i hi' hij with h | rfl
     ·exact hpre hm i hi' h
     ·rw [hq]
      exact ⟨by omega, by omega, f3⟩)
    refine ⟨r, ?_, h2⟩
    refine evs ?_
    simp only [af.l3, c1, c2, if_true, e1, d1, if_false, d2, d3, ff f2, d4, d5, hH, hw, jG b1, tt (hd ▸ f3)]
    exact h1
   ·refine ⟨([], false), ?_, .inr ⟨rfl, tK hr hat hk hmem hR f3⟩⟩
    refine evs ?_
    simp only [af.l3, c1, c2, if_true, e1, d1, if_false, d2, d3, ff f2, d4, d5, hH, hw, ff (hd ▸ f3)]
    exact Ev.now _
theorem sP (hn : ins.length ≤ 65536) (m : Nat) (out : ∀ more H, tX (net l ins hv) m more ins.length H → ∃ r, Ev (fun k => af.l1 k l H more ins a b c) r ∧ kC (net l ins hv) r) :
  ∀ (d at_ : Nat) (more : Bool) (H : List Int), at_ + d = ins.length → tX (net l ins hv) m more at_ H → ∃ r, Ev (fun k => af.l2 k l H more (at_ : Int) ins a b c) r ∧ kC (net l ins hv) r := by
 have hN : (net l ins hv).n = ins.length := rfl
 intro d
 induction d with
 | zero =>
  intro at_ more H he hS
  obtain rfl : at_ = ins.length := by omega
  have hlen := hS.tr.len
  rw [hN] at hlen
  obtain ⟨r, h1, h2⟩ := out more H hS
  refine ⟨r, ?_, h2⟩
  refine evs ?_
  have c1 := ff (show ¬ (ins.length : Int) < (H.length : Int) by omega)
  simp only [af.l2, c1, if_false]
  exact h1
 | succ d ih =>
  intro at_ more H he hS
  have hlen := hS.tr.len
  rw [hN] at hlen
  have hat : at_ < ins.length := by omega
  have c1 := tt (show (at_ : Int) < (H.length : Int) by omega)
  have c2 := tt (show (0 : Int) ≤ (at_ : Int) by omega)
  have c3 := tt (show (at_ : Int) < (ins.length : Int) by omega)
  have b1 : at_ + 1 ≤ 1000000000000 := by omega
  by_cases f : rd H (at_ : Int) < 0
  ·obtain ⟨r, h1, h2⟩ := ih (at_ + 1) more H (by omega) ⟨hS.tr, hS.le, hS.lt, fun hm p hp hpn hp0 => by
    by_cases e : p = at_
    ·subst e; omega
    ·exact hS.done hm p (by omega) hpn hp0⟩
   refine ⟨r, ?_, h2⟩
   refine evs ?_
   simp only [af.l2, c1, c2, if_true, tt f, jG b1]
   exact h1
  ·have hat0 : 0 ≤ rd H (at_ : Int) := by omega
   have hV := hv at_ hat
   have hmv := effect_at l hV
   have hnx := follow_at (rdI ins at_) at_ (by omega)
   have hR := hS.tr.here at_ hat hat0
   have fin : ∃ r, Ev (fun k => af.j4 k l H more at_ (mv l (rdI ins at_)).1 (mv l (rdI ins at_)).2 (!okH l (rdI ins at_) (rd H at_)) ins a b c (rdI ins at_).f0 (rdI ins at_).f1 (rdI ins at_).f2) r ∧ kC (net l ins hv) r := by
    by_cases hk : okH l (rdI ins at_) (rd H at_) = true
    ·obtain ⟨r, h1, h2⟩ := rinner l ins a b c hv hn at_ hat (rd H at_) hat0 hk hR m (fun more H hS => ih (at_ + 1) more H (by omega) hS) (nxt (rdI ins at_) at_).length 0 more H (by omega) hS rfl (fun _ i _ h => by omega)
     refine ⟨r, ?_, h2⟩
     refine evs ?_
     have d1 := ff (show ¬ ((!okH l (rdI ins at_) (rd H at_)) = true) by rw [hk]; decide)
     simp only [af.j4, d1, if_false, hnx, Option.bind_some]
     exact h1
    ·have hk' : okH l (rdI ins at_) (rd H at_) = false := by simpa using hk
     refine ⟨([], false), ?_, .inr ⟨rfl, rA hR hk'⟩⟩
     refine evs ?_
     have d1 := tt (show ((!okH l (rdI ins at_) (rd H at_)) = true) by rw [hk']; decide)
     simp only [af.j4, d1, if_true]
     exact Ev.now _
   obtain ⟨r, h1, h2⟩ := fin
   refine ⟨r, ?_, h2⟩
   refine evs ?_
   simp only [af.l2, c1, c2, c3, if_true, if_false, ff f]
   rw [show dM.f l (rdI ins at_).f0 (rdI ins at_).f1 (rdI ins at_).f2 = some (mv l (rdI ins at_)) from hmv]
   simp only [Option.bind_some]
   by_cases g1 : rd H at_ < (mv l (rdI ins at_)).1
   ·rw [show (!okH l (rdI ins at_) (rd H at_)) = true by simp [okH, g1]] at h1
    simp only [tt g1, if_true]
    exact h1
   by_cases g2 : rd H at_ > 4096
   ·rw [show (!okH l (rdI ins at_) (rd H at_)) = true by simp [okH, g1]; omega] at h1
    simp only [ff g1, tt g2, if_true, if_false]
    exact h1
   by_cases g3 : (rdI ins at_).f0 = 24
   ·by_cases g5 : rd H at_ = 0
    ·rw [show (!okH l (rdI ins at_) (rd H at_)) = false by simp [okH, g3, g5]; omega] at h1
     simp only [ff g1, ff g2, tt g3, tt g5, ff (show ¬ (rdI ins at_).f0 = 20 by omega), if_true, if_false]
     exact h1
    ·rw [show (!okH l (rdI ins at_) (rd H at_)) = true by simp [okH, g1, g3, g5]] at h1
     simp only [ff g1, ff g2, tt g3, ff g5, if_true, if_false]
     exact h1
   ·by_cases g4 : (rdI ins at_).f0 = 20
    ·have e9 : (!okH l (rdI ins at_) (rd H at_)) = (rd H at_ != (mv l (rdI ins at_)).1) := by
      by_cases g5 : rd H at_ = (mv l (rdI ins at_)).1
      ·simp [okH, g4, g5]; omega
      ·simp [okH, g1, g4, g5]
     rw [e9] at h1
     simp only [ff g1, ff g2, ff g3, tt g4, if_true, if_false]
     exact h1
    ·rw [show (!okH l (rdI ins at_) (rd H at_)) = false by simp [okH, g3, g4]; omega] at h1
     simp only [ff g1, ff g2, ff g3, ff g4, if_true, if_false]
     exact h1
theorem rouner (hn : ins.length ≤ 65536) : ∀ (m : Nat) (more : Bool) (H : List Int), (net l ins hv).jg H → (more = true → Net.left H ≤ m) → (more = false → (net l ins hv).Whole H) → ∃ r, Ev (fun k => af.l1 k l H more ins a b c) r ∧ kC (net l ins hv) r := by
 have stop : ∀ H, (net l ins hv).jg H → (net l ins hv).Whole H → ∃ r, Ev (fun k => af.l1 k l H false ins a b c) r ∧ kC (net l ins hv) r := fun H hT hW => by
  refine ⟨(H, true), ?_, .inl ⟨rfl, hT, hW⟩⟩
  refine evs ?_
  have c1 := ff (show ¬ (false = true) by decide)
  simp only [af.l1, c1, if_false]
  exact Ev.now _
 intro m
 induction m with
 | zero =>
  intro more H hT hm hW
  cases more with
  | false => exact stop H hT (hW rfl)
  | true =>
   have h0 := hm rfl
   obtain ⟨r, h1, h2⟩ := sP l ins a b c hv hn 0 (fun more H hS => by
    cases more with
    | false => exact stop H hS.tr (fun p hp h0 => hS.done rfl p hp hp h0)
    | true => have := hS.lt rfl; omega) ins.length 0 false H (by omega) ⟨hT, h0, (fun h => by cases h), fun _ p hp => by omega⟩
   refine ⟨r, ?_, h2⟩
   refine evs ?_
   simp only [af.l1, if_true]
   exact h1
 | succ m ih =>
  intro more H hT hm hW
  cases more with
  | false => exact stop H hT (hW rfl)
  | true =>
   have h0 := hm rfl
   obtain ⟨r, h1, h2⟩ := sP l ins a b c hv hn (m + 1) (fun more H hS => by
    cases more with
    | false => exact stop H hS.tr (fun p hp h0 => hS.done rfl p hp hp h0)
    | true => exact ih true H hS.tr (fun _ => by have := hS.lt rfl; omega) (fun h => by cases h)) ins.length 0 false H (by omega) ⟨hT, h0, (fun h => by cases h), fun _ p hp => by omega⟩
   refine ⟨r, ?_, h2⟩
   refine evs ?_
   simp only [af.l1, if_true]
   exact h1
end
end Go.Proofs.YthckiolgpgplpaaDoor.YE
end
section
/- The heights of a code, and whether codes are sound: both programs say the same. -/
namespace Go.Proofs.YthckiolgpgplpaaDoor.YE
set_option linter.unusedVariables false
set_option linter.unusedSimpArgs false
open Go.RowKit YC YA YB YD
def su (ins : List Ins) : Prop := ∀ y ∈ ins, (Lit.int .i64 y.f0).wf = true ∧ ((Lit.int .i64 y.f1).wf = true ∧ (Lit.int .i64 y.f2).wf = true)
def lK (x : Cod) : Prop := 1 ≤ x.f0.length ∧ x.f0.length ≤ 65536 ∧ 0 ≤ x.f1 ∧ x.f1 ≤ 65536 ∧ 0 ≤ x.f2 ∧ x.f2 ≤ 8 ∧ x.f2 ≤ x.f1
def Shape (l : List Cod) (x : Cod) : Prop := lK x ∧ ∀ y ∈ x.f0, May l x.f0 x.f1 x.f3 y.f0 y.f1 y.f2
theorem dY {l : List Cod} {x : Cod} (h : Shape l x) : ∀ p, p < x.f0.length → kz l.length x.f0.length (rdI x.f0 p) := fun p hp => by
 rw [oO _ _ hp]
 exact qg l x.f0 x.f1 x.f3 (h.2 _ (List.getElem_mem hp))
def kI (l : List Cod) (x : Cod) (r : List Int × Bool) : Prop :=
 (r.2 = true ∧ ∃ h : Shape l x, (net l x.f0 (dY h)).jg r.1 ∧ (net l x.f0 (dY h)).Whole r.1) ∨ (r = ([], false) ∧ (¬ Shape l x ∨ ∃ h : Shape l x, (net l x.f0 (dY h)).Bad))
theorem lG {l : List Cod} {x : Cod} {r s : List Int × Bool} (hr : kI l x r) (hs : kI l x s) : r = s := by
 rcases hr with ⟨r2, h, rT, rW⟩ | ⟨rfl, hr⟩
 ·have h0 : 0 < (net l x.f0 (dY h)).n := h.1.1
  rcases hs with ⟨s2, _, sT, sW⟩ | ⟨rfl, hs⟩
  ·exact Prod.ext (Net.unique h0 rT rW sT sW) (r2.trans s2.symm)
  ·rcases hs with hs | ⟨_, hs⟩
   ·exact absurd h hs
   ·exact absurd hs (Net.sZ h0 rT rW)
 ·rcases hs with ⟨s2, h, sT, sW⟩ | ⟨rfl, hs⟩
  ·have h0 : 0 < (net l x.f0 (dY h)).n := h.1.1
   rcases hr with hr | ⟨_, hr⟩
   ·exact absurd h hr
   ·exact absurd hr (Net.sZ h0 sT sW)
  ·rfl
def first (n : Nat) : List Int := (List.replicate n (-1 : Int)).set 0 0
theorem ky {n p : Nat} (hp : p < n) : rd (first n) (p : Int) = if p = 0 then 0 else -1 := by
 have hl : (first n).length = n := by simp [first]
 rw [nP (by omega)]
 unfold first
 rw [List.getElem_set]
 by_cases h : p = 0
 ·subst h; rw [if_pos rfl, if_pos rfl]
 ·rw [if_neg (fun h' => h h'.symm), if_neg h, List.getElem_replicate]
theorem nM (N : Net) (h0 : 0 < N.n) : N.jg (first N.n) := by
 refine ⟨by simp [first], ?_, fun p hp h => ?_, fun p hp h => ?_⟩
 ·have := ky (n := N.n) (p := 0) h0
  rw [if_pos rfl] at this
  exact this
 ·rw [ky hp] at h ⊢
  by_cases e : p = 0
  ·subst e; rw [if_pos rfl]; exact .zero
  ·rw [if_neg e] at h; omega
 ·rw [ky hp] at h ⊢
  by_cases e : p = 0
  ·rw [if_pos e] at h; omega
  ·rw [if_neg e]
section
variable (l : List Cod) (ins : List Ins) (a b : Int) (c : Bool)
theorem init_loop (hn : ins.length ≤ 65536) (h1 : 1 ≤ ins.length) (r : Bool × List Int) (hr : Ev (fun k => ag.l1 k [0] l ins a b c (first ins.length)) r) : ∀ (d i : Nat), i + d = ins.length →
  Ev (fun k => ag.l0 k (ins.length : Int) (i : Int) l ins a b c (List.replicate i (-1))) r := by
 intro d
 induction d with
 | zero =>
  intro i hi
  obtain rfl : i = ins.length := by omega
  refine evs ?_
  have c1 := ff (Int.lt_irrefl (ins.length : Int))
  have c2 := tt (show (0 : Int) < ((List.replicate ins.length (-1 : Int)).length : Int) by rw [List.length_replicate]; omega)
  simp only [ag.l0, c1, if_false, c2, if_true]
  exact hr
 | succ d ih =>
  intro i hi
  refine evs ?_
  have c1 := tt (show (i : Int) < (ins.length : Int) by omega)
  have c2 := tt (show (List.replicate i (-1 : Int)).length < 17592186044416 by rw [List.length_replicate]; omega)
  have b1 : i + 1 ≤ 1000000000000 := by omega
  simp only [ag.l0, c1, c2, if_true, jG b1]
  rw [← List.replicate_succ']
  exact ih (i + 1) (by omega)
theorem rinit_loop (hn : ins.length ≤ 65536) (h1 : 1 ≤ ins.length) (r : List Int × Bool) (hr : Ev (fun k => af.l1 k l (first ins.length) true ins a b c) r) : ∀ (d i : Nat), i + d = ins.length →
  Ev (fun k => af.l0 k l (List.replicate i (-1)) (i : Int) ins a b c) r := by
 intro d
 induction d with
 | zero =>
  intro i hi
  obtain rfl : i = ins.length := by omega
  refine evs ?_
  have c1 := ff (Int.lt_irrefl (ins.length : Int))
  have c2 := tt (show (0 : Int) < ((List.replicate ins.length (-1 : Int)).length : Int) by rw [List.length_replicate]; omega)
  simp only [af.l0, c1, if_false, c2, if_true]
  exact hr
 | succ d ih =>
  intro i hi
  refine evs ?_
  have c1 := tt (show (i : Int) < (ins.length : Int) by omega)
  have c2 := tt (show (List.replicate i (-1 : Int)).length < 17592186044416 by rw [List.length_replicate]; omega)
  have b1 : i + 1 ≤ 1000000000000 := by omega
  simp only [af.l0, c1, c2, if_true, jG b1]
  rw [← List.replicate_succ']
  exact ih (i + 1) (by omega)
theorem tT (H : List Int) : Net.left H ≤ H.length := List.countP_le_length
theorem checker_heights (hv : ∀ p, p < ins.length → kz l.length ins.length (rdI ins p)) (hn : ins.length ≤ 65536) (h1 : 1 ≤ ins.length) : ∃ r, Ev (fun k => ag.f k l ins a b c) r ∧ qY (net l ins hv) r := by
 have hl : (first ins.length).length = ins.length := by simp [first]
 obtain ⟨r, h, ht⟩ := outer l ins a b c hv hn (1 + ins.length) [0] (first ins.length) (by omega) ⟨nM (net l ins hv) h1, fun w hw => by
   simp at hw
   refine ⟨0, hw, h1, ?_⟩
   have := ky (n := ins.length) (p := 0) h1
   rw [this, if_pos rfl]
   decide,
  fun p hp h0 => by
   rw [show rd (first ins.length) (p : Int) = _ from ky hp] at h0
   by_cases e : p = 0
   ·left; simp [e]
   ·rw [if_neg e] at h0; omega⟩ (by have := tT (first ins.length); simp only [List.length_cons, List.length_nil]; omega)
 exact ⟨r, init_loop l ins a b c hn h1 r h ins.length 0 (by omega), ht⟩
theorem ref_heights (hv : ∀ p, p < ins.length → kz l.length ins.length (rdI ins p)) (hn : ins.length ≤ 65536) (h1 : 1 ≤ ins.length) : ∃ r, Ev (fun k => af.l0 k l [] 0 ins a b c) r ∧ kC (net l ins hv) r := by
 have hl : (first ins.length).length = ins.length := by simp [first]
 obtain ⟨r, h, ht⟩ := rouner l ins a b c hv hn ins.length true (first ins.length) (nM (net l ins hv) h1) (fun _ => by have := tT (first ins.length); omega) (fun h => by cases h)
 exact ⟨r, rinit_loop l ins a b c hn h1 r h ins.length 0 (by omega), ht⟩
end
def jH (l : List Cod) (x : Cod) (ys : List Ins) : Bool := ys.all fun y => decide (May l x.f0 x.f1 x.f3 y.f0 y.f1 y.f2)
theorem mF {l : List Cod} {x : Cod} (hs : lK x) : jH l x x.f0 = true ↔ Shape l x := by
 unfold jH Shape
 simp only [List.all_eq_true, decide_eq_true_eq]
 exact ⟨fun h => ⟨hs, h⟩, fun h => h.2⟩
section
variable (l : List Cod) (x : Cod) (hf : su x.f0) (hs : lK x)
theorem own_loop (hf : su x.f0) (hs : lK x) (r : Bool × List Int) (hr : Ev (fun k => ag.f k l x.f0 x.f1 x.f2 x.f3) r) : ∀ (d i : Nat), i + d = x.f0.length →
  Ev (fun k => ax.l0 k x.f0 (x.f0.length : Int) (i : Int) l x.f0 x.f1 x.f2 x.f3) (if jH l x (x.f0.drop i) = true then r else (false, [])) := by
 intro d
 induction d with
 | zero =>
  intro i hi
  obtain rfl : i = x.f0.length := by omega
  rw [List.drop_length]
  refine evs ?_
  have c1 := ff (Int.lt_irrefl (x.f0.length : Int))
  simp only [ax.l0, c1, if_false]
  exact Ev.bind hr (Ev.now _)
 | succ d ih =>
  intro i hi
  have hlt : i < x.f0.length := by omega
  have c1 := tt (show (i : Int) < (x.f0.length : Int) by omega)
  have c2 := tt (show (0 : Int) ≤ (i : Int) by omega)
  have b1 : i + 1 ≤ 1000000000000 := by have := hs.2.1; omega
  obtain ⟨_, y1, y2⟩ := hf _ (List.getElem_mem hlt)
  obtain ⟨n0, n1⟩ := qW y1
  obtain ⟨m0, m1⟩ := qW y2
  rw [List.drop_eq_getElem_cons hlt]
  have g := oO x.f0 i hlt
  have := ih (i + 1) (by omega)
  refine evs ?_
  simp only [ax.l0, c1, c2, if_true, jG b1]
  rw [show az x.f0 (i : Int) = x.f0[i] from g]
  refine Ev.bind (uL l x.f0 x.f1 x.f2 x.f3 _ _ _ n0 n1 m0 m1 hs.2.2.1 hs.2.2.2.1) ?_
  unfold jH
  rw [List.all_cons]
  cases h : decide (May l x.f0 x.f1 x.f3 (x.f0[i]).f0 (x.f0[i]).f1 (x.f0[i]).f2) with
  | true =>
   simp only [if_true, Bool.true_and]
   exact this
  | false =>
   have c3 := ff (show ¬ (false = true) by decide)
   simp only [c3, if_false, Bool.false_and]
   exact Ev.now _
theorem shape_loop (hf : su x.f0) (hs : lK x) : ∀ (d i : Nat), i + d = x.f0.length →
  Ev (fun k => aA.l0 k l (x.f0.length : Int) (i : Int) x.f0 x.f1 x.f2 x.f3) (jH l x (x.f0.drop i)) := by
 intro d
 induction d with
 | zero =>
  intro i hi
  obtain rfl : i = x.f0.length := by omega
  rw [List.drop_length]
  refine evs ?_
  have c1 := ff (Int.lt_irrefl (x.f0.length : Int))
  simp only [aA.l0, c1, if_false]
  exact Ev.now _
 | succ d ih =>
  intro i hi
  have hlt : i < x.f0.length := by omega
  have c1 := tt (show (i : Int) < (x.f0.length : Int) by omega)
  have c2 := tt (show (0 : Int) ≤ (i : Int) by omega)
  have b1 : i + 1 ≤ 1000000000000 := by have := hs.2.1; omega
  obtain ⟨_, y1, y2⟩ := hf _ (List.getElem_mem hlt)
  obtain ⟨n0, n1⟩ := qW y1
  obtain ⟨m0, m1⟩ := qW y2
  rw [List.drop_eq_getElem_cons hlt]
  have g := oO x.f0 i hlt
  have := ih (i + 1) (by omega)
  refine evs ?_
  simp only [aA.l0, c1, c2, if_true, jG b1]
  rw [show az x.f0 (i : Int) = x.f0[i] from g]
  refine Ev.bind (rmay_ok l x.f0 x.f1 x.f2 x.f3 _ _ _ n0 n1 m0 m1 hs.2.2.1 hs.2.2.2.1) ?_
  unfold jH
  rw [List.all_cons]
  cases h : decide (May l x.f0 x.f1 x.f3 (x.f0[i]).f0 (x.f0[i]).f1 (x.f0[i]).f2) with
  | true =>
   simp only [if_true, Bool.true_and]
   exact this
  | false =>
   have c3 := ff (show ¬ (false = true) by decide)
   simp only [c3, if_false, Bool.false_and]
   exact Ev.now _
theorem uy (r : Bool × List Int) (bad : Bool) (h : Ev (fun k => ax.l0 k x.f0 (x.f0.length : Int) 0 l x.f0 x.f1 x.f2 x.f3) r) :
  Ev (fun k => ax.j0 k bad l x.f0 x.f1 x.f2 x.f3 x.f0 x.f1 x.f2 x.f3) (if bad = true then (false, []) else r) := by
 refine evs ?_
 cases bad with
 | true => simp only [ax.j0, if_true]; exact Ev.now _
 | false =>
  have c3 := ff (show ¬ (false = true) by decide)
  simp only [ax.j0, c3, if_false]; exact h
theorem own_bad : Ev (fun k => ax.j0 k true l x.f0 x.f1 x.f2 x.f3 x.f0 x.f1 x.f2 x.f3) (false, []) := by
 refine evs ?_
 simp only [ax.j0, if_true]; exact Ev.now _
theorem own_ok (hf : su x.f0) : ∃ r, Ev (fun k => ax.f k l x.f0 x.f1 x.f2 x.f3) r ∧ ((r.1 = true ∧ ∃ h : Shape l x, (net l x.f0 (dY h)).jg r.2 ∧ (net l x.f0 (dY h)).Whole r.2) ∨ (r.1 = false ∧ (¬ Shape l x ∨ ∃ h : Shape l x, (net l x.f0 (dY h)).Bad))) := by
 unfold ax.f
 by_cases hs : lK x
 ·obtain ⟨s0, s1, s2, s3, s4, s5, s6⟩ := id hs
  have d1 := ff (show ¬ (x.f0.length : Int) < 1 by omega)
  have d2 := ff (show ¬ (x.f0.length : Int) > 65536 by omega)
  have d3 := ff (show ¬ x.f1 < 0 by omega)
  have d4 := ff (show ¬ x.f1 > 65536 by omega)
  have d5 := ff (show ¬ x.f2 < 0 by omega)
  have d6 := ff (show ¬ x.f2 > 8 by omega)
  have d7 : decide (x.f2 > x.f1) = false := Zb (by omega)
  simp only [d1, d2, d3, d4, d5, d6, if_false, d7]
  by_cases hm : jH l x x.f0 = true
  ·have hsh := (mF hs).1 hm
   obtain ⟨r, hr, ht⟩ := checker_heights l x.f0 x.f1 x.f2 x.f3 (dY hsh) s1 s0
   have h1 := own_loop l x hf hs r hr x.f0.length 0 (by omega)
   rw [List.drop_zero, if_pos hm] at h1
   have h2 := uy l x r false h1
   refine ⟨r, h2, ?_⟩
   rcases ht with ⟨a, b, c⟩ | ⟨a, b⟩
   ·exact .inl ⟨a, hsh, b, c⟩
   ·exact .inr ⟨a, .inr ⟨hsh, b⟩⟩
  ·have hnot : ¬ Shape l x := fun h => hm ((mF hs).2 h)
   have h1 : Ev (fun k => ax.l0 k x.f0 (x.f0.length : Int) 0 l x.f0 x.f1 x.f2 x.f3) (false, []) := by
    have hstop : ∀ (d i : Nat), i + d = x.f0.length → jH l x (x.f0.drop i) = false → Ev (fun k => ax.l0 k x.f0 (x.f0.length : Int) (i : Int) l x.f0 x.f1 x.f2 x.f3) (false, []) := by
     intro d
     induction d with
     | zero =>
      intro i hi hfa
      obtain rfl : i = x.f0.length := by omega
      rw [List.drop_length] at hfa
      cases hfa
     | succ d ih =>
      intro i hi hfa
      have hlt : i < x.f0.length := by omega
      have c1 := tt (show (i : Int) < (x.f0.length : Int) by omega)
      have c2 := tt (show (0 : Int) ≤ (i : Int) by omega)
      have b1 : i + 1 ≤ 1000000000000 := by omega
      obtain ⟨_, y1, y2⟩ := hf _ (List.getElem_mem hlt)
      obtain ⟨n0, n1⟩ := qW y1
      obtain ⟨m0, m1⟩ := qW y2
      rw [List.drop_eq_getElem_cons hlt] at hfa
      have g := oO x.f0 i hlt
      refine evs ?_
      simp only [ax.l0, c1, c2, if_true, jG b1]
      rw [show az x.f0 (i : Int) = x.f0[i] from g]
      refine Ev.bind (uL l x.f0 x.f1 x.f2 x.f3 _ _ _ n0 n1 m0 m1 s2 s3) ?_
      unfold jH at hfa
      rw [List.all_cons] at hfa
      cases h : decide (May l x.f0 x.f1 x.f3 (x.f0[i]).f0 (x.f0[i]).f1 (x.f0[i]).f2) with
      | true =>
       rw [h, Bool.true_and] at hfa
       simp only [if_true]
       exact ih (i + 1) (by omega) hfa
      | false =>
       have c3 := ff (show ¬ (false = true) by decide)
       simp only [c3, if_false]
       exact Ev.now _
    exact hstop x.f0.length 0 (by omega) (by rw [List.drop_zero]; simpa using hm)
   exact ⟨(false, []), uy l x (false, []) false h1, .inr ⟨rfl, .inl hnot⟩⟩
 ·refine ⟨(false, []), ?_, .inr ⟨rfl, .inl (fun h => hs h.1)⟩⟩
  have hb := own_bad l x
  by_cases d1 : (x.f0.length : Int) < 1
  ·simp only [tt d1, if_true]; exact hb
  by_cases d2 : (x.f0.length : Int) > 65536
  ·simp only [ff d1, if_false, tt d2, if_true]; exact hb
  by_cases d3 : x.f1 < 0
  ·simp only [ff d1, ff d2, if_false, tt d3, if_true]; exact hb
  by_cases d4 : x.f1 > 65536
  ·simp only [ff d1, ff d2, ff d3, if_false, tt d4, if_true]; exact hb
  by_cases d5 : x.f2 < 0
  ·simp only [ff d1, ff d2, ff d3, ff d4, if_false, tt d5, if_true]; exact hb
  by_cases d6 : x.f2 > 8
  ·simp only [ff d1, ff d2, ff d3, ff d4, ff d5, if_false, tt d6, if_true]; exact hb
  have d7 : decide (x.f2 > x.f1) = true := Za (by
   by_cases h : x.f2 ≤ x.f1
   ·exact absurd ⟨by omega, by omega, by omega, by omega, by omega, by omega, h⟩ hs
   ·omega)
  simp only [ff d1, ff d2, ff d3, ff d4, ff d5, ff d6, if_false, d7]; exact hb
theorem shape_bad (n : Int) : Ev (fun k => aA.j0 k l n true x.f0 x.f1 x.f2 x.f3) false := by
 refine evs ?_
 simp only [aA.j0, if_true]; exact Ev.now _
theorem shape_ok (hf : su x.f0) : ∃ r, Ev (fun k => aA.f k l x.f0 x.f1 x.f2 x.f3) r ∧ (r = true ↔ Shape l x) := by
 unfold aA.f
 by_cases hs : lK x
 ·obtain ⟨s0, s1, s2, s3, s4, s5, s6⟩ := id hs
  have d1 := ff (show ¬ (x.f0.length : Int) = 0 by omega)
  have d2 := ff (show ¬ (x.f0.length : Int) > 65536 by omega)
  have d3 := ff (show ¬ x.f1 < 0 by omega)
  have d4 := ff (show ¬ x.f1 > 65536 by omega)
  have d5 := ff (show ¬ x.f2 < 0 by omega)
  have d6 := ff (show ¬ x.f2 > 8 by omega)
  have d7 : decide (x.f2 > x.f1) = false := Zb (by omega)
  simp only [d1, d2, d3, d4, d5, d6, if_false, d7]
  have h1 := shape_loop l x hf hs x.f0.length 0 (by omega)
  rw [List.drop_zero] at h1
  refine ⟨jH l x x.f0, ?_, mF hs⟩
  refine evs ?_
  have c3 := ff (show ¬ (false = true) by decide)
  simp only [aA.j0, c3, if_false]
  exact h1
 ·refine ⟨false, ?_, ⟨(fun h => by cases h), fun h => absurd h.1 hs⟩⟩
  have hb := shape_bad l x (x.f0.length : Int)
  by_cases d1 : (x.f0.length : Int) = 0
  ·rw [d1] at hb
   simp only [tt d1, if_true, d1]; exact hb
  by_cases d2 : (x.f0.length : Int) > 65536
  ·simp only [ff d1, if_false, tt d2, if_true]; exact hb
  by_cases d3 : x.f1 < 0
  ·simp only [ff d1, ff d2, if_false, tt d3, if_true]; exact hb
  by_cases d4 : x.f1 > 65536
  ·simp only [ff d1, ff d2, ff d3, if_false, tt d4, if_true]; exact hb
  by_cases d5 : x.f2 < 0
  ·simp only [ff d1, ff d2, ff d3, ff d4, if_false, tt d5, if_true]; exact hb
  by_cases d6 : x.f2 > 8
  ·simp only [ff d1, ff d2, ff d3, ff d4, ff d5, if_false, tt d6, if_true]; exact hb
  have d7 : decide (x.f2 > x.f1) = true := Za (by
   by_cases h : x.f2 ≤ x.f1
   ·exact absurd ⟨by omega, by omega, by omega, by omega, by omega, by omega, h⟩ hs
   ·omega)
  simp only [ff d1, ff d2, ff d3, ff d4, ff d5, ff d6, if_false, d7]; exact hb
end
def jB (l : List Cod) : Prop := ∀ x ∈ l, su x.f0
theorem uF {l : List Cod} (hf : jB l) (k : Nat) (hk : k < l.length) : su (rdC l k).f0 := by
 rw [ol _ _ hk]
 exact hf _ (List.getElem_mem hk)
theorem oQ (l : List Cod) (hf : jB l) (k : Nat) (hk : k < l.length) : ∃ r, Ev (fun n => bK.f n l k) r ∧ kI l (rdC l k) r := by
 obtain ⟨r, hr, ht⟩ := own_ok l (rdC l k) (uF hf k hk)
 have d1 := ff (show ¬ (k : Int) < 0 by omega)
 have d2 : decide ((k : Int) ≥ (l.length : Int)) = false := Zb (by omega)
 have d3 := tt (show (0 : Int) ≤ (k : Int) by omega)
 have d4 := tt (show (k : Int) < (l.length : Int) by omega)
 have c3 := ff (show ¬ (false = true) by decide)
 unfold bK.f
 simp only [d1, if_false, d2]
 rcases ht with ⟨a, h, b, c⟩ | ⟨a, b⟩
 ·refine ⟨(r.2, true), ?_, .inl ⟨rfl, h, b, c⟩⟩
  refine evs ?_
  simp only [bK.j0, c3, if_false, d3, d4, if_true]
  refine Ev.bind hr ?_
  simp only [tt a, if_true]
  exact Ev.now _
 ·refine ⟨([], false), ?_, .inr ⟨rfl, b⟩⟩
  refine evs ?_
  simp only [bK.j0, c3, if_false, d3, d4, if_true]
  refine Ev.bind hr ?_
  simp only [ff (show ¬ r.1 = true by rw [a]; decide), if_false]
  exact Ev.now _
theorem refHeights_ok (l : List Cod) (hf : jB l) (k : Nat) (hk : k < l.length) : ∃ r, Ev (fun n => af.f n l k) r ∧ kI l (rdC l k) r := by
 obtain ⟨s, hs, hsi⟩ := shape_ok l (rdC l k) (uF hf k hk)
 have d1 := ff (show ¬ (k : Int) < 0 by omega)
 have d2 := ff (show ¬ (k : Int) ≥ (l.length : Int) by omega)
 have d3 := tt (show (0 : Int) ≤ (k : Int) by omega)
 have d4 := tt (show (k : Int) < (l.length : Int) by omega)
 have c3 := ff (show ¬ (false = true) by decide)
 unfold af.f
 simp only [d1, if_false, d2, d3, d4, if_true]
 cases s with
 | true =>
  have h := hsi.1 rfl
  obtain ⟨r, hr, ht⟩ := ref_heights l (rdC l k).f0 (rdC l k).f1 (rdC l k).f2 (rdC l k).f3 (dY h) h.1.2.1 h.1.1
  refine ⟨r, ?_, ?_⟩
  ·refine Ev.bind hs (evs ?_)
   simp only [af.j0, Bool.not_true, c3, if_false, d3, d4, if_true]
   exact hr
  ·rcases ht with ⟨a, b, c⟩ | ⟨a, b⟩
   ·exact .inl ⟨a, h, b, c⟩
   ·exact .inr ⟨a, .inr ⟨h, b⟩⟩
 | false =>
  refine ⟨([], false), ?_, .inr ⟨rfl, .inl (fun h => by have := hsi.2 h; cases this)⟩⟩
  refine Ev.bind hs (evs ?_)
  simp only [af.j0, Bool.not_false, if_true]
  exact Ev.now _
theorem Heights_both (l : List Cod) (hf : jB l) (k : Nat) (hk : k < l.length) : ∃ r, Ev (fun n => bK.f n l k) r ∧ Ev (fun n => af.f n l k) r ∧ kI l (rdC l k) r := by
 obtain ⟨r, h1, h2⟩ := oQ l hf k hk
 obtain ⟨s, h3, h4⟩ := refHeights_ok l hf k hk
 have := lG h2 h4
 subst this
 exact ⟨r, h1, h3, h2⟩
theorem sound_loop (l : List Cod) (hf : jB l) (hl : l.length ≤ 1000) : ∀ (d i : Nat), i + d = l.length → ∃ r, Ev (fun n => aJ.l0 n l (l.length : Int) (i : Int)) r ∧ Ev (fun n => aD.l0 n l (i : Int)) r ∧ (r = true ↔ ∀ k, i ≤ k → k < l.length → ∃ t, kI l (rdC l k) t ∧ t.2 = true) := by
 intro d
 induction d with
 | zero =>
  intro i hi
  obtain rfl : i = l.length := by omega
  have c1 := ff (Int.lt_irrefl (l.length : Int))
  refine ⟨true, evs ?_, evs ?_, fun _ k h1 h2 => by omega, fun _ => rfl⟩
  ·simp only [aJ.l0, c1, if_false]; exact Ev.now _
  ·simp only [aD.l0, c1, if_false]; exact Ev.now _
 | succ d ih =>
  intro i hi
  obtain ⟨t, h1, h2, h3⟩ := Heights_both l hf i (by omega)
  have c1 := tt (show (i : Int) < (l.length : Int) by omega)
  have b1 : i + 1 ≤ 1000000000000 := by omega
  obtain ⟨r, r1, r2, r3⟩ := ih (i + 1) (by omega)
  by_cases ht : t.2 = true
  ·refine ⟨r, evs ?_, evs ?_, ?_⟩
   ·simp only [aJ.l0, c1, if_true, jG b1]
    refine Ev.bind h1 ?_
    simp only [tt ht, if_true]; exact r1
   ·simp only [aD.l0, c1, if_true, jG b1]
    refine Ev.bind h2 ?_
    simp only [tt ht, if_true]; exact r2
   ·rw [r3]
    refine ⟨fun h k h1 h2 => ?_, fun h k h1 h2 => h k (by omega) h2⟩
    by_cases e : k = i
    ·subst e; exact ⟨t, h3, ht⟩
    ·exact h k (by omega) h2
  ·refine ⟨false, evs ?_, evs ?_, (fun h => by cases h), fun h => ?_⟩
   ·simp only [aJ.l0, c1, if_true]
    refine Ev.bind h1 ?_
    simp only [ff ht, if_false]; exact Ev.now _
   ·simp only [aD.l0, c1, if_true]
    refine Ev.bind h2 ?_
    simp only [ff ht, if_false]; exact Ev.now _
   ·obtain ⟨u, hu, hu2⟩ := h i (by omega) (by omega)
    rw [lG h3 hu] at ht
    exact absurd hu2 ht
def gJ (l : List Cod) (m : Int) : Prop := (1 ≤ l.length ∧ l.length ≤ 40 ∧ 0 ≤ m ∧ m < (l.length : Int) ∧ (rdC l m).f2 = 0 ∧ (rdC l m).f3 = false) ∧ ∀ k, k < l.length → ∃ t, kI l (rdC l k) t ∧ t.2 = true
theorem lq (l : List Cod) (hf : jB l) (m : Int) : ∃ r, Ev (fun n => aJ.f n l m) r ∧ Ev (fun n => aD.f n l m) r ∧ (r = true ↔ gJ l m) := by
 have cb : ∀ l, Ev (fun n => aJ.j0 n l true) false := fun l => evs (by simp only [aJ.j0, if_true]; exact Ev.now _)
 have rb : ∀ l, Ev (fun n => aD.j0 n l true) false := fun l => evs (by simp only [aD.j0, if_true]; exact Ev.now _)
 unfold aJ.f aD.f
 by_cases d1 : l.length = 0
 ·refine ⟨false, ?_, ?_, (fun h => by cases h), fun h => by have := h.1.1; omega⟩
  ·simp only [tt (show (l.length : Int) < 1 by omega), if_true]; exact cb l
  ·simp only [tt (show (l.length : Int) = 0 by omega), if_true]; exact rb l
 have e1 := ff (show ¬ (l.length : Int) < 1 by omega)
 have e1' := ff (show ¬ (l.length : Int) = 0 by omega)
 by_cases d2 : (l.length : Int) > 40
 ·refine ⟨false, ?_, ?_, (fun h => by cases h), fun h => by have := h.1.2.1; omega⟩
  ·simp only [e1, if_false, tt d2, if_true]; exact cb l
  ·simp only [e1', if_false, tt d2, if_true]; exact rb l
 by_cases d3 : m < 0
 ·refine ⟨false, ?_, ?_, (fun h => by cases h), fun h => by have := h.1.2.2.1; omega⟩
  ·simp only [e1, if_false, ff d2, tt d3, if_true]; exact cb l
  ·simp only [e1', if_false, ff d2, tt d3, if_true]; exact rb l
 by_cases d4 : m ≥ (l.length : Int)
 ·refine ⟨false, ?_, ?_, (fun h => by cases h), fun h => by have := h.1.2.2.2.1; omega⟩
  ·simp only [e1, if_false, ff d2, ff d3, tt d4, if_true]; exact cb l
  ·simp only [e1', if_false, ff d2, ff d3, tt d4, if_true]; exact rb l
 have e5 := tt (show 0 ≤ m by omega)
 have e6 := tt (show m < (l.length : Int) by omega)
 by_cases d5 : (au l m).f2 = 0
 ·cases d6 : (au l m).f3 with
  | true =>
   refine ⟨false, ?_, ?_, (fun h => by cases h), fun h => by have h9 := h.1.2.2.2.2.2; rw [show (rdC l m).f3 = true from d6] at h9; cases h9⟩
   ·simp only [e1, if_false, ff d2, ff d3, ff d4, e5, e6, tt d5, if_true, d6]; exact cb l
   ·simp only [e1', if_false, ff d2, ff d3, ff d4, e5, e6, tt d5, if_true, d6]; exact rb l
  | false =>
   have c3 := ff (show ¬ (false = true) by decide)
   obtain ⟨r, r1, r2, r3⟩ := sound_loop l hf (by omega) l.length 0 (by omega)
   refine ⟨r, ?_, ?_, ?_⟩
   ·simp only [e1, if_false, ff d2, ff d3, ff d4, e5, e6, tt d5, if_true, d6]
    refine evs ?_
    simp only [aJ.j0, c3, if_false]; exact r1
   ·simp only [e1', if_false, ff d2, ff d3, ff d4, e5, e6, tt d5, if_true, d6]
    refine evs ?_
    simp only [aD.j0, c3, if_false]; exact r2
   ·rw [r3]
    exact ⟨fun h => ⟨⟨by omega, by omega, by omega, by omega, d5, d6⟩, fun k hk => h k (by omega) hk⟩, fun h k _ hk => h.2 k hk⟩
 ·refine ⟨false, ?_, ?_, (fun h => by cases h), fun h => absurd h.1.2.2.2.2.1 d5⟩
  ·simp only [e1, if_false, ff d2, ff d3, ff d4, e5, e6, ff d5, if_true]; exact cb l
  ·simp only [e1', if_false, ff d2, ff d3, ff d4, e5, e6, ff d5, if_true]; exact rb l
theorem Size_ok (l : List Cod) (hl : l.length ≤ 10000000000000) (hb : ∀ x ∈ l, x.f0.length ≤ 1000000000000000) (most : Int) (hm : most ≤ 1000000) : ∃ r, Ev (fun k => bP.f k l most) r := by
 have loop : ∀ (d i : Nat) (n : Int), i + d = l.length → -1 ≤ n → n ≤ 2000000000000000 → ∃ r, Ev (fun k => bP.l0 k l most n i) r := by
  intro d
  induction d with
  | zero =>
   intro i n hi h0 h1
   obtain rfl : i = l.length := by omega
   refine ⟨n, evs ?_⟩
   have c1 := ff (Int.lt_irrefl (l.length : Int))
   simp only [bP.l0, c1, if_false]; exact Ev.now _
  | succ d ih =>
   intro i n hi h0 h1
   have c1 := tt (show (i : Int) < (l.length : Int) by omega)
   have c2 := tt (show (0 : Int) ≤ (i : Int) by omega)
   by_cases h : n ≤ most
   ·have g := ol l i (by omega)
    have hx := hb _ (List.getElem_mem (show i < l.length by omega))
    have e : wrap64 (wrap64 (n + 1) + ((au l (i : Int)).f0.length : Int)) = n + 1 + (((l[i]'(by omega)).f0.length : Nat) : Int) := by
     rw [show au l (i : Int) = l[i] from g, w64 (n := n + 1) (by omega) (by omega), w64 (by omega) (by omega)]
    have e2 : wrap64 ((i : Int) + 1) = ((i + 1 : Nat) : Int) := by rw [w64 (by omega) (by omega)]; rfl
    obtain ⟨r, hr⟩ := ih (i + 1) (n + 1 + (((l[i]'(by omega)).f0.length : Nat) : Int)) (by omega) (by omega) (by omega)
    refine ⟨r, evs ?_⟩
    simp only [bP.l0, c1, if_true, tt h, c2, e, e2]
    exact hr
   ·refine ⟨n, evs ?_⟩
    simp only [bP.l0, c1, if_true, ff h, if_false]; exact Ev.now _
 exact loop l.length 0 0 (by omega) (by omega) (by omega)
theorem sound_loop1 (l : List Cod) (hf : jB l) (hl : l.length ≤ 1000) : ∀ (d i : Nat), i + d = l.length → ∃ r, Ev (fun n => aJ.l0 n l (l.length : Int) (i : Int)) r ∧ (r = true ↔ ∀ k, i ≤ k → k < l.length → ∃ t, kI l (rdC l k) t ∧ t.2 = true) := by
 intro d
 induction d with
 | zero =>
  intro i hi
  obtain rfl : i = l.length := by omega
  have c1 := ff (Int.lt_irrefl (l.length : Int))
  refine ⟨true, evs ?_, fun _ k h1 h2 => by omega, fun _ => rfl⟩
  simp only [aJ.l0, c1, if_false]; exact Ev.now _
 | succ d ih =>
  intro i hi
  obtain ⟨t, h1, h3⟩ := oQ l hf i (by omega)
  have c1 := tt (show (i : Int) < (l.length : Int) by omega)
  have b1 : i + 1 ≤ 1000000000000 := by omega
  obtain ⟨r, r1, r3⟩ := ih (i + 1) (by omega)
  by_cases ht : t.2 = true
  ·refine ⟨r, evs ?_, ?_⟩
   ·simp only [aJ.l0, c1, if_true, jG b1]
    refine Ev.bind h1 ?_
    simp only [tt ht, if_true]; exact r1
   ·rw [r3]
    refine ⟨fun h k h1 h2 => ?_, fun h k h1 h2 => h k (by omega) h2⟩
    by_cases e : k = i
    ·subst e; exact ⟨t, h3, ht⟩
    ·exact h k (by omega) h2
  ·refine ⟨false, evs ?_, (fun h => by cases h), fun h => ?_⟩
   ·simp only [aJ.l0, c1, if_true]
    refine Ev.bind h1 ?_
    simp only [ff ht, if_false]; exact Ev.now _
   ·obtain ⟨u, hu, hu2⟩ := h i (by omega) (by omega)
    rw [lG h3 hu] at ht
    exact absurd hu2 ht
theorem Sound_ok (l : List Cod) (hf : jB l) (m : Int) : ∃ r, Ev (fun n => aJ.f n l m) r ∧ (r = true ↔ gJ l m) := by
 have cb : ∀ l, Ev (fun n => aJ.j0 n l true) false := fun l => evs (by simp only [aJ.j0, if_true]; exact Ev.now _)
 unfold aJ.f
 by_cases d1 : l.length = 0
 ·refine ⟨false, ?_, (fun h => by cases h), fun h => by have := h.1.1; omega⟩
  simp only [tt (show (l.length : Int) < 1 by omega), if_true]; exact cb l
 have e1 := ff (show ¬ (l.length : Int) < 1 by omega)
 by_cases d2 : (l.length : Int) > 40
 ·refine ⟨false, ?_, (fun h => by cases h), fun h => by have := h.1.2.1; omega⟩
  simp only [e1, if_false, tt d2, if_true]; exact cb l
 by_cases d3 : m < 0
 ·refine ⟨false, ?_, (fun h => by cases h), fun h => by have := h.1.2.2.1; omega⟩
  simp only [e1, if_false, ff d2, tt d3, if_true]; exact cb l
 by_cases d4 : m ≥ (l.length : Int)
 ·refine ⟨false, ?_, (fun h => by cases h), fun h => by have := h.1.2.2.2.1; omega⟩
  simp only [e1, if_false, ff d2, ff d3, tt d4, if_true]; exact cb l
 have e5 := tt (show 0 ≤ m by omega)
 have e6 := tt (show m < (l.length : Int) by omega)
 by_cases d5 : (au l m).f2 = 0
 ·cases d6 : (au l m).f3 with
  | true =>
   refine ⟨false, ?_, (fun h => by cases h), fun h => by have h9 := h.1.2.2.2.2.2; rw [show (rdC l m).f3 = true from d6] at h9; cases h9⟩
   simp only [e1, if_false, ff d2, ff d3, ff d4, e5, e6, tt d5, if_true, d6]; exact cb l
  | false =>
   have c3 := ff (show ¬ (false = true) by decide)
   obtain ⟨r, r1, r3⟩ := sound_loop1 l hf (by omega) l.length 0 (by omega)
   refine ⟨r, ?_, ?_⟩
   ·simp only [e1, if_false, ff d2, ff d3, ff d4, e5, e6, tt d5, if_true, d6]
    refine evs ?_
    simp only [aJ.j0, c3, if_false]; exact r1
   ·rw [r3]
    exact ⟨fun h => ⟨⟨by omega, by omega, by omega, by omega, d5, d6⟩, fun k hk => h k (by omega) hk⟩, fun h k _ hk => h.2 k hk⟩
 ·refine ⟨false, ?_, (fun h => by cases h), fun h => absurd h.1.2.2.2.2.1 d5⟩
  simp only [e1, if_false, ff d2, ff d3, ff d4, e5, e6, ff d5, if_true]; exact cb l
end Go.Proofs.YthckiolgpgplpaaDoor.YE
end
