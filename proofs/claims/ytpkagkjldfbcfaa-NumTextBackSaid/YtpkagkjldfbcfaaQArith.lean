/- The reference's sums, products and quotients, in plain arithmetic. -/
import Derived.Test.YtpkagkjldfbcfaaPx1
import Derived.Test.YtpkagkjldfbcfaaPx3
import Derived.Test.YtpkagkjldfbcfaaPx4
import Derived.Test.YtpkagkjldfbcfaaQBits
import Derived.KernelRfl
-- use: QBits
namespace Go.Proofs.Ytpkagkjldfbcfaa.Q
set_option linter.unusedVariables false
set_option linter.unusedSimpArgs false
open Go.RowKit Go.Proofs.YtpkagkjldfbcfaaW.PrintWords Go.Proofs.YtpkagkjldfbcfaaW.PrintLast Go.Proofs.YtpkagkjldfbcfaaW.PrintMore Go.Proofs.Ytpkagkjldfbcfaa.P

theorem Ev.fin {α : Type} {g : Nat → Option α} {r : α} (h : Ev g r) : Ev (fun k => (g k).bind fun t => some t) r := Ev.bind h (Ev.now _)

theorem Sub_ok (a b : Int) : Ev (fun k => parallaxref01_Sub.f k a b) (wrap64 (a - b)) := by
  obtain ⟨A, hA, pA⟩ := Bits_ok a
  obtain ⟨B, hB, pB⟩ := Bits_ok b
  obtain ⟨C, hC, pC⟩ := other_ok pB
  obtain ⟨D, hD, pD⟩ := plus_ok pA pC 1 (Nat.le_refl _)
  have hn := number_ok pD
  have e : wrap64 (((um a + (2 ^ 64 - 1 - um b) + 1) % 2 ^ 64 : Nat) : Int) = wrap64 (a - b) := by
    have := um_lt a
    have := um_lt b
    have := um_cast a
    have := um_cast b
    apply w64_eq
    omega
  rw [e] at hn
  exact Ev.bind hA (Ev.bind hB (Ev.bind hC (Ev.bind hD (Ev.fin hn))))
theorem Neg_ok (a : Int) : Ev (fun k => parallaxref01_Neg.f k a) (wrap64 (-a)) := by
  have h := Sub_ok 0 a
  rw [Int.zero_sub] at h
  exact Ev.fin h

theorem emod_mul_congr {a b c d : Int} (M : Int) (h1 : a % M = b % M) (h2 : c % M = d % M) : a * c % M = b * d % M := by
  rw [Int.mul_emod, h1, h2, ← Int.mul_emod]
theorem emod_add_congr {a b c d : Int} (M : Int) (h1 : a % M = b % M) (h2 : c % M = d % M) : (a + c) % M = (b + d) % M := by
  rw [Int.add_emod, h1, h2, ← Int.add_emod]

def M64 : Nat := 18446744073709551616
theorem mul_loop (a b : Int) (Y : List Int) (hY : IsBits Y (um b)) : ∀ (d i : Nat) (S X : List Int) (s x : Nat), i + d = 64 → IsBits S s → IsBits X x → s % M64 = um a * val (Y.take i) % M64 → x % M64 = um a * 2 ^ i % M64 →
    Ev (fun k => parallaxref01_Mul.l0 k S X Y i) (wrap64 (a * b)) := by
  intro d
  induction d with
  | zero =>
    intro i S X s x hd hS hX hs hx
    obtain rfl : i = 64 := by omega
    rw [List.take_of_length_le (by rw [hY.1]; omega), hY.2.2] at hs
    have hn := number_ok hS
    have e : wrap64 (s : Int) = wrap64 (a * b) := by
      apply w64_eq
      have h1 : ((s % M64 : Nat) : Int) = ((um a * um b % M64 : Nat) : Int) := by rw [hs]
      rw [Int.natCast_emod, Int.natCast_emod, Int.natCast_mul, um_cast, um_cast] at h1
      rw [show (M64 : Int) = 18446744073709551616 from rfl] at h1
      rw [h1, ← Int.mul_emod]
    rw [e] at hn
    refine evs ?_
    have c1 := ff (show ¬ ((64 : Nat) : Int) < 64 by omega)
    simp only [parallaxref01_Mul.l0, if_false, c1]
    exact Ev.fin hn
  | succ d ih =>
    intro i S X s x hd hS hX hs hx
    have hi : i < 64 := by omega
    have c1 := tt (show (i : Int) < 64 by omega)
    have c2 := tt (show (0 : Int) ≤ i by omega)
    have c3 := tt (show (i : Int) < (Y.length : Int) by have := hY.1; omega)
    have c4 : wrap64 ((i : Int) + 1) = ((i + 1 : Nat) : Int) := by rw [w64 (by omega) (by omega)]; rfl
    have hyl : i < Y.length := by have := hY.1; omega
    have yb := rd_bit hY.2.1 hyl
    have vt := val_take hyl
    obtain ⟨X2, hX2, pX2⟩ := plus_ok hX hX 0 (Nat.zero_le _)
    have hx2 : (x + x + 0) % 2 ^ 64 % M64 = um a * 2 ^ (i + 1) % M64 := by
      rw [show (2 : Nat) ^ 64 = M64 from rfl, Nat.mod_mod, Nat.add_zero, Nat.add_mod, hx, ← Nat.add_mod, Nat.pow_succ, ← Nat.mul_assoc, Nat.mul_two]
    rcases yb with yb | yb
    · have c5 : (rd Y i = 1) = False := ff (by rw [yb]; decide)
      have := ih (i + 1) S X2 s _ (by omega) hS pX2 (by rw [vt, yb]; simpa using hs) hx2
      refine evs ?_
      simp only [parallaxref01_Mul.l0, if_true, if_false, c1, c2, c3, c4, c5]
      exact Ev.bind hX2 this
    · have c5 : (rd Y i = 1) = True := tt yb
      obtain ⟨S2, hS2, pS2⟩ := plus_ok hS hX 0 (Nat.zero_le _)
      have hs2 : (s + x + 0) % 2 ^ 64 % M64 = um a * val (Y.take (i + 1)) % M64 := by
        rw [show (2 : Nat) ^ 64 = M64 from rfl, Nat.mod_mod, Nat.add_zero, Nat.add_mod, hx, hs, ← Nat.add_mod, vt, yb]
        congr 1
        rw [Nat.mul_add]
        simp
      have := ih (i + 1) S2 X2 _ _ (by omega) pS2 pX2 hs2 hx2
      refine evs ?_
      simp only [parallaxref01_Mul.l0, if_true, c1, c2, c3, c4, c5]
      exact Ev.bind hS2 (Ev.bind hX2 this)
theorem Mul_ok (a b : Int) : Ev (fun k => parallaxref01_Mul.f k a b) (wrap64 (a * b)) := by
  obtain ⟨Z, hZ, pZ⟩ := Bits_ok 0
  obtain ⟨A, hA, pA⟩ := Bits_ok a
  obtain ⟨B, hB, pB⟩ := Bits_ok b
  exact Ev.bind hZ (Ev.bind hA (Ev.bind hB (mul_loop a b B pB 64 0 Z A _ _ rfl pZ pA (by simp [val]; rfl) (by simp))))

/-! quotients, bit by bit -/
theorem bit_next (a i : Nat) : a / 2 ^ i = 2 * (a / 2 ^ (i + 1)) + a / 2 ^ i % 2 := by
  rw [Nat.pow_succ, ← Nat.div_div_eq_div_mul]
  omega
theorem parted_loop (a b : Nat) (hb : 0 < b) (ha : a < 2 ^ 64) (hb2 : b < 2 ^ 64) : ∀ (d : Nat) (q r : Nat), d ≤ 64 → a / 2 ^ d = q * b + r → r < b →
    Ev (fun k => parallaxref01_parted.l0 k (a : Int) (b : Int) (q : Int) (r : Int) ((d : Int) - 1)) (((a / b : Nat) : Int), ((a % b : Nat) : Int)) := by
  intro d
  induction d with
  | zero =>
    intro q r hd hq hr
    rw [Nat.pow_zero, Nat.div_one] at hq
    have e1 : a / b = q := by
      rw [hq, Nat.mul_comm, Nat.mul_add_div hb, Nat.div_eq_of_lt hr, Nat.add_zero]
    have e2 : a % b = r := by
      rw [hq, Nat.mul_comm, Nat.mul_add_mod, Nat.mod_eq_of_lt hr]
    rw [e1, e2]
    refine evs ?_
    have c1 := ff (show ¬ ((0 : Nat) : Int) - 1 ≥ 0 by omega)
    simp only [parallaxref01_parted.l0, if_false, c1]
    exact Ev.now _
  | succ d ih =>
    intro q r hd hq hr
    have e0 : ((d + 1 : Nat) : Int) - 1 = (d : Int) := by omega
    have c1 := tt (show (d : Int) ≥ 0 by omega)
    have c2 : (0 ≤ IntKind.u64.wrap (d : Int)) = True := tt (by rw [u64w]; omega)
    have c3 : wrap64 ((d : Int) - 1) = (d : Int) - 1 := w64 (by omega) (by omega)
    have hqq : q * b ≤ a := Nat.le_trans (Nat.le_trans (Nat.le_add_right _ _) (Nat.le_of_eq hq.symm)) (Nat.div_le_self _ _)
    have hq1 : q ≤ q * b := Nat.le_mul_of_pos_right _ hb
    have hn := bit_next a d
    have hbit : Int.tmod (shr .u64 (a : Int) (IntKind.u64.wrap (d : Int))) 2 = ((a / 2 ^ d % 2 : Nat) : Int) := by
      have h2 : IntKind.u64.wrap (d : Int) = (d : Int) := by rw [u64w]; omega
      have h3 : min d 64 = d := by omega
      rw [h2]
      simp only [shr, IntKind.bits, Int.toNat_natCast, h3]
      rw [show (a : Int) / 2 ^ d = ((a / 2 ^ d : Nat) : Int) by simp, tmod_two]
    rw [hq] at hn
    have hbb : a / 2 ^ d % 2 ≤ 1 := by omega
    generalize a / 2 ^ d % 2 = bit at hn hbit hbb
    have hA : a / 2 ^ d ≤ a := Nat.div_le_self _ _
    have hq2 : 2 * q * b = 2 * (q * b) := Nat.mul_assoc ..
    have hq3 : (2 * q + 1) * b = 2 * (q * b) + b := by rw [Nat.add_mul, Nat.mul_assoc, Nat.one_mul]
    have hwx : IntKind.u64.wrap ((r : Int) * 2) = ((r * 2 % 18446744073709551616 : Nat) : Int) := by rw [u64w]; omega
    have hw : IntKind.u64.wrap (IntKind.u64.wrap ((r : Int) * 2) + (bit : Int)) = (((2 * r + bit) % 18446744073709551616 : Nat) : Int) := by rw [hwx, u64w]; omega
    refine evs ?_
    by_cases hge : b ≤ 2 * r + bit
    · have hlt : 2 * q + 1 < 18446744073709551616 := by
        have : (2 * q + 1) * b ≤ a := by omega
        have h4 : 2 * q + 1 ≤ (2 * q + 1) * b := Nat.le_mul_of_pos_right _ hb
        omega
      have hq5 : IntKind.u64.wrap (IntKind.u64.wrap ((q : Int) * 2) + 1) = ((2 * q + 1 : Nat) : Int) := by rw [u64w, u64w]; omega
      have hr5 : IntKind.u64.wrap ((((2 * r + bit) % 18446744073709551616 : Nat) : Int) - (b : Int)) = ((2 * r + bit - b : Nat) : Int) := by rw [u64w]; omega
      have := ih (2 * q + 1) (2 * r + bit - b) (by omega) (by omega) (by omega)
      by_cases ho : 9223372036854775808 ≤ r
      · have c4 := tt (show (r : Int) ≥ 9223372036854775808 by omega)
        simp only [parallaxref01_parted.l0, if_true, e0, c1, c2, c3, c4, hbit, hw, hq5, hr5]
        exact this
      · have c4 := ff (show ¬ (r : Int) ≥ 9223372036854775808 by omega)
        have c5 := tt (show (((2 * r + bit) % 18446744073709551616 : Nat) : Int) ≥ (b : Int) by omega)
        simp only [parallaxref01_parted.l0, if_true, if_false, e0, c1, c2, c3, c4, c5, hbit, hw, hq5, hr5]
        exact this
    · have c4 := ff (show ¬ (r : Int) ≥ 9223372036854775808 by omega)
      have c5 := ff (show ¬ (((2 * r + bit) % 18446744073709551616 : Nat) : Int) ≥ (b : Int) by omega)
      have hlt : 2 * q < 18446744073709551616 := by
        have : 2 * q * b ≤ a := by omega
        have h4 : 2 * q ≤ 2 * q * b := Nat.le_mul_of_pos_right _ hb
        omega
      have hq5 : IntKind.u64.wrap ((q : Int) * 2) = ((2 * q : Nat) : Int) := by rw [u64w]; omega
      have hr5 : (2 * r + bit) % 18446744073709551616 = 2 * r + bit := by omega
      have := ih (2 * q) (2 * r + bit) (by omega) (by omega) (by omega)
      rw [hr5] at c5 hw
      simp only [parallaxref01_parted.l0, if_true, if_false, e0, c1, c2, c3, c4, c5, hbit, hw, hq5]
      exact this
theorem parted_ok (a b : Nat) (hb : 0 < b) (ha : a < 2 ^ 64) (hb2 : b < 2 ^ 64) : Ev (fun k => parallaxref01_parted.f k (a : Int) (b : Int)) (((a / b : Nat) : Int), ((a % b : Nat) : Int)) :=
  parted_loop a b hb ha hb2 64 0 0 (Nat.le_refl _) (by rw [Nat.div_eq_of_lt ha]; simp) hb

theorem size_ok (a : Int) (h0 : -9223372036854775808 ≤ a) (h1 : a ≤ 9223372036854775807) : Ev (fun k => parallaxref01_size.f k a) (a.natAbs : Int) := by
  unfold parallaxref01_size.f
  by_cases h : a < 0
  · have e : IntKind.u64.wrap (wrap64 (-a)) = (a.natAbs : Int) := by rw [u64w]; unfold wrap64; omega
    have c := tt h
    simp only [c, if_true]
    rw [← e]
    exact Ev.bind (Neg_ok a) (Ev.now _)
  · have e : IntKind.u64.wrap a = (a.natAbs : Int) := by rw [u64w]; omega
    have c := ff h
    simp only [c, if_false, e]
    exact Ev.now _

theorem Div_ok (a b : Int) (a0 : -9223372036854775808 ≤ a) (a1 : a ≤ 9223372036854775807) (b0 : -9223372036854775808 ≤ b) (b1 : b ≤ 9223372036854775807) (hb : b ≠ 0) :
    Ev (fun k => parallaxref01_Div.f k a b) (wrap64 (Int.tdiv a b), 0) := by
  unfold parallaxref01_Div.f
  have c1 := ff hb
  simp only [c1, if_false]
  refine Ev.bind (size_ok a a0 a1) (Ev.bind (size_ok b b0 b1) (Ev.bind (parted_ok a.natAbs b.natAbs (by omega) (by omega) (by omega)) ?_))
  have ht : Int.tdiv a b = if (a < 0) = (b < 0) then ((a.natAbs / b.natAbs : Nat) : Int) else -((a.natAbs / b.natAbs : Nat) : Int) := by
    rcases Int.lt_or_le a 0 with ha | ha <;> rcases Int.lt_or_le b 0 with hb | hb
    · rw [if_pos (by simp [ha, hb])]
      obtain ⟨m, rfl⟩ : ∃ m : Nat, a = -(m : Int) := ⟨a.natAbs, by omega⟩
      obtain ⟨n, rfl⟩ : ∃ n : Nat, b = -(n : Int) := ⟨b.natAbs, by omega⟩
      simp
    · rw [if_neg (by simp [ha, Int.not_lt.mpr hb])]
      obtain ⟨m, rfl⟩ : ∃ m : Nat, a = -(m : Int) := ⟨a.natAbs, by omega⟩
      obtain ⟨n, rfl⟩ : ∃ n : Nat, b = (n : Int) := ⟨b.natAbs, by omega⟩
      simp
    · rw [if_neg (by simp [hb, Int.not_lt.mpr ha])]
      obtain ⟨m, rfl⟩ : ∃ m : Nat, a = (m : Int) := ⟨a.natAbs, by omega⟩
      obtain ⟨n, rfl⟩ : ∃ n : Nat, b = -(n : Int) := ⟨b.natAbs, by omega⟩
      simp
    · rw [if_pos (by simp [Int.not_lt.mpr ha, Int.not_lt.mpr hb])]
      obtain ⟨m, rfl⟩ : ∃ m : Nat, a = (m : Int) := ⟨a.natAbs, by omega⟩
      obtain ⟨n, rfl⟩ : ∃ n : Nat, b = (n : Int) := ⟨b.natAbs, by omega⟩
      simp
  rw [ht]
  generalize (a.natAbs / b.natAbs : Nat) = q
  by_cases hs : (a < 0) = (b < 0)
  · have c2 : (((decide (a < 0)) != (decide (b < 0))) = true) = False := ff (by simp [hs])
    simp only [c2, if_false, if_pos hs]
    exact Ev.now _
  · have c2 : (((decide (a < 0)) != (decide (b < 0))) = true) = True := tt (by
      simp only [bne_iff_ne, ne_eq, decide_eq_decide]
      exact fun h => hs (propext h))
    have e : wrap64 (-(q : Int)) = wrap64 (-(wrap64 (q : Int))) := by unfold wrap64; omega
    simp only [c2, if_true, if_neg hs]
    rw [e]
    exact Ev.bind (Neg_ok _) (Ev.now _)
theorem Div_zero (a : Int) : Ev (fun k => parallaxref01_Div.f k a 0) (0, 11) := by
  unfold parallaxref01_Div.f
  simp only [if_true]
  exact Ev.now _
theorem tdiv_in (a b : Int) (a0 : -9223372036854775808 ≤ a) (a1 : a ≤ 9223372036854775807) (hb : b ≠ 0) : wrap64 (a - wrap64 (wrap64 (Int.tdiv a b) * b)) = Int.tmod a b := by
  have h := Int.mul_tdiv_add_tmod a b
  have e : (a - wrap64 (wrap64 (Int.tdiv a b) * b)) % 18446744073709551616 = Int.tmod a b % 18446744073709551616 := by
    have h1 : wrap64 (wrap64 (Int.tdiv a b) * b) % 18446744073709551616 = (b * Int.tdiv a b) % 18446744073709551616 := by
      rw [w64_mod, Int.mul_comm b, Int.mul_emod, w64_mod, ← Int.mul_emod]
    rw [Int.sub_emod, h1, ← Int.sub_emod]
    congr 1
    omega
  have hm : -9223372036854775808 ≤ Int.tmod a b ∧ Int.tmod a b ≤ 9223372036854775807 := by
    have h2 : (Int.tmod a b).natAbs ≤ a.natAbs := by
      rw [Int.natAbs_tmod]
      exact Nat.mod_le _ _
    rcases Int.lt_or_le a 0 with ha | ha
    · have h3 := Int.tmod_nonneg b (a := -a) (by omega)
      rw [Int.neg_tmod] at h3
      omega
    · have h3 := Int.tmod_nonneg b ha
      omega
  rw [w64_eq e, w64 hm.1 hm.2]
theorem Mod_ok (a b : Int) (a0 : -9223372036854775808 ≤ a) (a1 : a ≤ 9223372036854775807) (b0 : -9223372036854775808 ≤ b) (b1 : b ≤ 9223372036854775807) (hb : b ≠ 0) :
    Ev (fun k => parallaxref01_Mod.f k a b) (Int.tmod a b, 0) := by
  unfold parallaxref01_Mod.f
  refine Ev.bind (Div_ok a b a0 a1 b0 b1 hb) ?_
  simp only [if_true]
  refine Ev.bind (Mul_ok _ b) ?_
  rw [← tdiv_in a b a0 a1 hb]
  exact Ev.bind (Sub_ok _ _) (Ev.now _)
theorem Mod_zero (a : Int) : Ev (fun k => parallaxref01_Mod.f k a 0) (0, 11) := by
  unfold parallaxref01_Mod.f
  refine Ev.bind (Div_zero a) ?_
  have c := ff (show ¬ (11 : Int) = 0 by decide)
  simp only [c, if_false]
  exact Ev.now _
end Go.Proofs.Ytpkagkjldfbcfaa.Q
