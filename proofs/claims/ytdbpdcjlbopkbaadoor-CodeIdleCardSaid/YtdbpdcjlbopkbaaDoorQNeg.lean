/- The reference's difference, opposite and size, in plain arithmetic. -/
import Derived.Test.YtdbpdcjlbopkbaaDoorPx11
import Derived.Test.YtdbpdcjlbopkbaaDoorQBits
import Derived.KernelRfl
-- use: QBits
namespace Go.Proofs.YtdbpdcjlbopkbaaDoor.Q
set_option linter.unusedVariables false
set_option linter.unusedSimpArgs false
open Go.RowKit Go.Proofs.YtdbpdcjlbopkbaaDoorW.PrintWords Go.Proofs.YtdbpdcjlbopkbaaDoorW.PrintLast Go.Proofs.YtdbpdcjlbopkbaaDoorW.PrintMore Go.Proofs.YtdbpdcjlbopkbaaDoor.P

theorem Ev.fin {α : Type} {g : Nat → Option α} {r : α} (h : Ev g r) : Ev (fun k => (g k).bind fun t => some t) r := Ev.bind h (Ev.now _)

theorem Sub_ok (a b : Int) : Ev (fun k => parallaxref01_Sub.f k a b) (wrap64 (a - b)) := by
  obtain ⟨A, hA, pA⟩ := Bits_ok a
  obtain ⟨B, hB, pB⟩ := Bits_ok b
  obtain ⟨C, hC, pC⟩ := other_ok pB
  obtain ⟨D, hD, pD⟩ := plus_ok pA pC 1 (Nat.le_refl _)
  have hn := number_ok pD
  have e : wrap64 (((um a + (2 ^ 64 - 1 - um b) + 1) % 2 ^ 64 : Nat) : Int) = wrap64 (a - b) := by
    have := um_lt a
    have := um_lt b
    have := um_cast a
    have := um_cast b
    apply w64_eq
    omega
  rw [e] at hn
  exact Ev.bind hA (Ev.bind hB (Ev.bind hC (Ev.bind hD (Ev.fin hn))))
theorem Neg_ok (a : Int) : Ev (fun k => parallaxref01_Neg.f k a) (wrap64 (-a)) := by
  have h := Sub_ok 0 a
  rw [Int.zero_sub] at h
  exact Ev.fin h

theorem size_ok (a : Int) (h0 : -9223372036854775808 ≤ a) (h1 : a ≤ 9223372036854775807) : Ev (fun k => parallaxref01_size.f k a) (a.natAbs : Int) := by
  unfold parallaxref01_size.f
  by_cases h : a < 0
  · have e : IntKind.u64.wrap (wrap64 (-a)) = (a.natAbs : Int) := by rw [u64w]; unfold wrap64; omega
    have c := tt h
    simp only [c, if_true]
    rw [← e]
    exact Ev.bind (Neg_ok a) (Ev.now _)
  · have e : IntKind.u64.wrap a = (a.natAbs : Int) := by rw [u64w]; omega
    have c := ff h
    simp only [c, if_false, e]
    exact Ev.now _


end Go.Proofs.YtdbpdcjlbopkbaaDoor.Q
