/- Events alike. -/
import Derived.Test.YthbgbeelcnfofaaPx0
import Derived.Test.YthbgbeelcnfofaaQBase
-- use: QBase
namespace Go.Proofs.Ythbgbeelcnfofaa.Q
set_option linter.unusedVariables false
set_option linter.unusedSimpArgs false
open Go.RowKit Go.Proofs.YthbgbeelcnfofaaW.PrintWords Go.Proofs.YthbgbeelcnfofaaW.PrintLast Go.Proofs.YthbgbeelcnfofaaW.PrintMore Go.Proofs.Ythbgbeelcnfofaa.P

def eqv (x y : S24) : Bool := x.f0 == y.f0 && (x.f1 == y.f1)
theorem eqv_iff (x y : S24) : eqv x y = true ↔ x = y := by
  cases x; cases y
  simp [eqv]
instance : DecidableEq S24 := fun x y => decidable_of_iff (eqv x y = true) (eqv_iff x y)
theorem eqv_not (x y : S24) : (!(x.f0 == y.f0) || !(x.f1 == y.f1)) = !eqv x y := by
  simp [eqv, Bool.not_and]
theorem rd24_get (l : List S24) (i : Nat) (h : i < l.length) : rd_T24 l (i : Int) = l[i] := by simp [rd_T24, List.getD, h]
theorem drop24 (l : List S24) (i : Nat) (h : i < l.length) : l.drop i = rd_T24 l (i : Int) :: l.drop (i + 1) := by
  rw [List.drop_eq_getElem_cons h, rd24_get l i h]

end Go.Proofs.Ythbgbeelcnfofaa.Q
