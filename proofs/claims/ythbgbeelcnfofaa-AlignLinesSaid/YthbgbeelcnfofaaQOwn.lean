/- The document's pairs as the program's. -/
import Derived.Test.YthbgbeelcnfofaaPx0
import Derived.Test.YthbgbeelcnfofaaPx9
import Derived.Test.YthbgbeelcnfofaaQBase
import Derived.Test.YthbgbeelcnfofaaQUp
-- use: QBase
-- use: QUp
namespace Go.Proofs.Ythbgbeelcnfofaa.Q
set_option linter.unusedVariables false
set_option linter.unusedSimpArgs false
open Go.RowKit Go.Proofs.YthbgbeelcnfofaaW.PrintWords Go.Proofs.YthbgbeelcnfofaaW.PrintLast Go.Proofs.YthbgbeelcnfofaaW.PrintMore Go.Proofs.Ythbgbeelcnfofaa.P

theorem own_loop (l : List S67) (hl : l.length ≤ 1000000) : ∀ (d i : Nat), i + d = l.length → Ev (fun k => parallaxlaw15_own.l0 k l ((l.take i).map o41) (i : Int)) (l.map o41) := by
  intro d
  induction d with
  | zero =>
    intro i hi
    obtain rfl : i = l.length := by omega
    rw [List.take_length]
    have c1 := ff (Int.lt_irrefl (l.length : Int))
    refine evs ?_
    simp only [parallaxlaw15_own.l0, c1, if_false]
    exact Ev.now _
  | succ d ih =>
    intro i hi
    have := ih (i + 1) (by omega)
    rw [List.take_succ_eq_append_getElem (show i < l.length by omega), List.map_append] at this
    have c1 := tt (show (i : Int) < (l.length : Int) by omega)
    have c2 := tt (show (0 : Int) ≤ (i : Int) by omega)
    have c3 := tt (show ((l.take i).map o41).length < 8796093022208 by rw [List.length_map, List.length_take]; omega)
    have b1 : i + 1 ≤ 1000000000000 := by omega
    have hr := rd67_get l i (by omega)
    refine evs ?_
    simp only [parallaxlaw15_own.l0, c1, c2, c3, wsucc b1, hr, if_true]
    exact this
theorem own_ok (l : List S67) (hl : l.length ≤ 1000000) : Ev (fun k => parallaxlaw15_own.f k l) (l.map o41) := own_loop l hl l.length 0 (Nat.zero_add _)

end Go.Proofs.Ythbgbeelcnfofaa.Q
