-- Written by a program of this session (its own turn of the print: wip/patch_print.py), not by hand. Lean checks it.
import Derived.Test.YtpkagkjldfbcfaaProg
import Derived.Below
import Derived.Deep.Draws
import Derived.Deep.AppendLies
import Derived.Maps.AppendAt
import Derived.OwnWalk
import Derived.Laws.BytesArg
import Derived.Laws.MakeOwn
import Derived.Laws.OwnMore
import Derived.Deep.OwnRows
import Derived.Tactics
import Derived.Lib.ConvBytes
import Derived.Laws.Slices
import Derived.WalkKit
import Derived.KernelRfl
import Derived.RowKit3
import Derived.Deep.LoopGhost
import Derived.Deep.QuietTactic
import Derived.BigQuiet
import Derived.WideLaws
import Derived.Deep.DeepCutAuto
import Derived.Deep.CutBlock
import Derived.Deep.RegionHeld3
import Derived.Laws.Rows
import Derived.Lib.AppendStr
import Derived.ArgAppend
import Derived.Laws.IdiomCopy
import Derived.OrdersHeld
import Derived.Laws.BitsLemmas
import Derived.RowKit
import Derived.WalkMore
import Derived.Test.YtpkagkjldfbcfaaWWords
import Derived.Test.YtpkagkjldfbcfaaWLast
import Derived.Test.YtpkagkjldfbcfaaWTab
import Derived.Test.YtpkagkjldfbcfaaWFour
import Derived.Test.YtpkagkjldfbcfaaWQPut
import Derived.Test.YtpkagkjldfbcfaaWApart
import Derived.Test.YtpkagkjldfbcfaaWArr
import Derived.Test.YtpkagkjldfbcfaaWZeros
import Derived.Test.YtpkagkjldfbcfaaWFoot
import Derived.Test.YtpkagkjldfbcfaaWKept
import Derived.Test.YtpkagkjldfbcfaaWShare
import Derived.Test.YtpkagkjldfbcfaaWN
import Derived.Test.YtpkagkjldfbcfaaWFootNe
import Derived.Test.YtpkagkjldfbcfaaWAt
import Derived.Test.YtpkagkjldfbcfaaWEqStruct
import Derived.Test.YtpkagkjldfbcfaaWRepsOne
import Derived.Test.YtpkagkjldfbcfaaWInv
import Derived.Test.YtpkagkjldfbcfaaWInvWords
import Derived.Test.YtpkagkjldfbcfaaWGuard
import Derived.Test.YtpkagkjldfbcfaaWNEv
import Derived.Test.YtpkagkjldfbcfaaWMore
namespace Go.Proofs.Ytpkagkjldfbcfaa.P
open Go.RowKit Go.Proofs.YtpkagkjldfbcfaaW.PrintWords Go.Proofs.YtpkagkjldfbcfaaW.PrintLast Go.Proofs.YtpkagkjldfbcfaaW.PrintMore
attribute [local go_sem] max2_int min2_int max_two min_two max_three min_three max_four min_four   -- for this text's walks alone
set_option linter.unusedVariables false
set_option linter.unusedSimpArgs false



def errW : Option Int → Value
  | none => .nilIface
  | some c => .iface 0 (.int .i64 c)
theorem errW_none : errW none = .nilIface := rfl
theorem errW_some (c : Int) : errW (some c) = .iface 0 (.int .i64 c) := rfl

theorem scope_of {P : Program} {c : Code} {Q : Exit → Act → World → Prop} {a : Act} {w : World} (hQ : ∀ l a w, Q (.goto l) a w → False) (h : c.wp P Q a w) : (Code.scope c).wp P Q a w := wp_scope_straight (Code.wp_mono (fun e a w q => by cases e <;> first | exact q | exact (hQ _ _ _ q).elim) h)
theorem info3 : (Try.prog.info? 3).map (fun i => (i.zero, i.size, i.bytes)) = some (some (.int .i64 0), 1, 8) := by kernel_rfl
theorem info5 : (Try.prog.info? 5).map (fun i => (i.zero, i.size, i.bytes)) = some (some (.int .u8 0), 1, 1) := by kernel_rfl
theorem info9 : (Try.prog.info? 9).map (fun i => (i.zero, i.size, i.bytes)) = some (some (.string ⟨#[]⟩), 1, 16) := by kernel_rfl
-- the values' own types

end Go.Proofs.Ytpkagkjldfbcfaa.P
