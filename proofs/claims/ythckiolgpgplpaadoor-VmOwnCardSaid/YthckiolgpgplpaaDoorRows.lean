/-
  NARROWER THAN 'FOR EVERY INPUT', by the rows' own cells (each row's printed sentence says how): VmMore: laid · VmDeep: laid · VmEnds: laid · VmRuns: laid · VmOwn: laid · VmCopies: laid · VmNil: laid.
  DERIVED. THE GIVEN ROWS OF THIS SEAT. 7 by the template 'for every input the law returns true; each argument reads behind the call as it read before'; 0 by the template 'total and deterministic' (their statements: YthckiolgpgplpaaDoorTotals.lean).
  GIVEN WITH THE SEED: the statements are not yours to turn. If you find one false, say at which input.
  Laid BY PROGRAM, IN A SANDBOX (cutbox-rows.mjs): the forced cells as the released guide's own fill.sh prints them over the translation 13365c0210c7275c… (all of the seat's roots in one cut). By AI agents, Wed Nov 11 2026. No macro, syntax, notation, axiom, sorry.
-/
import Derived.Test.YthckiolgpgplpaaDoorChecked
import GoSem.Claim
import GoSem.ClaimJoined
import GoSem.ClaimMapViews
import Derived.JoinedTies
import Derived.KernelRfl
namespace Go.Proofs.YthckiolgpgplpaaDoor
/- THE CELL 'sum', in the pinned program and in every row, IS THE sha256 OF THE DUMP (.gsa) THAT YthckiolgpgplpaaDoorProg.lean LOADS. Nothing in Lean hashes anything: it is a label: what it is worth is what the hold of that sum in a sandbox is worth. -/
noncomputable def Tryd.pinned : Pinned := { name := "ythckiolgpgplpaadoor", sum := "13365c0210c7275c702fdec7e54bd0fb15db579eca02d3c889bd0d1fdbf2a703", checked := Tryd.checked }
namespace Rows
def none {H : Type} : Left H := { results := [], args := [] }

/- WHAT THE LISTED PACKAGE-LEVEL VARIABLES READ AS WHEN THE CALL BEGINS. Each datum BY PROGRAM (the guide's laid-datum.mjs) off the statement by which the dump's own 'gosem.cut.vars' lays the variable. In a bare row this is a premise. The card (YthckiolgpgplpaaDoorCards.lean) ties it to the program's text. -/
def laid_parallax_code_words {H : Type} : DataW H := .agg [.lit (.string []), .lit (.string [112, 117, 115, 104]), .lit (.string [108, 111, 97, 100]), .lit (.string [115, 116, 111, 114, 101]), .lit (.string [105, 110, 100, 101, 120]), .lit (.string [112, 117, 116]), .lit (.string [99, 108, 101, 97, 114]), .lit (.string [97, 100, 100]), .lit (.string [115, 117, 98]), .lit (.string [109, 117, 108]), .lit (.string [100, 105, 118]), .lit (.string [109, 111, 100]), .lit (.string [108, 101, 115, 115]), .lit (.string [109, 111, 115, 116]), .lit (.string [115, 97, 109, 101]), .lit (.string [110, 111, 116]), .lit (.string [110, 101, 103]), .lit (.string [106, 117, 109, 112]), .lit (.string [122, 101, 114, 111]), .lit (.string [99, 97, 108, 108]), .lit (.string [108, 101, 97, 118, 101]), .lit (.string [112, 114, 105, 110, 116]), .lit (.string [114, 101, 97, 100]), .lit (.string [116, 101, 115, 116]), .lit (.string [109, 97, 114, 107]), .lit (.string [100, 114, 111, 112])]
def laid_parallax_code_stack {H : Type} : DataW H := .agg [.agg [.lit (.int .i64 0), .lit (.int .i64 0)], .agg [.lit (.int .i64 0), .lit (.int .i64 1)], .agg [.lit (.int .i64 0), .lit (.int .i64 1)], .agg [.lit (.int .i64 1), .lit (.int .i64 0)], .agg [.lit (.int .i64 1), .lit (.int .i64 1)], .agg [.lit (.int .i64 2), .lit (.int .i64 0)], .agg [.lit (.int .i64 0), .lit (.int .i64 0)], .agg [.lit (.int .i64 2), .lit (.int .i64 1)], .agg [.lit (.int .i64 2), .lit (.int .i64 1)], .agg [.lit (.int .i64 2), .lit (.int .i64 1)], .agg [.lit (.int .i64 2), .lit (.int .i64 1)], .agg [.lit (.int .i64 2), .lit (.int .i64 1)], .agg [.lit (.int .i64 2), .lit (.int .i64 1)], .agg [.lit (.int .i64 2), .lit (.int .i64 1)], .agg [.lit (.int .i64 2), .lit (.int .i64 1)], .agg [.lit (.int .i64 1), .lit (.int .i64 1)], .agg [.lit (.int .i64 1), .lit (.int .i64 1)], .agg [.lit (.int .i64 0), .lit (.int .i64 0)], .agg [.lit (.int .i64 1), .lit (.int .i64 0)], .agg [.lit (.int .i64 0), .lit (.int .i64 0)], .agg [.lit (.int .i64 0), .lit (.int .i64 0)], .agg [.lit (.int .i64 1), .lit (.int .i64 0)], .agg [.lit (.int .i64 0), .lit (.int .i64 1)], .agg [.lit (.int .i64 1), .lit (.int .i64 0)], .agg [.lit (.int .i64 0), .lit (.int .i64 0)], .agg [.lit (.int .i64 1), .lit (.int .i64 0)]]

/-- 'parallaxlaw09.VmMore': WHATEVER THE INPUT: true; the input reads as it did. -/
def vmMoreSpec : ChangeSpec := { name := "vmMore", fn := fun _ => fun
  | [d1, d2, d3, d4, d5, d6] => { results := [.lit (.bool true)], args := [d1, d2, d3, d4, d5, d6] }
  | _ => none }
def vmMoreRow : OpenClaim := { program := "ythckiolgpgplpaadoor", sum := "13365c0210c7275c702fdec7e54bd0fb15db579eca02d3c889bd0d1fdbf2a703", func := "parallax/parallaxlaw09.VmMore", spec := "vmMore", named := ["parallax/code.words", "parallax/code.stack"], apart := false, laid := [("parallax/code.words", laid_parallax_code_words), ("parallax/code.stack", laid_parallax_code_stack)] }
def VmMoreSaid : Prop := vmMoreRow.holds Tryd.pinned (OpenSpec.ofChange vmMoreSpec)

/-- ITS FALSE NEIGHBOUR: 'it returns false'. Refute it at one input. -/
def vmMoreWrong : ChangeSpec := { name := "vmMore", fn := fun _ => fun
  | [d1, d2, d3, d4, d5, d6] => { results := [.lit (.bool false)], args := [d1, d2, d3, d4, d5, d6] }
  | _ => none }
def VmMoreWrongFalsely : Prop := vmMoreRow.holds Tryd.pinned (OpenSpec.ofChange vmMoreWrong)

/-- 'parallaxlaw09.VmDeep': WHATEVER THE INPUT: true; the input reads as it did. -/
def vmDeepSpec : ChangeSpec := { name := "vmDeep", fn := fun _ => fun
  | [d] => { results := [.lit (.bool true)], args := [d] }
  | _ => none }
def vmDeepRow : OpenClaim := { program := "ythckiolgpgplpaadoor", sum := "13365c0210c7275c702fdec7e54bd0fb15db579eca02d3c889bd0d1fdbf2a703", func := "parallax/parallaxlaw09.VmDeep", spec := "vmDeep", named := ["parallax/code.words", "parallax/code.stack"], apart := false, laid := [("parallax/code.words", laid_parallax_code_words), ("parallax/code.stack", laid_parallax_code_stack)] }
def VmDeepSaid : Prop := vmDeepRow.holds Tryd.pinned (OpenSpec.ofChange vmDeepSpec)

/-- ITS FALSE NEIGHBOUR: 'it returns false'. Refute it at one input. -/
def vmDeepWrong : ChangeSpec := { name := "vmDeep", fn := fun _ => fun
  | [d] => { results := [.lit (.bool false)], args := [d] }
  | _ => none }
def VmDeepWrongFalsely : Prop := vmDeepRow.holds Tryd.pinned (OpenSpec.ofChange vmDeepWrong)

/-- 'parallaxlaw09.VmEnds': WHATEVER THE INPUT: true; the input reads as it did. -/
def vmEndsSpec : ChangeSpec := { name := "vmEnds", fn := fun _ => fun
  | [d1, d2, d3, d4] => { results := [.lit (.bool true)], args := [d1, d2, d3, d4] }
  | _ => none }
def vmEndsRow : OpenClaim := { program := "ythckiolgpgplpaadoor", sum := "13365c0210c7275c702fdec7e54bd0fb15db579eca02d3c889bd0d1fdbf2a703", func := "parallax/parallaxlaw09.VmEnds", spec := "vmEnds", named := ["parallax/code.words", "parallax/code.stack"], apart := false, laid := [("parallax/code.words", laid_parallax_code_words), ("parallax/code.stack", laid_parallax_code_stack)] }
def VmEndsSaid : Prop := vmEndsRow.holds Tryd.pinned (OpenSpec.ofChange vmEndsSpec)

/-- ITS FALSE NEIGHBOUR: 'it returns false'. Refute it at one input. -/
def vmEndsWrong : ChangeSpec := { name := "vmEnds", fn := fun _ => fun
  | [d1, d2, d3, d4] => { results := [.lit (.bool false)], args := [d1, d2, d3, d4] }
  | _ => none }
def VmEndsWrongFalsely : Prop := vmEndsRow.holds Tryd.pinned (OpenSpec.ofChange vmEndsWrong)

/-- 'parallaxlaw09.VmRuns': WHATEVER THE INPUT: true; the input reads as it did. -/
def vmRunsSpec : ChangeSpec := { name := "vmRuns", fn := fun _ => fun
  | [d1, d2, d3, d4] => { results := [.lit (.bool true)], args := [d1, d2, d3, d4] }
  | _ => none }
def vmRunsRow : OpenClaim := { program := "ythckiolgpgplpaadoor", sum := "13365c0210c7275c702fdec7e54bd0fb15db579eca02d3c889bd0d1fdbf2a703", func := "parallax/parallaxlaw09.VmRuns", spec := "vmRuns", named := ["parallax/code.words", "parallax/code.stack"], apart := false, laid := [("parallax/code.words", laid_parallax_code_words), ("parallax/code.stack", laid_parallax_code_stack)] }
def VmRunsSaid : Prop := vmRunsRow.holds Tryd.pinned (OpenSpec.ofChange vmRunsSpec)

/-- ITS FALSE NEIGHBOUR: 'it returns false'. Refute it at one input. -/
def vmRunsWrong : ChangeSpec := { name := "vmRuns", fn := fun _ => fun
  | [d1, d2, d3, d4] => { results := [.lit (.bool false)], args := [d1, d2, d3, d4] }
  | _ => none }
def VmRunsWrongFalsely : Prop := vmRunsRow.holds Tryd.pinned (OpenSpec.ofChange vmRunsWrong)

/-- 'parallaxlaw09.VmOwn': WHATEVER THE INPUT: true; the input reads as it did. -/
def vmOwnSpec : ChangeSpec := { name := "vmOwn", fn := fun _ => fun
  | [d1, d2, d3, d4] => { results := [.lit (.bool true)], args := [d1, d2, d3, d4] }
  | _ => none }
def vmOwnRow : OpenClaim := { program := "ythckiolgpgplpaadoor", sum := "13365c0210c7275c702fdec7e54bd0fb15db579eca02d3c889bd0d1fdbf2a703", func := "parallax/parallaxlaw09.VmOwn", spec := "vmOwn", named := ["parallax/code.words", "parallax/code.stack"], apart := false, laid := [("parallax/code.words", laid_parallax_code_words), ("parallax/code.stack", laid_parallax_code_stack)] }
def VmOwnSaid : Prop := vmOwnRow.holds Tryd.pinned (OpenSpec.ofChange vmOwnSpec)

/-- ITS FALSE NEIGHBOUR: 'it returns false'. Refute it at one input. -/
def vmOwnWrong : ChangeSpec := { name := "vmOwn", fn := fun _ => fun
  | [d1, d2, d3, d4] => { results := [.lit (.bool false)], args := [d1, d2, d3, d4] }
  | _ => none }
def VmOwnWrongFalsely : Prop := vmOwnRow.holds Tryd.pinned (OpenSpec.ofChange vmOwnWrong)

/-- 'parallaxlaw09.VmCopies': WHATEVER THE INPUT: true; the input reads as it did. -/
def vmCopiesSpec : ChangeSpec := { name := "vmCopies", fn := fun _ => fun
  | [d1, d2, d3, d4, d5] => { results := [.lit (.bool true)], args := [d1, d2, d3, d4, d5] }
  | _ => none }
def vmCopiesRow : OpenClaim := { program := "ythckiolgpgplpaadoor", sum := "13365c0210c7275c702fdec7e54bd0fb15db579eca02d3c889bd0d1fdbf2a703", func := "parallax/parallaxlaw09.VmCopies", spec := "vmCopies", named := ["parallax/code.words", "parallax/code.stack"], apart := false, laid := [("parallax/code.words", laid_parallax_code_words), ("parallax/code.stack", laid_parallax_code_stack)] }
def VmCopiesSaid : Prop := vmCopiesRow.holds Tryd.pinned (OpenSpec.ofChange vmCopiesSpec)

/-- ITS FALSE NEIGHBOUR: 'it returns false'. Refute it at one input. -/
def vmCopiesWrong : ChangeSpec := { name := "vmCopies", fn := fun _ => fun
  | [d1, d2, d3, d4, d5] => { results := [.lit (.bool false)], args := [d1, d2, d3, d4, d5] }
  | _ => none }
def VmCopiesWrongFalsely : Prop := vmCopiesRow.holds Tryd.pinned (OpenSpec.ofChange vmCopiesWrong)

/-- 'parallaxlaw09.VmNil': WHATEVER THE INPUT: true; the input reads as it did. -/
def vmNilSpec : ChangeSpec := { name := "vmNil", fn := fun _ => fun
  | [d] => { results := [.lit (.bool true)], args := [d] }
  | _ => none }
def vmNilRow : OpenClaim := { program := "ythckiolgpgplpaadoor", sum := "13365c0210c7275c702fdec7e54bd0fb15db579eca02d3c889bd0d1fdbf2a703", func := "parallax/parallaxlaw09.VmNil", spec := "vmNil", named := ["parallax/code.words", "parallax/code.stack"], apart := false, laid := [("parallax/code.words", laid_parallax_code_words), ("parallax/code.stack", laid_parallax_code_stack)] }
def VmNilSaid : Prop := vmNilRow.holds Tryd.pinned (OpenSpec.ofChange vmNilSpec)

/-- ITS FALSE NEIGHBOUR: 'it returns false'. Refute it at one input. -/
def vmNilWrong : ChangeSpec := { name := "vmNil", fn := fun _ => fun
  | [d] => { results := [.lit (.bool false)], args := [d] }
  | _ => none }
def VmNilWrongFalsely : Prop := vmNilRow.holds Tryd.pinned (OpenSpec.ofChange vmNilWrong)

/- THE SECOND FORM. 'bulk': how many values and letters a reading holds, each counted each time it is reached (what is shared counts as often as it is met; a slice's spare places count too). A statement '..UptoSaid' is the law's where the arguments, and the package variables that the reading takes, are together of bulk at most 1048576: NARROWER than '..Said'. Prove '..Said' where nothing that the law and all that it calls make is longer than what came in: it says more and counts as full. Else prove '..UptoSaid'. A law counts once. -/
mutual
def uptoBulk {H : Type} : DataW H → Nat
  | .lit (.string bytes) => bytes.length + 1
  | .lit _ => 1
  | .nil => 1
  | .ptr d => uptoBulk d + 1
  | .slice elems spare => uptoBulkAll elems + uptoBulkAll spare + 1
  | .agg parts => uptoBulkAll parts + 1
  | .iface _ d => uptoBulk d + 1
  | .map entries => uptoBulkEntries entries + 1
  | .held _ => 1
def uptoBulkAll {H : Type} : List (DataW H) → Nat
  | [] => 0
  | d :: r => uptoBulk d + uptoBulkAll r
def uptoBulkEntries {H : Type} : List (Lit × DataW H) → Nat
  | [] => 0
  | x :: r => uptoBulkEntry x + uptoBulkEntries r
def uptoBulkEntry {H : Type} : Lit × DataW H → Nat
  | (.string bytes, d) => bytes.length + uptoBulk d + 1
  | (_, d) => uptoBulk d + 1
 end
def uptoSmall : (H : Type) → List (DataW H) → Bool := fun _ ds => decide (uptoBulkAll ds ≤ 1048576)
def OpenSpec.upto (s : _root_.Go.ChangeSpec) : _root_.Go.OpenSpec := { _root_.Go.OpenSpec.ofChange s with cond := some uptoSmall }

/-- 'parallaxlaw09.VmMore', WHERE WHAT IT READS IS OF BULK AT MOST 1048576: true; the input reads as it did. -/
def vmMoreUptoRow : OpenClaim := { program := "ythckiolgpgplpaadoor", sum := "13365c0210c7275c702fdec7e54bd0fb15db579eca02d3c889bd0d1fdbf2a703", func := "parallax/parallaxlaw09.VmMore", spec := "vmMore", named := ["parallax/code.words", "parallax/code.stack"], apart := false, laid := [("parallax/code.words", laid_parallax_code_words), ("parallax/code.stack", laid_parallax_code_stack)], narrowed := true }
def VmMoreUptoSaid : Prop := vmMoreUptoRow.holds Tryd.pinned (OpenSpec.upto vmMoreSpec)

/-- 'parallaxlaw09.VmDeep', WHERE WHAT IT READS IS OF BULK AT MOST 1048576: true; the input reads as it did. -/
def vmDeepUptoRow : OpenClaim := { program := "ythckiolgpgplpaadoor", sum := "13365c0210c7275c702fdec7e54bd0fb15db579eca02d3c889bd0d1fdbf2a703", func := "parallax/parallaxlaw09.VmDeep", spec := "vmDeep", named := ["parallax/code.words", "parallax/code.stack"], apart := false, laid := [("parallax/code.words", laid_parallax_code_words), ("parallax/code.stack", laid_parallax_code_stack)], narrowed := true }
def VmDeepUptoSaid : Prop := vmDeepUptoRow.holds Tryd.pinned (OpenSpec.upto vmDeepSpec)

/-- 'parallaxlaw09.VmEnds', WHERE WHAT IT READS IS OF BULK AT MOST 1048576: true; the input reads as it did. -/
def vmEndsUptoRow : OpenClaim := { program := "ythckiolgpgplpaadoor", sum := "13365c0210c7275c702fdec7e54bd0fb15db579eca02d3c889bd0d1fdbf2a703", func := "parallax/parallaxlaw09.VmEnds", spec := "vmEnds", named := ["parallax/code.words", "parallax/code.stack"], apart := false, laid := [("parallax/code.words", laid_parallax_code_words), ("parallax/code.stack", laid_parallax_code_stack)], narrowed := true }
def VmEndsUptoSaid : Prop := vmEndsUptoRow.holds Tryd.pinned (OpenSpec.upto vmEndsSpec)

/-- 'parallaxlaw09.VmRuns', WHERE WHAT IT READS IS OF BULK AT MOST 1048576: true; the input reads as it did. -/
def vmRunsUptoRow : OpenClaim := { program := "ythckiolgpgplpaadoor", sum := "13365c0210c7275c702fdec7e54bd0fb15db579eca02d3c889bd0d1fdbf2a703", func := "parallax/parallaxlaw09.VmRuns", spec := "vmRuns", named := ["parallax/code.words", "parallax/code.stack"], apart := false, laid := [("parallax/code.words", laid_parallax_code_words), ("parallax/code.stack", laid_parallax_code_stack)], narrowed := true }
def VmRunsUptoSaid : Prop := vmRunsUptoRow.holds Tryd.pinned (OpenSpec.upto vmRunsSpec)

/-- 'parallaxlaw09.VmOwn', WHERE WHAT IT READS IS OF BULK AT MOST 1048576: true; the input reads as it did. -/
def vmOwnUptoRow : OpenClaim := { program := "ythckiolgpgplpaadoor", sum := "13365c0210c7275c702fdec7e54bd0fb15db579eca02d3c889bd0d1fdbf2a703", func := "parallax/parallaxlaw09.VmOwn", spec := "vmOwn", named := ["parallax/code.words", "parallax/code.stack"], apart := false, laid := [("parallax/code.words", laid_parallax_code_words), ("parallax/code.stack", laid_parallax_code_stack)], narrowed := true }
def VmOwnUptoSaid : Prop := vmOwnUptoRow.holds Tryd.pinned (OpenSpec.upto vmOwnSpec)

/-- 'parallaxlaw09.VmCopies', WHERE WHAT IT READS IS OF BULK AT MOST 1048576: true; the input reads as it did. -/
def vmCopiesUptoRow : OpenClaim := { program := "ythckiolgpgplpaadoor", sum := "13365c0210c7275c702fdec7e54bd0fb15db579eca02d3c889bd0d1fdbf2a703", func := "parallax/parallaxlaw09.VmCopies", spec := "vmCopies", named := ["parallax/code.words", "parallax/code.stack"], apart := false, laid := [("parallax/code.words", laid_parallax_code_words), ("parallax/code.stack", laid_parallax_code_stack)], narrowed := true }
def VmCopiesUptoSaid : Prop := vmCopiesUptoRow.holds Tryd.pinned (OpenSpec.upto vmCopiesSpec)

/-- 'parallaxlaw09.VmNil', WHERE WHAT IT READS IS OF BULK AT MOST 1048576: true; the input reads as it did. -/
def vmNilUptoRow : OpenClaim := { program := "ythckiolgpgplpaadoor", sum := "13365c0210c7275c702fdec7e54bd0fb15db579eca02d3c889bd0d1fdbf2a703", func := "parallax/parallaxlaw09.VmNil", spec := "vmNil", named := ["parallax/code.words", "parallax/code.stack"], apart := false, laid := [("parallax/code.words", laid_parallax_code_words), ("parallax/code.stack", laid_parallax_code_stack)], narrowed := true }
def VmNilUptoSaid : Prop := vmNilUptoRow.holds Tryd.pinned (OpenSpec.upto vmNilSpec)

end Rows
end Go.Proofs.YthckiolgpgplpaaDoor
