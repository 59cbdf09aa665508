/-
  NARROWER THAN 'FOR EVERY INPUT', by the rows' own cells (each row's printed sentence says how): CodeTexts: laid · CodePrints: laid · CodeSound: laid · CodeBack: laid · CodeMore: laid · CodeIdle: laid · CodeLong: laid.
  DERIVED. THE GIVEN ROWS OF THIS SEAT. 7 by the template 'for every input the law returns true; each argument reads behind the call as it read before'; 0 by the template 'total and deterministic' (their statements: YtdbpdcjlbopkbaaDoorTotals.lean).
  GIVEN WITH THE SEED: the statements are not yours to turn. If you find one false, say at which input.
  Laid BY PROGRAM, IN A SANDBOX (cutbox-rows.mjs): the forced cells as the released guide's own fill.sh prints them over the translation 2763e4de986e4d6a… (all of the seat's roots in one cut). By AI agents, Wed Nov 11 2026. No macro, syntax, notation, axiom, sorry.
-/
import Derived.Test.YtdbpdcjlbopkbaaDoorChecked
import GoSem.Claim
import GoSem.ClaimJoined
import GoSem.ClaimMapViews
import Derived.JoinedTies
import Derived.KernelRfl
namespace Go.Proofs.YtdbpdcjlbopkbaaDoor
/- THE CELL 'sum', in the pinned program and in every row, IS THE sha256 OF THE DUMP (.gsa) THAT YtdbpdcjlbopkbaaDoorProg.lean LOADS. Nothing in Lean hashes anything: it is a label: what it is worth is what the hold of that sum in a sandbox is worth. -/
noncomputable def Tryd.pinned : Pinned := { name := "ytdbpdcjlbopkbaadoor", sum := "2763e4de986e4d6abdf7db2dfcc05f1885359a13ffcd15a08d1e9b5b97274988", checked := Tryd.checked }
namespace Rows
def none {H : Type} : Left H := { results := [], args := [] }

/- WHAT THE LISTED PACKAGE-LEVEL VARIABLES READ AS WHEN THE CALL BEGINS. Each datum BY PROGRAM (the guide's laid-datum.mjs) off the statement by which the dump's own 'gosem.cut.vars' lays the variable. In a bare row this is a premise. The card (YtdbpdcjlbopkbaaDoorCards.lean) ties it to the program's text. -/
def laid_parallax_code_words {H : Type} : DataW H := .agg [.lit (.string []), .lit (.string [112, 117, 115, 104]), .lit (.string [108, 111, 97, 100]), .lit (.string [115, 116, 111, 114, 101]), .lit (.string [105, 110, 100, 101, 120]), .lit (.string [112, 117, 116]), .lit (.string [99, 108, 101, 97, 114]), .lit (.string [97, 100, 100]), .lit (.string [115, 117, 98]), .lit (.string [109, 117, 108]), .lit (.string [100, 105, 118]), .lit (.string [109, 111, 100]), .lit (.string [108, 101, 115, 115]), .lit (.string [109, 111, 115, 116]), .lit (.string [115, 97, 109, 101]), .lit (.string [110, 111, 116]), .lit (.string [110, 101, 103]), .lit (.string [106, 117, 109, 112]), .lit (.string [122, 101, 114, 111]), .lit (.string [99, 97, 108, 108]), .lit (.string [108, 101, 97, 118, 101]), .lit (.string [112, 114, 105, 110, 116]), .lit (.string [114, 101, 97, 100]), .lit (.string [116, 101, 115, 116]), .lit (.string [109, 97, 114, 107]), .lit (.string [100, 114, 111, 112])]
def laid_parallax_code_stack {H : Type} : DataW H := .agg [.agg [.lit (.int .i64 0), .lit (.int .i64 0)], .agg [.lit (.int .i64 0), .lit (.int .i64 1)], .agg [.lit (.int .i64 0), .lit (.int .i64 1)], .agg [.lit (.int .i64 1), .lit (.int .i64 0)], .agg [.lit (.int .i64 1), .lit (.int .i64 1)], .agg [.lit (.int .i64 2), .lit (.int .i64 0)], .agg [.lit (.int .i64 0), .lit (.int .i64 0)], .agg [.lit (.int .i64 2), .lit (.int .i64 1)], .agg [.lit (.int .i64 2), .lit (.int .i64 1)], .agg [.lit (.int .i64 2), .lit (.int .i64 1)], .agg [.lit (.int .i64 2), .lit (.int .i64 1)], .agg [.lit (.int .i64 2), .lit (.int .i64 1)], .agg [.lit (.int .i64 2), .lit (.int .i64 1)], .agg [.lit (.int .i64 2), .lit (.int .i64 1)], .agg [.lit (.int .i64 2), .lit (.int .i64 1)], .agg [.lit (.int .i64 1), .lit (.int .i64 1)], .agg [.lit (.int .i64 1), .lit (.int .i64 1)], .agg [.lit (.int .i64 0), .lit (.int .i64 0)], .agg [.lit (.int .i64 1), .lit (.int .i64 0)], .agg [.lit (.int .i64 0), .lit (.int .i64 0)], .agg [.lit (.int .i64 0), .lit (.int .i64 0)], .agg [.lit (.int .i64 1), .lit (.int .i64 0)], .agg [.lit (.int .i64 0), .lit (.int .i64 1)], .agg [.lit (.int .i64 1), .lit (.int .i64 0)], .agg [.lit (.int .i64 0), .lit (.int .i64 0)], .agg [.lit (.int .i64 1), .lit (.int .i64 0)]]

/-- 'parallaxlaw08.CodeTexts': WHATEVER THE INPUT: true; the input reads as it did. -/
def codeTextsSpec : ChangeSpec := { name := "codeTexts", fn := fun _ => fun
  | [d1, d2] => { results := [.lit (.bool true)], args := [d1, d2] }
  | _ => none }
def codeTextsRow : OpenClaim := { program := "ytdbpdcjlbopkbaadoor", sum := "2763e4de986e4d6abdf7db2dfcc05f1885359a13ffcd15a08d1e9b5b97274988", func := "parallax/parallaxlaw08.CodeTexts", spec := "codeTexts", named := ["parallax/code.words", "parallax/code.stack"], apart := false, laid := [("parallax/code.words", laid_parallax_code_words), ("parallax/code.stack", laid_parallax_code_stack)] }
def CodeTextsSaid : Prop := codeTextsRow.holds Tryd.pinned (OpenSpec.ofChange codeTextsSpec)

/-- ITS FALSE NEIGHBOUR: 'it returns false'. Refute it at one input. -/
def codeTextsWrong : ChangeSpec := { name := "codeTexts", fn := fun _ => fun
  | [d1, d2] => { results := [.lit (.bool false)], args := [d1, d2] }
  | _ => none }
def CodeTextsWrongFalsely : Prop := codeTextsRow.holds Tryd.pinned (OpenSpec.ofChange codeTextsWrong)

/-- 'parallaxlaw08.CodePrints': WHATEVER THE INPUT: true; the input reads as it did. -/
def codePrintsSpec : ChangeSpec := { name := "codePrints", fn := fun _ => fun
  | [d] => { results := [.lit (.bool true)], args := [d] }
  | _ => none }
def codePrintsRow : OpenClaim := { program := "ytdbpdcjlbopkbaadoor", sum := "2763e4de986e4d6abdf7db2dfcc05f1885359a13ffcd15a08d1e9b5b97274988", func := "parallax/parallaxlaw08.CodePrints", spec := "codePrints", named := ["parallax/code.words", "parallax/code.stack"], apart := false, laid := [("parallax/code.words", laid_parallax_code_words), ("parallax/code.stack", laid_parallax_code_stack)] }
def CodePrintsSaid : Prop := codePrintsRow.holds Tryd.pinned (OpenSpec.ofChange codePrintsSpec)

/-- ITS FALSE NEIGHBOUR: 'it returns false'. Refute it at one input. -/
def codePrintsWrong : ChangeSpec := { name := "codePrints", fn := fun _ => fun
  | [d] => { results := [.lit (.bool false)], args := [d] }
  | _ => none }
def CodePrintsWrongFalsely : Prop := codePrintsRow.holds Tryd.pinned (OpenSpec.ofChange codePrintsWrong)

/-- 'parallaxlaw08.CodeSound': WHATEVER THE INPUT: true; the input reads as it did. -/
def codeSoundSpec : ChangeSpec := { name := "codeSound", fn := fun _ => fun
  | [d1, d2] => { results := [.lit (.bool true)], args := [d1, d2] }
  | _ => none }
def codeSoundRow : OpenClaim := { program := "ytdbpdcjlbopkbaadoor", sum := "2763e4de986e4d6abdf7db2dfcc05f1885359a13ffcd15a08d1e9b5b97274988", func := "parallax/parallaxlaw08.CodeSound", spec := "codeSound", named := ["parallax/code.words", "parallax/code.stack"], apart := false, laid := [("parallax/code.words", laid_parallax_code_words), ("parallax/code.stack", laid_parallax_code_stack)] }
def CodeSoundSaid : Prop := codeSoundRow.holds Tryd.pinned (OpenSpec.ofChange codeSoundSpec)

/-- ITS FALSE NEIGHBOUR: 'it returns false'. Refute it at one input. -/
def codeSoundWrong : ChangeSpec := { name := "codeSound", fn := fun _ => fun
  | [d1, d2] => { results := [.lit (.bool false)], args := [d1, d2] }
  | _ => none }
def CodeSoundWrongFalsely : Prop := codeSoundRow.holds Tryd.pinned (OpenSpec.ofChange codeSoundWrong)

/-- 'parallaxlaw08.CodeBack': WHATEVER THE INPUT: true; the input reads as it did. -/
def codeBackSpec : ChangeSpec := { name := "codeBack", fn := fun _ => fun
  | [d1, d2] => { results := [.lit (.bool true)], args := [d1, d2] }
  | _ => none }
def codeBackRow : OpenClaim := { program := "ytdbpdcjlbopkbaadoor", sum := "2763e4de986e4d6abdf7db2dfcc05f1885359a13ffcd15a08d1e9b5b97274988", func := "parallax/parallaxlaw08.CodeBack", spec := "codeBack", named := ["parallax/code.words", "parallax/code.stack"], apart := false, laid := [("parallax/code.words", laid_parallax_code_words), ("parallax/code.stack", laid_parallax_code_stack)] }
def CodeBackSaid : Prop := codeBackRow.holds Tryd.pinned (OpenSpec.ofChange codeBackSpec)

/-- ITS FALSE NEIGHBOUR: 'it returns false'. Refute it at one input. -/
def codeBackWrong : ChangeSpec := { name := "codeBack", fn := fun _ => fun
  | [d1, d2] => { results := [.lit (.bool false)], args := [d1, d2] }
  | _ => none }
def CodeBackWrongFalsely : Prop := codeBackRow.holds Tryd.pinned (OpenSpec.ofChange codeBackWrong)

/-- 'parallaxlaw08.CodeMore': WHATEVER THE INPUT: true; the input reads as it did. -/
def codeMoreSpec : ChangeSpec := { name := "codeMore", fn := fun _ => fun
  | [d1, d2, d3] => { results := [.lit (.bool true)], args := [d1, d2, d3] }
  | _ => none }
def codeMoreRow : OpenClaim := { program := "ytdbpdcjlbopkbaadoor", sum := "2763e4de986e4d6abdf7db2dfcc05f1885359a13ffcd15a08d1e9b5b97274988", func := "parallax/parallaxlaw08.CodeMore", spec := "codeMore", named := ["parallax/code.words", "parallax/code.stack"], apart := false, laid := [("parallax/code.words", laid_parallax_code_words), ("parallax/code.stack", laid_parallax_code_stack)] }
def CodeMoreSaid : Prop := codeMoreRow.holds Tryd.pinned (OpenSpec.ofChange codeMoreSpec)

/-- ITS FALSE NEIGHBOUR: 'it returns false'. Refute it at one input. -/
def codeMoreWrong : ChangeSpec := { name := "codeMore", fn := fun _ => fun
  | [d1, d2, d3] => { results := [.lit (.bool false)], args := [d1, d2, d3] }
  | _ => none }
def CodeMoreWrongFalsely : Prop := codeMoreRow.holds Tryd.pinned (OpenSpec.ofChange codeMoreWrong)

/-- 'parallaxlaw08.CodeIdle': WHATEVER THE INPUT: true; the input reads as it did. -/
def codeIdleSpec : ChangeSpec := { name := "codeIdle", fn := fun _ => fun
  | [d1, d2, d3, d4] => { results := [.lit (.bool true)], args := [d1, d2, d3, d4] }
  | _ => none }
def codeIdleRow : OpenClaim := { program := "ytdbpdcjlbopkbaadoor", sum := "2763e4de986e4d6abdf7db2dfcc05f1885359a13ffcd15a08d1e9b5b97274988", func := "parallax/parallaxlaw08.CodeIdle", spec := "codeIdle", named := ["parallax/code.words", "parallax/code.stack"], apart := false, laid := [("parallax/code.words", laid_parallax_code_words), ("parallax/code.stack", laid_parallax_code_stack)] }
def CodeIdleSaid : Prop := codeIdleRow.holds Tryd.pinned (OpenSpec.ofChange codeIdleSpec)

/-- ITS FALSE NEIGHBOUR: 'it returns false'. Refute it at one input. -/
def codeIdleWrong : ChangeSpec := { name := "codeIdle", fn := fun _ => fun
  | [d1, d2, d3, d4] => { results := [.lit (.bool false)], args := [d1, d2, d3, d4] }
  | _ => none }
def CodeIdleWrongFalsely : Prop := codeIdleRow.holds Tryd.pinned (OpenSpec.ofChange codeIdleWrong)

/-- 'parallaxlaw08.CodeLong': WHATEVER THE INPUT: true; the input reads as it did. -/
def codeLongSpec : ChangeSpec := { name := "codeLong", fn := fun _ => fun
  | [d1, d2] => { results := [.lit (.bool true)], args := [d1, d2] }
  | _ => none }
def codeLongRow : OpenClaim := { program := "ytdbpdcjlbopkbaadoor", sum := "2763e4de986e4d6abdf7db2dfcc05f1885359a13ffcd15a08d1e9b5b97274988", func := "parallax/parallaxlaw08.CodeLong", spec := "codeLong", named := ["parallax/code.words", "parallax/code.stack"], apart := false, laid := [("parallax/code.words", laid_parallax_code_words), ("parallax/code.stack", laid_parallax_code_stack)] }
def CodeLongSaid : Prop := codeLongRow.holds Tryd.pinned (OpenSpec.ofChange codeLongSpec)

/-- ITS FALSE NEIGHBOUR: 'it returns false'. Refute it at one input. -/
def codeLongWrong : ChangeSpec := { name := "codeLong", fn := fun _ => fun
  | [d1, d2] => { results := [.lit (.bool false)], args := [d1, d2] }
  | _ => none }
def CodeLongWrongFalsely : Prop := codeLongRow.holds Tryd.pinned (OpenSpec.ofChange codeLongWrong)

/- THE SECOND FORM. 'bulk': how many values and letters a reading holds, each counted each time it is reached (what is shared counts as often as it is met; a slice's spare places count too). A statement '..UptoSaid' is the law's where the arguments, and the package variables that the reading takes, are together of bulk at most 1048576: NARROWER than '..Said'. Prove '..Said' where nothing that the law and all that it calls make is longer than what came in: it says more and counts as full. Else prove '..UptoSaid'. A law counts once. -/
mutual
def uptoBulk {H : Type} : DataW H → Nat
  | .lit (.string bytes) => bytes.length + 1
  | .lit _ => 1
  | .nil => 1
  | .ptr d => uptoBulk d + 1
  | .slice elems spare => uptoBulkAll elems + uptoBulkAll spare + 1
  | .agg parts => uptoBulkAll parts + 1
  | .iface _ d => uptoBulk d + 1
  | .map entries => uptoBulkEntries entries + 1
  | .held _ => 1
def uptoBulkAll {H : Type} : List (DataW H) → Nat
  | [] => 0
  | d :: r => uptoBulk d + uptoBulkAll r
def uptoBulkEntries {H : Type} : List (Lit × DataW H) → Nat
  | [] => 0
  | x :: r => uptoBulkEntry x + uptoBulkEntries r
def uptoBulkEntry {H : Type} : Lit × DataW H → Nat
  | (.string bytes, d) => bytes.length + uptoBulk d + 1
  | (_, d) => uptoBulk d + 1
 end
def uptoSmall : (H : Type) → List (DataW H) → Bool := fun _ ds => decide (uptoBulkAll ds ≤ 1048576)
def OpenSpec.upto (s : _root_.Go.ChangeSpec) : _root_.Go.OpenSpec := { _root_.Go.OpenSpec.ofChange s with cond := some uptoSmall }

/-- 'parallaxlaw08.CodeTexts', WHERE WHAT IT READS IS OF BULK AT MOST 1048576: true; the input reads as it did. -/
def codeTextsUptoRow : OpenClaim := { program := "ytdbpdcjlbopkbaadoor", sum := "2763e4de986e4d6abdf7db2dfcc05f1885359a13ffcd15a08d1e9b5b97274988", func := "parallax/parallaxlaw08.CodeTexts", spec := "codeTexts", named := ["parallax/code.words", "parallax/code.stack"], apart := false, laid := [("parallax/code.words", laid_parallax_code_words), ("parallax/code.stack", laid_parallax_code_stack)], narrowed := true }
def CodeTextsUptoSaid : Prop := codeTextsUptoRow.holds Tryd.pinned (OpenSpec.upto codeTextsSpec)

/-- 'parallaxlaw08.CodePrints', WHERE WHAT IT READS IS OF BULK AT MOST 1048576: true; the input reads as it did. -/
def codePrintsUptoRow : OpenClaim := { program := "ytdbpdcjlbopkbaadoor", sum := "2763e4de986e4d6abdf7db2dfcc05f1885359a13ffcd15a08d1e9b5b97274988", func := "parallax/parallaxlaw08.CodePrints", spec := "codePrints", named := ["parallax/code.words", "parallax/code.stack"], apart := false, laid := [("parallax/code.words", laid_parallax_code_words), ("parallax/code.stack", laid_parallax_code_stack)], narrowed := true }
def CodePrintsUptoSaid : Prop := codePrintsUptoRow.holds Tryd.pinned (OpenSpec.upto codePrintsSpec)

/-- 'parallaxlaw08.CodeSound', WHERE WHAT IT READS IS OF BULK AT MOST 1048576: true; the input reads as it did. -/
def codeSoundUptoRow : OpenClaim := { program := "ytdbpdcjlbopkbaadoor", sum := "2763e4de986e4d6abdf7db2dfcc05f1885359a13ffcd15a08d1e9b5b97274988", func := "parallax/parallaxlaw08.CodeSound", spec := "codeSound", named := ["parallax/code.words", "parallax/code.stack"], apart := false, laid := [("parallax/code.words", laid_parallax_code_words), ("parallax/code.stack", laid_parallax_code_stack)], narrowed := true }
def CodeSoundUptoSaid : Prop := codeSoundUptoRow.holds Tryd.pinned (OpenSpec.upto codeSoundSpec)

/-- 'parallaxlaw08.CodeBack', WHERE WHAT IT READS IS OF BULK AT MOST 1048576: true; the input reads as it did. -/
def codeBackUptoRow : OpenClaim := { program := "ytdbpdcjlbopkbaadoor", sum := "2763e4de986e4d6abdf7db2dfcc05f1885359a13ffcd15a08d1e9b5b97274988", func := "parallax/parallaxlaw08.CodeBack", spec := "codeBack", named := ["parallax/code.words", "parallax/code.stack"], apart := false, laid := [("parallax/code.words", laid_parallax_code_words), ("parallax/code.stack", laid_parallax_code_stack)], narrowed := true }
def CodeBackUptoSaid : Prop := codeBackUptoRow.holds Tryd.pinned (OpenSpec.upto codeBackSpec)

/-- 'parallaxlaw08.CodeMore', WHERE WHAT IT READS IS OF BULK AT MOST 1048576: true; the input reads as it did. -/
def codeMoreUptoRow : OpenClaim := { program := "ytdbpdcjlbopkbaadoor", sum := "2763e4de986e4d6abdf7db2dfcc05f1885359a13ffcd15a08d1e9b5b97274988", func := "parallax/parallaxlaw08.CodeMore", spec := "codeMore", named := ["parallax/code.words", "parallax/code.stack"], apart := false, laid := [("parallax/code.words", laid_parallax_code_words), ("parallax/code.stack", laid_parallax_code_stack)], narrowed := true }
def CodeMoreUptoSaid : Prop := codeMoreUptoRow.holds Tryd.pinned (OpenSpec.upto codeMoreSpec)

/-- 'parallaxlaw08.CodeIdle', WHERE WHAT IT READS IS OF BULK AT MOST 1048576: true; the input reads as it did. -/
def codeIdleUptoRow : OpenClaim := { program := "ytdbpdcjlbopkbaadoor", sum := "2763e4de986e4d6abdf7db2dfcc05f1885359a13ffcd15a08d1e9b5b97274988", func := "parallax/parallaxlaw08.CodeIdle", spec := "codeIdle", named := ["parallax/code.words", "parallax/code.stack"], apart := false, laid := [("parallax/code.words", laid_parallax_code_words), ("parallax/code.stack", laid_parallax_code_stack)], narrowed := true }
def CodeIdleUptoSaid : Prop := codeIdleUptoRow.holds Tryd.pinned (OpenSpec.upto codeIdleSpec)

/-- 'parallaxlaw08.CodeLong', WHERE WHAT IT READS IS OF BULK AT MOST 1048576: true; the input reads as it did. -/
def codeLongUptoRow : OpenClaim := { program := "ytdbpdcjlbopkbaadoor", sum := "2763e4de986e4d6abdf7db2dfcc05f1885359a13ffcd15a08d1e9b5b97274988", func := "parallax/parallaxlaw08.CodeLong", spec := "codeLong", named := ["parallax/code.words", "parallax/code.stack"], apart := false, laid := [("parallax/code.words", laid_parallax_code_words), ("parallax/code.stack", laid_parallax_code_stack)], narrowed := true }
def CodeLongUptoSaid : Prop := codeLongUptoRow.holds Tryd.pinned (OpenSpec.upto codeLongSpec)

end Rows
end Go.Proofs.YtdbpdcjlbopkbaaDoor
