/-
  NARROWER THAN 'FOR EVERY INPUT', by the rows' own cells (each row's printed sentence says how): PeepMakes: laid · PeepSound: laid · PeepTwice: laid · PeepOwn: laid · PeepSame: laid.
  DERIVED. THE GIVEN ROWS OF THIS SEAT. 5 by the template 'for every input the law returns true; each argument reads behind the call as it read before'; 0 by the template 'total and deterministic' (their statements: YtmbjogpphegoaaaDoorTotals.lean).
  GIVEN WITH THE SEED: the statements are not yours to turn. If you find one false, say at which input.
  Laid BY PROGRAM, IN A SANDBOX (cutbox-rows.mjs): the forced cells as the released guide's own fill.sh prints them over the translation 4900a1ac13d09f08… (all of the seat's roots in one cut). By AI agents, Wed Nov 11 2026. No macro, syntax, notation, axiom, sorry.
-/
import Derived.Test.YtmbjogpphegoaaaDoorChecked
import GoSem.Claim
import GoSem.ClaimJoined
import GoSem.ClaimMapViews
import Derived.JoinedTies
import Derived.KernelRfl
namespace Go.Proofs.YtmbjogpphegoaaaDoor
/- THE CELL 'sum', in the pinned program and in every row, IS THE sha256 OF THE DUMP (.gsa) THAT YtmbjogpphegoaaaDoorProg.lean LOADS. Nothing in Lean hashes anything: it is a label: what it is worth is what the hold of that sum in a sandbox is worth. -/
noncomputable def Tryd.pinned : Pinned := { name := "ytmbjogpphegoaaadoor", sum := "4900a1ac13d09f08bb7331489f1ea5f3ffe12b88ae4bae0c8088599627af59d3", checked := Tryd.checked }
namespace Rows
def none {H : Type} : Left H := { results := [], args := [] }

/- WHAT THE LISTED PACKAGE-LEVEL VARIABLES READ AS WHEN THE CALL BEGINS. Each datum BY PROGRAM (the guide's laid-datum.mjs) off the statement by which the dump's own 'gosem.cut.vars' lays the variable. In a bare row this is a premise. The card (YtmbjogpphegoaaaDoorCards.lean) ties it to the program's text. -/
def laid_parallax_code_words {H : Type} : DataW H := .agg [.lit (.string []), .lit (.string [112, 117, 115, 104]), .lit (.string [108, 111, 97, 100]), .lit (.string [115, 116, 111, 114, 101]), .lit (.string [105, 110, 100, 101, 120]), .lit (.string [112, 117, 116]), .lit (.string [99, 108, 101, 97, 114]), .lit (.string [97, 100, 100]), .lit (.string [115, 117, 98]), .lit (.string [109, 117, 108]), .lit (.string [100, 105, 118]), .lit (.string [109, 111, 100]), .lit (.string [108, 101, 115, 115]), .lit (.string [109, 111, 115, 116]), .lit (.string [115, 97, 109, 101]), .lit (.string [110, 111, 116]), .lit (.string [110, 101, 103]), .lit (.string [106, 117, 109, 112]), .lit (.string [122, 101, 114, 111]), .lit (.string [99, 97, 108, 108]), .lit (.string [108, 101, 97, 118, 101]), .lit (.string [112, 114, 105, 110, 116]), .lit (.string [114, 101, 97, 100]), .lit (.string [116, 101, 115, 116]), .lit (.string [109, 97, 114, 107]), .lit (.string [100, 114, 111, 112])]
def laid_parallax_code_stack {H : Type} : DataW H := .agg [.agg [.lit (.int .i64 0), .lit (.int .i64 0)], .agg [.lit (.int .i64 0), .lit (.int .i64 1)], .agg [.lit (.int .i64 0), .lit (.int .i64 1)], .agg [.lit (.int .i64 1), .lit (.int .i64 0)], .agg [.lit (.int .i64 1), .lit (.int .i64 1)], .agg [.lit (.int .i64 2), .lit (.int .i64 0)], .agg [.lit (.int .i64 0), .lit (.int .i64 0)], .agg [.lit (.int .i64 2), .lit (.int .i64 1)], .agg [.lit (.int .i64 2), .lit (.int .i64 1)], .agg [.lit (.int .i64 2), .lit (.int .i64 1)], .agg [.lit (.int .i64 2), .lit (.int .i64 1)], .agg [.lit (.int .i64 2), .lit (.int .i64 1)], .agg [.lit (.int .i64 2), .lit (.int .i64 1)], .agg [.lit (.int .i64 2), .lit (.int .i64 1)], .agg [.lit (.int .i64 2), .lit (.int .i64 1)], .agg [.lit (.int .i64 1), .lit (.int .i64 1)], .agg [.lit (.int .i64 1), .lit (.int .i64 1)], .agg [.lit (.int .i64 0), .lit (.int .i64 0)], .agg [.lit (.int .i64 1), .lit (.int .i64 0)], .agg [.lit (.int .i64 0), .lit (.int .i64 0)], .agg [.lit (.int .i64 0), .lit (.int .i64 0)], .agg [.lit (.int .i64 1), .lit (.int .i64 0)], .agg [.lit (.int .i64 0), .lit (.int .i64 1)], .agg [.lit (.int .i64 1), .lit (.int .i64 0)], .agg [.lit (.int .i64 0), .lit (.int .i64 0)], .agg [.lit (.int .i64 1), .lit (.int .i64 0)]]

/-- 'parallaxlaw10.PeepMakes': WHATEVER THE INPUT: true; the input reads as it did. -/
def peepMakesSpec : ChangeSpec := { name := "peepMakes", fn := fun _ => fun
  | [d1, d2] => { results := [.lit (.bool true)], args := [d1, d2] }
  | _ => none }
def peepMakesRow : OpenClaim := { program := "ytmbjogpphegoaaadoor", sum := "4900a1ac13d09f08bb7331489f1ea5f3ffe12b88ae4bae0c8088599627af59d3", func := "parallax/parallaxlaw10.PeepMakes", spec := "peepMakes", unfollowed := true, recurses := true, named := ["parallax/code.words", "parallax/code.stack"], apart := false, laid := [("parallax/code.words", laid_parallax_code_words), ("parallax/code.stack", laid_parallax_code_stack)] }
def PeepMakesSaid : Prop := peepMakesRow.holds Tryd.pinned (OpenSpec.ofChange peepMakesSpec)

/-- ITS FALSE NEIGHBOUR: 'it returns false'. Refute it at one input. -/
def peepMakesWrong : ChangeSpec := { name := "peepMakes", fn := fun _ => fun
  | [d1, d2] => { results := [.lit (.bool false)], args := [d1, d2] }
  | _ => none }
def PeepMakesWrongFalsely : Prop := peepMakesRow.holds Tryd.pinned (OpenSpec.ofChange peepMakesWrong)

/-- 'parallaxlaw10.PeepSound': WHATEVER THE INPUT: true; the input reads as it did. -/
def peepSoundSpec : ChangeSpec := { name := "peepSound", fn := fun _ => fun
  | [d1, d2] => { results := [.lit (.bool true)], args := [d1, d2] }
  | _ => none }
def peepSoundRow : OpenClaim := { program := "ytmbjogpphegoaaadoor", sum := "4900a1ac13d09f08bb7331489f1ea5f3ffe12b88ae4bae0c8088599627af59d3", func := "parallax/parallaxlaw10.PeepSound", spec := "peepSound", unfollowed := true, recurses := true, named := ["parallax/code.words", "parallax/code.stack"], apart := false, laid := [("parallax/code.words", laid_parallax_code_words), ("parallax/code.stack", laid_parallax_code_stack)] }
def PeepSoundSaid : Prop := peepSoundRow.holds Tryd.pinned (OpenSpec.ofChange peepSoundSpec)

/-- ITS FALSE NEIGHBOUR: 'it returns false'. Refute it at one input. -/
def peepSoundWrong : ChangeSpec := { name := "peepSound", fn := fun _ => fun
  | [d1, d2] => { results := [.lit (.bool false)], args := [d1, d2] }
  | _ => none }
def PeepSoundWrongFalsely : Prop := peepSoundRow.holds Tryd.pinned (OpenSpec.ofChange peepSoundWrong)

/-- 'parallaxlaw10.PeepTwice': WHATEVER THE INPUT: true; the input reads as it did. -/
def peepTwiceSpec : ChangeSpec := { name := "peepTwice", fn := fun _ => fun
  | [d1, d2] => { results := [.lit (.bool true)], args := [d1, d2] }
  | _ => none }
def peepTwiceRow : OpenClaim := { program := "ytmbjogpphegoaaadoor", sum := "4900a1ac13d09f08bb7331489f1ea5f3ffe12b88ae4bae0c8088599627af59d3", func := "parallax/parallaxlaw10.PeepTwice", spec := "peepTwice", unfollowed := true, recurses := true, named := ["parallax/code.words", "parallax/code.stack"], apart := false, laid := [("parallax/code.words", laid_parallax_code_words), ("parallax/code.stack", laid_parallax_code_stack)] }
def PeepTwiceSaid : Prop := peepTwiceRow.holds Tryd.pinned (OpenSpec.ofChange peepTwiceSpec)

/-- ITS FALSE NEIGHBOUR: 'it returns false'. Refute it at one input. -/
def peepTwiceWrong : ChangeSpec := { name := "peepTwice", fn := fun _ => fun
  | [d1, d2] => { results := [.lit (.bool false)], args := [d1, d2] }
  | _ => none }
def PeepTwiceWrongFalsely : Prop := peepTwiceRow.holds Tryd.pinned (OpenSpec.ofChange peepTwiceWrong)

/-- 'parallaxlaw10.PeepOwn': WHATEVER THE INPUT: true; the input reads as it did. -/
def peepOwnSpec : ChangeSpec := { name := "peepOwn", fn := fun _ => fun
  | [d1, d2] => { results := [.lit (.bool true)], args := [d1, d2] }
  | _ => none }
def peepOwnRow : OpenClaim := { program := "ytmbjogpphegoaaadoor", sum := "4900a1ac13d09f08bb7331489f1ea5f3ffe12b88ae4bae0c8088599627af59d3", func := "parallax/parallaxlaw10.PeepOwn", spec := "peepOwn", unfollowed := true, recurses := true, named := ["parallax/code.words", "parallax/code.stack"], apart := false, laid := [("parallax/code.words", laid_parallax_code_words), ("parallax/code.stack", laid_parallax_code_stack)] }
def PeepOwnSaid : Prop := peepOwnRow.holds Tryd.pinned (OpenSpec.ofChange peepOwnSpec)

/-- ITS FALSE NEIGHBOUR: 'it returns false'. Refute it at one input. -/
def peepOwnWrong : ChangeSpec := { name := "peepOwn", fn := fun _ => fun
  | [d1, d2] => { results := [.lit (.bool false)], args := [d1, d2] }
  | _ => none }
def PeepOwnWrongFalsely : Prop := peepOwnRow.holds Tryd.pinned (OpenSpec.ofChange peepOwnWrong)

/-- 'parallaxlaw10.PeepSame': WHATEVER THE INPUT: true; the input reads as it did. -/
def peepSameSpec : ChangeSpec := { name := "peepSame", fn := fun _ => fun
  | [d1, d2, d3, d4] => { results := [.lit (.bool true)], args := [d1, d2, d3, d4] }
  | _ => none }
def peepSameRow : OpenClaim := { program := "ytmbjogpphegoaaadoor", sum := "4900a1ac13d09f08bb7331489f1ea5f3ffe12b88ae4bae0c8088599627af59d3", func := "parallax/parallaxlaw10.PeepSame", spec := "peepSame", unfollowed := true, recurses := true, named := ["parallax/code.words", "parallax/code.stack"], apart := false, laid := [("parallax/code.words", laid_parallax_code_words), ("parallax/code.stack", laid_parallax_code_stack)] }
def PeepSameSaid : Prop := peepSameRow.holds Tryd.pinned (OpenSpec.ofChange peepSameSpec)

/-- ITS FALSE NEIGHBOUR: 'it returns false'. Refute it at one input. -/
def peepSameWrong : ChangeSpec := { name := "peepSame", fn := fun _ => fun
  | [d1, d2, d3, d4] => { results := [.lit (.bool false)], args := [d1, d2, d3, d4] }
  | _ => none }
def PeepSameWrongFalsely : Prop := peepSameRow.holds Tryd.pinned (OpenSpec.ofChange peepSameWrong)

/- THE SECOND FORM. 'bulk': how many values and letters a reading holds, each counted each time it is reached (what is shared counts as often as it is met; a slice's spare places count too). A statement '..UptoSaid' is the law's where the arguments, and the package variables that the reading takes, are together of bulk at most 1048576: NARROWER than '..Said'. Prove '..Said' where nothing that the law and all that it calls make is longer than what came in: it says more and counts as full. Else prove '..UptoSaid'. A law counts once. -/
mutual
def uptoBulk {H : Type} : DataW H → Nat
  | .lit (.string bytes) => bytes.length + 1
  | .lit _ => 1
  | .nil => 1
  | .ptr d => uptoBulk d + 1
  | .slice elems spare => uptoBulkAll elems + uptoBulkAll spare + 1
  | .agg parts => uptoBulkAll parts + 1
  | .iface _ d => uptoBulk d + 1
  | .map entries => uptoBulkEntries entries + 1
  | .held _ => 1
def uptoBulkAll {H : Type} : List (DataW H) → Nat
  | [] => 0
  | d :: r => uptoBulk d + uptoBulkAll r
def uptoBulkEntries {H : Type} : List (Lit × DataW H) → Nat
  | [] => 0
  | x :: r => uptoBulkEntry x + uptoBulkEntries r
def uptoBulkEntry {H : Type} : Lit × DataW H → Nat
  | (.string bytes, d) => bytes.length + uptoBulk d + 1
  | (_, d) => uptoBulk d + 1
 end
def uptoSmall : (H : Type) → List (DataW H) → Bool := fun _ ds => decide (uptoBulkAll ds ≤ 1048576)
def OpenSpec.upto (s : _root_.Go.ChangeSpec) : _root_.Go.OpenSpec := { _root_.Go.OpenSpec.ofChange s with cond := some uptoSmall }

/-- 'parallaxlaw10.PeepMakes', WHERE WHAT IT READS IS OF BULK AT MOST 1048576: true; the input reads as it did. -/
def peepMakesUptoRow : OpenClaim := { program := "ytmbjogpphegoaaadoor", sum := "4900a1ac13d09f08bb7331489f1ea5f3ffe12b88ae4bae0c8088599627af59d3", func := "parallax/parallaxlaw10.PeepMakes", spec := "peepMakes", unfollowed := true, recurses := true, named := ["parallax/code.words", "parallax/code.stack"], apart := false, laid := [("parallax/code.words", laid_parallax_code_words), ("parallax/code.stack", laid_parallax_code_stack)], narrowed := true }
def PeepMakesUptoSaid : Prop := peepMakesUptoRow.holds Tryd.pinned (OpenSpec.upto peepMakesSpec)

/-- 'parallaxlaw10.PeepSound', WHERE WHAT IT READS IS OF BULK AT MOST 1048576: true; the input reads as it did. -/
def peepSoundUptoRow : OpenClaim := { program := "ytmbjogpphegoaaadoor", sum := "4900a1ac13d09f08bb7331489f1ea5f3ffe12b88ae4bae0c8088599627af59d3", func := "parallax/parallaxlaw10.PeepSound", spec := "peepSound", unfollowed := true, recurses := true, named := ["parallax/code.words", "parallax/code.stack"], apart := false, laid := [("parallax/code.words", laid_parallax_code_words), ("parallax/code.stack", laid_parallax_code_stack)], narrowed := true }
def PeepSoundUptoSaid : Prop := peepSoundUptoRow.holds Tryd.pinned (OpenSpec.upto peepSoundSpec)

/-- 'parallaxlaw10.PeepTwice', WHERE WHAT IT READS IS OF BULK AT MOST 1048576: true; the input reads as it did. -/
def peepTwiceUptoRow : OpenClaim := { program := "ytmbjogpphegoaaadoor", sum := "4900a1ac13d09f08bb7331489f1ea5f3ffe12b88ae4bae0c8088599627af59d3", func := "parallax/parallaxlaw10.PeepTwice", spec := "peepTwice", unfollowed := true, recurses := true, named := ["parallax/code.words", "parallax/code.stack"], apart := false, laid := [("parallax/code.words", laid_parallax_code_words), ("parallax/code.stack", laid_parallax_code_stack)], narrowed := true }
def PeepTwiceUptoSaid : Prop := peepTwiceUptoRow.holds Tryd.pinned (OpenSpec.upto peepTwiceSpec)

/-- 'parallaxlaw10.PeepOwn', WHERE WHAT IT READS IS OF BULK AT MOST 1048576: true; the input reads as it did. -/
def peepOwnUptoRow : OpenClaim := { program := "ytmbjogpphegoaaadoor", sum := "4900a1ac13d09f08bb7331489f1ea5f3ffe12b88ae4bae0c8088599627af59d3", func := "parallax/parallaxlaw10.PeepOwn", spec := "peepOwn", unfollowed := true, recurses := true, named := ["parallax/code.words", "parallax/code.stack"], apart := false, laid := [("parallax/code.words", laid_parallax_code_words), ("parallax/code.stack", laid_parallax_code_stack)], narrowed := true }
def PeepOwnUptoSaid : Prop := peepOwnUptoRow.holds Tryd.pinned (OpenSpec.upto peepOwnSpec)

/-- 'parallaxlaw10.PeepSame', WHERE WHAT IT READS IS OF BULK AT MOST 1048576: true; the input reads as it did. -/
def peepSameUptoRow : OpenClaim := { program := "ytmbjogpphegoaaadoor", sum := "4900a1ac13d09f08bb7331489f1ea5f3ffe12b88ae4bae0c8088599627af59d3", func := "parallax/parallaxlaw10.PeepSame", spec := "peepSame", unfollowed := true, recurses := true, named := ["parallax/code.words", "parallax/code.stack"], apart := false, laid := [("parallax/code.words", laid_parallax_code_words), ("parallax/code.stack", laid_parallax_code_stack)], narrowed := true }
def PeepSameUptoSaid : Prop := peepSameUptoRow.holds Tryd.pinned (OpenSpec.upto peepSameSpec)

end Rows
end Go.Proofs.YtmbjogpphegoaaaDoor
