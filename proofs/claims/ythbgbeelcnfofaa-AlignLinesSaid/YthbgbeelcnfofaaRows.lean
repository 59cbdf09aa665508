/-
  No cell of these rows narrows 'for every input' (looked for: loops, veiled, ifaces, maps, wideKeys, modest, calm, conditions, laid).
  DERIVED. THE GIVEN ROWS OF THIS SEAT. 9 by the template 'for every input the law returns true; each argument reads behind the call as it read before'; 0 by the template 'total and deterministic' (their statements: YthbgbeelcnfofaaTotals.lean).
  GIVEN WITH THE SEED: the statements are not yours to turn. If you find one false, say at which input.
  Laid BY PROGRAM, IN A SANDBOX (cutbox-rows.mjs): the forced cells as the released guide's own fill.sh prints them over the translation 0c768f03b0b547e1… (all of the seat's roots in one cut). By AI agents, Wed Nov 11 2026. No macro, syntax, notation, axiom, sorry.
-/
import Derived.Test.YthbgbeelcnfofaaChecked
import GoSem.Claim
import GoSem.ClaimJoined
import GoSem.ClaimMapViews
import Derived.JoinedTies
import Derived.KernelRfl
namespace Go.Proofs.Ythbgbeelcnfofaa
/- THE CELL 'sum', in the pinned program and in every row, IS THE sha256 OF THE DUMP (.gsa) THAT YthbgbeelcnfofaaProg.lean LOADS. Nothing in Lean hashes anything: it is a label: what it is worth is what the hold of that sum in a sandbox is worth. -/
noncomputable def Try.pinned : Pinned := { name := "ythbgbeelcnfofaa", sum := "0c768f03b0b547e119598c83b27984150de373c908fe6b06ddb5c4c3c0cb2afd", checked := Try.checked }
namespace Rows
def none {H : Type} : Left H := { results := [], args := [] }

/-- 'parallaxlaw15.AlignParts': WHATEVER THE INPUT: true; the input reads as it did. -/
def alignPartsSpec : ChangeSpec := { name := "alignParts", fn := fun _ => fun
  | [d1, d2, d3] => { results := [.lit (.bool true)], args := [d1, d2, d3] }
  | _ => none }
def alignPartsRow : OpenClaim := { program := "ythbgbeelcnfofaa", sum := "0c768f03b0b547e119598c83b27984150de373c908fe6b06ddb5c4c3c0cb2afd", func := "parallax/parallaxlaw15.AlignParts", spec := "alignParts", apart := false }
def AlignPartsSaid : Prop := alignPartsRow.holds Try.pinned (OpenSpec.ofChange alignPartsSpec)

/-- ITS FALSE NEIGHBOUR: 'it returns false'. Refute it at one input. -/
def alignPartsWrong : ChangeSpec := { name := "alignParts", fn := fun _ => fun
  | [d1, d2, d3] => { results := [.lit (.bool false)], args := [d1, d2, d3] }
  | _ => none }
def AlignPartsWrongFalsely : Prop := alignPartsRow.holds Try.pinned (OpenSpec.ofChange alignPartsWrong)

/-- 'parallaxlaw15.AlignMatches': WHATEVER THE INPUT: true; the input reads as it did. -/
def alignMatchesSpec : ChangeSpec := { name := "alignMatches", fn := fun _ => fun
  | [d1, d2, d3] => { results := [.lit (.bool true)], args := [d1, d2, d3] }
  | _ => none }
def alignMatchesRow : OpenClaim := { program := "ythbgbeelcnfofaa", sum := "0c768f03b0b547e119598c83b27984150de373c908fe6b06ddb5c4c3c0cb2afd", func := "parallax/parallaxlaw15.AlignMatches", spec := "alignMatches", apart := false }
def AlignMatchesSaid : Prop := alignMatchesRow.holds Try.pinned (OpenSpec.ofChange alignMatchesSpec)

/-- ITS FALSE NEIGHBOUR: 'it returns false'. Refute it at one input. -/
def alignMatchesWrong : ChangeSpec := { name := "alignMatches", fn := fun _ => fun
  | [d1, d2, d3] => { results := [.lit (.bool false)], args := [d1, d2, d3] }
  | _ => none }
def AlignMatchesWrongFalsely : Prop := alignMatchesRow.holds Try.pinned (OpenSpec.ofChange alignMatchesWrong)

/-- 'parallaxlaw15.AlignBest': WHATEVER THE INPUT: true; the input reads as it did. -/
def alignBestSpec : ChangeSpec := { name := "alignBest", fn := fun _ => fun
  | [d1, d2, d3, d4] => { results := [.lit (.bool true)], args := [d1, d2, d3, d4] }
  | _ => none }
def alignBestRow : OpenClaim := { program := "ythbgbeelcnfofaa", sum := "0c768f03b0b547e119598c83b27984150de373c908fe6b06ddb5c4c3c0cb2afd", func := "parallax/parallaxlaw15.AlignBest", spec := "alignBest", apart := false }
def AlignBestSaid : Prop := alignBestRow.holds Try.pinned (OpenSpec.ofChange alignBestSpec)

/-- ITS FALSE NEIGHBOUR: 'it returns false'. Refute it at one input. -/
def alignBestWrong : ChangeSpec := { name := "alignBest", fn := fun _ => fun
  | [d1, d2, d3, d4] => { results := [.lit (.bool false)], args := [d1, d2, d3, d4] }
  | _ => none }
def AlignBestWrongFalsely : Prop := alignBestRow.holds Try.pinned (OpenSpec.ofChange alignBestWrong)

/-- 'parallaxlaw15.AlignTurned': WHATEVER THE INPUT: true; the input reads as it did. -/
def alignTurnedSpec : ChangeSpec := { name := "alignTurned", fn := fun _ => fun
  | [d1, d2, d3] => { results := [.lit (.bool true)], args := [d1, d2, d3] }
  | _ => none }
def alignTurnedRow : OpenClaim := { program := "ythbgbeelcnfofaa", sum := "0c768f03b0b547e119598c83b27984150de373c908fe6b06ddb5c4c3c0cb2afd", func := "parallax/parallaxlaw15.AlignTurned", spec := "alignTurned", apart := false }
def AlignTurnedSaid : Prop := alignTurnedRow.holds Try.pinned (OpenSpec.ofChange alignTurnedSpec)

/-- ITS FALSE NEIGHBOUR: 'it returns false'. Refute it at one input. -/
def alignTurnedWrong : ChangeSpec := { name := "alignTurned", fn := fun _ => fun
  | [d1, d2, d3] => { results := [.lit (.bool false)], args := [d1, d2, d3] }
  | _ => none }
def AlignTurnedWrongFalsely : Prop := alignTurnedRow.holds Try.pinned (OpenSpec.ofChange alignTurnedWrong)

/-- 'parallaxlaw15.AlignGrows': WHATEVER THE INPUT: true; the input reads as it did. -/
def alignGrowsSpec : ChangeSpec := { name := "alignGrows", fn := fun _ => fun
  | [d1, d2, d3] => { results := [.lit (.bool true)], args := [d1, d2, d3] }
  | _ => none }
def alignGrowsRow : OpenClaim := { program := "ythbgbeelcnfofaa", sum := "0c768f03b0b547e119598c83b27984150de373c908fe6b06ddb5c4c3c0cb2afd", func := "parallax/parallaxlaw15.AlignGrows", spec := "alignGrows", apart := false }
def AlignGrowsSaid : Prop := alignGrowsRow.holds Try.pinned (OpenSpec.ofChange alignGrowsSpec)

/-- ITS FALSE NEIGHBOUR: 'it returns false'. Refute it at one input. -/
def alignGrowsWrong : ChangeSpec := { name := "alignGrows", fn := fun _ => fun
  | [d1, d2, d3] => { results := [.lit (.bool false)], args := [d1, d2, d3] }
  | _ => none }
def AlignGrowsWrongFalsely : Prop := alignGrowsRow.holds Try.pinned (OpenSpec.ofChange alignGrowsWrong)

/-- 'parallaxlaw15.AlignAll': WHATEVER THE INPUT: true; the input reads as it did. -/
def alignAllSpec : ChangeSpec := { name := "alignAll", fn := fun _ => fun
  | [d1, d2, d3] => { results := [.lit (.bool true)], args := [d1, d2, d3] }
  | _ => none }
def alignAllRow : OpenClaim := { program := "ythbgbeelcnfofaa", sum := "0c768f03b0b547e119598c83b27984150de373c908fe6b06ddb5c4c3c0cb2afd", func := "parallax/parallaxlaw15.AlignAll", spec := "alignAll", apart := false }
def AlignAllSaid : Prop := alignAllRow.holds Try.pinned (OpenSpec.ofChange alignAllSpec)

/-- ITS FALSE NEIGHBOUR: 'it returns false'. Refute it at one input. -/
def alignAllWrong : ChangeSpec := { name := "alignAll", fn := fun _ => fun
  | [d1, d2, d3] => { results := [.lit (.bool false)], args := [d1, d2, d3] }
  | _ => none }
def AlignAllWrongFalsely : Prop := alignAllRow.holds Try.pinned (OpenSpec.ofChange alignAllWrong)

/-- 'parallaxlaw15.AlignFits': WHATEVER THE INPUT: true; the input reads as it did. -/
def alignFitsSpec : ChangeSpec := { name := "alignFits", fn := fun _ => fun
  | [d1, d2, d3] => { results := [.lit (.bool true)], args := [d1, d2, d3] }
  | _ => none }
def alignFitsRow : OpenClaim := { program := "ythbgbeelcnfofaa", sum := "0c768f03b0b547e119598c83b27984150de373c908fe6b06ddb5c4c3c0cb2afd", func := "parallax/parallaxlaw15.AlignFits", spec := "alignFits", apart := false }
def AlignFitsSaid : Prop := alignFitsRow.holds Try.pinned (OpenSpec.ofChange alignFitsSpec)

/-- ITS FALSE NEIGHBOUR: 'it returns false'. Refute it at one input. -/
def alignFitsWrong : ChangeSpec := { name := "alignFits", fn := fun _ => fun
  | [d1, d2, d3] => { results := [.lit (.bool false)], args := [d1, d2, d3] }
  | _ => none }
def AlignFitsWrongFalsely : Prop := alignFitsRow.holds Try.pinned (OpenSpec.ofChange alignFitsWrong)

/-- 'parallaxlaw15.AlignRegions': WHATEVER THE INPUT: true; the input reads as it did. -/
def alignRegionsSpec : ChangeSpec := { name := "alignRegions", fn := fun _ => fun
  | [d1, d2, d3, d4] => { results := [.lit (.bool true)], args := [d1, d2, d3, d4] }
  | _ => none }
def alignRegionsRow : OpenClaim := { program := "ythbgbeelcnfofaa", sum := "0c768f03b0b547e119598c83b27984150de373c908fe6b06ddb5c4c3c0cb2afd", func := "parallax/parallaxlaw15.AlignRegions", spec := "alignRegions", apart := false }
def AlignRegionsSaid : Prop := alignRegionsRow.holds Try.pinned (OpenSpec.ofChange alignRegionsSpec)

/-- ITS FALSE NEIGHBOUR: 'it returns false'. Refute it at one input. -/
def alignRegionsWrong : ChangeSpec := { name := "alignRegions", fn := fun _ => fun
  | [d1, d2, d3, d4] => { results := [.lit (.bool false)], args := [d1, d2, d3, d4] }
  | _ => none }
def AlignRegionsWrongFalsely : Prop := alignRegionsRow.holds Try.pinned (OpenSpec.ofChange alignRegionsWrong)

/-- 'parallaxlaw15.AlignLines': WHATEVER THE INPUT: true; the input reads as it did. -/
def alignLinesSpec : ChangeSpec := { name := "alignLines", fn := fun _ => fun
  | [d1, d2, d3, d4] => { results := [.lit (.bool true)], args := [d1, d2, d3, d4] }
  | _ => none }
def alignLinesRow : OpenClaim := { program := "ythbgbeelcnfofaa", sum := "0c768f03b0b547e119598c83b27984150de373c908fe6b06ddb5c4c3c0cb2afd", func := "parallax/parallaxlaw15.AlignLines", spec := "alignLines", unfollowed := true, recurses := true, apart := false }
def AlignLinesSaid : Prop := alignLinesRow.holds Try.pinned (OpenSpec.ofChange alignLinesSpec)

/-- ITS FALSE NEIGHBOUR: 'it returns false'. Refute it at one input. -/
def alignLinesWrong : ChangeSpec := { name := "alignLines", fn := fun _ => fun
  | [d1, d2, d3, d4] => { results := [.lit (.bool false)], args := [d1, d2, d3, d4] }
  | _ => none }
def AlignLinesWrongFalsely : Prop := alignLinesRow.holds Try.pinned (OpenSpec.ofChange alignLinesWrong)

/- THE SECOND FORM. 'bulk': how many values and letters a reading holds, each counted each time it is reached (what is shared counts as often as it is met; a slice's spare places count too). A statement '..UptoSaid' is the law's where the arguments, and the package variables that the reading takes, are together of bulk at most 1048576: NARROWER than '..Said'. Prove '..Said' where nothing that the law and all that it calls make is longer than what came in: it says more and counts as full. Else prove '..UptoSaid'. A law counts once. -/
mutual
def uptoBulk {H : Type} : DataW H → Nat
  | .lit (.string bytes) => bytes.length + 1
  | .lit _ => 1
  | .nil => 1
  | .ptr d => uptoBulk d + 1
  | .slice elems spare => uptoBulkAll elems + uptoBulkAll spare + 1
  | .agg parts => uptoBulkAll parts + 1
  | .iface _ d => uptoBulk d + 1
  | .map entries => uptoBulkEntries entries + 1
  | .held _ => 1
def uptoBulkAll {H : Type} : List (DataW H) → Nat
  | [] => 0
  | d :: r => uptoBulk d + uptoBulkAll r
def uptoBulkEntries {H : Type} : List (Lit × DataW H) → Nat
  | [] => 0
  | x :: r => uptoBulkEntry x + uptoBulkEntries r
def uptoBulkEntry {H : Type} : Lit × DataW H → Nat
  | (.string bytes, d) => bytes.length + uptoBulk d + 1
  | (_, d) => uptoBulk d + 1
 end
def uptoSmall : (H : Type) → List (DataW H) → Bool := fun _ ds => decide (uptoBulkAll ds ≤ 1048576)
def OpenSpec.upto (s : _root_.Go.ChangeSpec) : _root_.Go.OpenSpec := { _root_.Go.OpenSpec.ofChange s with cond := some uptoSmall }

/-- 'parallaxlaw15.AlignParts', WHERE WHAT IT READS IS OF BULK AT MOST 1048576: true; the input reads as it did. -/
def alignPartsUptoRow : OpenClaim := { program := "ythbgbeelcnfofaa", sum := "0c768f03b0b547e119598c83b27984150de373c908fe6b06ddb5c4c3c0cb2afd", func := "parallax/parallaxlaw15.AlignParts", spec := "alignParts", apart := false, narrowed := true }
def AlignPartsUptoSaid : Prop := alignPartsUptoRow.holds Try.pinned (OpenSpec.upto alignPartsSpec)

/-- 'parallaxlaw15.AlignMatches', WHERE WHAT IT READS IS OF BULK AT MOST 1048576: true; the input reads as it did. -/
def alignMatchesUptoRow : OpenClaim := { program := "ythbgbeelcnfofaa", sum := "0c768f03b0b547e119598c83b27984150de373c908fe6b06ddb5c4c3c0cb2afd", func := "parallax/parallaxlaw15.AlignMatches", spec := "alignMatches", apart := false, narrowed := true }
def AlignMatchesUptoSaid : Prop := alignMatchesUptoRow.holds Try.pinned (OpenSpec.upto alignMatchesSpec)

/-- 'parallaxlaw15.AlignBest', WHERE WHAT IT READS IS OF BULK AT MOST 1048576: true; the input reads as it did. -/
def alignBestUptoRow : OpenClaim := { program := "ythbgbeelcnfofaa", sum := "0c768f03b0b547e119598c83b27984150de373c908fe6b06ddb5c4c3c0cb2afd", func := "parallax/parallaxlaw15.AlignBest", spec := "alignBest", apart := false, narrowed := true }
def AlignBestUptoSaid : Prop := alignBestUptoRow.holds Try.pinned (OpenSpec.upto alignBestSpec)

/-- 'parallaxlaw15.AlignTurned', WHERE WHAT IT READS IS OF BULK AT MOST 1048576: true; the input reads as it did. -/
def alignTurnedUptoRow : OpenClaim := { program := "ythbgbeelcnfofaa", sum := "0c768f03b0b547e119598c83b27984150de373c908fe6b06ddb5c4c3c0cb2afd", func := "parallax/parallaxlaw15.AlignTurned", spec := "alignTurned", apart := false, narrowed := true }
def AlignTurnedUptoSaid : Prop := alignTurnedUptoRow.holds Try.pinned (OpenSpec.upto alignTurnedSpec)

/-- 'parallaxlaw15.AlignGrows', WHERE WHAT IT READS IS OF BULK AT MOST 1048576: true; the input reads as it did. -/
def alignGrowsUptoRow : OpenClaim := { program := "ythbgbeelcnfofaa", sum := "0c768f03b0b547e119598c83b27984150de373c908fe6b06ddb5c4c3c0cb2afd", func := "parallax/parallaxlaw15.AlignGrows", spec := "alignGrows", apart := false, narrowed := true }
def AlignGrowsUptoSaid : Prop := alignGrowsUptoRow.holds Try.pinned (OpenSpec.upto alignGrowsSpec)

/-- 'parallaxlaw15.AlignAll', WHERE WHAT IT READS IS OF BULK AT MOST 1048576: true; the input reads as it did. -/
def alignAllUptoRow : OpenClaim := { program := "ythbgbeelcnfofaa", sum := "0c768f03b0b547e119598c83b27984150de373c908fe6b06ddb5c4c3c0cb2afd", func := "parallax/parallaxlaw15.AlignAll", spec := "alignAll", apart := false, narrowed := true }
def AlignAllUptoSaid : Prop := alignAllUptoRow.holds Try.pinned (OpenSpec.upto alignAllSpec)

/-- 'parallaxlaw15.AlignFits', WHERE WHAT IT READS IS OF BULK AT MOST 1048576: true; the input reads as it did. -/
def alignFitsUptoRow : OpenClaim := { program := "ythbgbeelcnfofaa", sum := "0c768f03b0b547e119598c83b27984150de373c908fe6b06ddb5c4c3c0cb2afd", func := "parallax/parallaxlaw15.AlignFits", spec := "alignFits", apart := false, narrowed := true }
def AlignFitsUptoSaid : Prop := alignFitsUptoRow.holds Try.pinned (OpenSpec.upto alignFitsSpec)

/-- 'parallaxlaw15.AlignRegions', WHERE WHAT IT READS IS OF BULK AT MOST 1048576: true; the input reads as it did. -/
def alignRegionsUptoRow : OpenClaim := { program := "ythbgbeelcnfofaa", sum := "0c768f03b0b547e119598c83b27984150de373c908fe6b06ddb5c4c3c0cb2afd", func := "parallax/parallaxlaw15.AlignRegions", spec := "alignRegions", apart := false, narrowed := true }
def AlignRegionsUptoSaid : Prop := alignRegionsUptoRow.holds Try.pinned (OpenSpec.upto alignRegionsSpec)

/-- 'parallaxlaw15.AlignLines', WHERE WHAT IT READS IS OF BULK AT MOST 1048576: true; the input reads as it did. -/
def alignLinesUptoRow : OpenClaim := { program := "ythbgbeelcnfofaa", sum := "0c768f03b0b547e119598c83b27984150de373c908fe6b06ddb5c4c3c0cb2afd", func := "parallax/parallaxlaw15.AlignLines", spec := "alignLines", unfollowed := true, recurses := true, apart := false, narrowed := true }
def AlignLinesUptoSaid : Prop := alignLinesUptoRow.holds Try.pinned (OpenSpec.upto alignLinesSpec)

end Rows
end Go.Proofs.Ythbgbeelcnfofaa
