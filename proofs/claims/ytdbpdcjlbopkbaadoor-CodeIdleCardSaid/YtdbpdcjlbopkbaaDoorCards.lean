/-
  DERIVED. GIVEN WITH THE SEED: THE CARDS: each row of YtdbpdcjlbopkbaaDoorRows.lean that lists a variable, with what it lists TIED to the program's text (the seventh form; the later family's looks); each row that meets fmt, with fmt's text TOLD by the authors' own Lean function (tested against real Go, not proved from fmt's source: count such statements apart). THE CARD IS WHAT COUNTS. Prove the row's statement (the work); the ties are given (YtdbpdcjlbopkbaaDoorTie.lean); close each card by the builder's one call (the guide's Derived/Test/ToyasCard.lean, 'card_holds'). Laid BY PROGRAM, IN A SANDBOX (cutbox-door.mjs). By AI agents, Wed Nov 11 2026. No macro, syntax, notation, axiom, sorry.
-/
import Derived.Test.YtdbpdcjlbopkbaaDoorRows
import GoSem.ClaimSeven
namespace Go.Proofs.YtdbpdcjlbopkbaaDoor
namespace Rows

/-- THE TIED CARD OF 'parallaxlaw08.CodeTexts'. -/
def codeTextsCard : Claim7 := { stood := { row := codeTextsRow, standIns := [], harness := (true, "e4425f145314c3aa5996ff04a1bab277c9aa4a9fe7b3899c3fecdcd7f0ec522a"), looks := false }, kinds := [], alts := [], laidByText := true, laidKinds := [.data, .data], laidTests := true, laidLooks := .later }
def CodeTextsCardSaid : Prop := Claim7.holds Tryd.pinned (.plain (OpenSpec.ofChange codeTextsSpec)) codeTextsCard

/-- THE TIED CARD OF 'parallaxlaw08.CodePrints'. -/
def codePrintsCard : Claim7 := { stood := { row := codePrintsRow, standIns := [], harness := (true, "e4425f145314c3aa5996ff04a1bab277c9aa4a9fe7b3899c3fecdcd7f0ec522a"), looks := false }, kinds := [], alts := [], laidByText := true, laidKinds := [.data, .data], laidTests := true, laidLooks := .later }
def CodePrintsCardSaid : Prop := Claim7.holds Tryd.pinned (.plain (OpenSpec.ofChange codePrintsSpec)) codePrintsCard

/-- THE TIED CARD OF 'parallaxlaw08.CodeSound'. -/
def codeSoundCard : Claim7 := { stood := { row := codeSoundRow, standIns := [], harness := (true, "e4425f145314c3aa5996ff04a1bab277c9aa4a9fe7b3899c3fecdcd7f0ec522a"), looks := false }, kinds := [], alts := [], laidByText := true, laidKinds := [.data, .data], laidTests := true, laidLooks := .later }
def CodeSoundCardSaid : Prop := Claim7.holds Tryd.pinned (.plain (OpenSpec.ofChange codeSoundSpec)) codeSoundCard

/-- THE TIED CARD OF 'parallaxlaw08.CodeBack'. -/
def codeBackCard : Claim7 := { stood := { row := codeBackRow, standIns := [], harness := (true, "e4425f145314c3aa5996ff04a1bab277c9aa4a9fe7b3899c3fecdcd7f0ec522a"), looks := false }, kinds := [], alts := [], laidByText := true, laidKinds := [.data, .data], laidTests := true, laidLooks := .later }
def CodeBackCardSaid : Prop := Claim7.holds Tryd.pinned (.plain (OpenSpec.ofChange codeBackSpec)) codeBackCard

/-- THE TIED CARD OF 'parallaxlaw08.CodeMore'. -/
def codeMoreCard : Claim7 := { stood := { row := codeMoreRow, standIns := [], harness := (true, "e4425f145314c3aa5996ff04a1bab277c9aa4a9fe7b3899c3fecdcd7f0ec522a"), looks := false }, kinds := [], alts := [], laidByText := true, laidKinds := [.data, .data], laidTests := true, laidLooks := .later }
def CodeMoreCardSaid : Prop := Claim7.holds Tryd.pinned (.plain (OpenSpec.ofChange codeMoreSpec)) codeMoreCard

/-- THE TIED CARD OF 'parallaxlaw08.CodeIdle'. -/
def codeIdleCard : Claim7 := { stood := { row := codeIdleRow, standIns := [], harness := (true, "e4425f145314c3aa5996ff04a1bab277c9aa4a9fe7b3899c3fecdcd7f0ec522a"), looks := false }, kinds := [], alts := [], laidByText := true, laidKinds := [.data, .data], laidTests := true, laidLooks := .later }
def CodeIdleCardSaid : Prop := Claim7.holds Tryd.pinned (.plain (OpenSpec.ofChange codeIdleSpec)) codeIdleCard

/-- THE TIED CARD OF 'parallaxlaw08.CodeLong'. -/
def codeLongCard : Claim7 := { stood := { row := codeLongRow, standIns := [], harness := (true, "e4425f145314c3aa5996ff04a1bab277c9aa4a9fe7b3899c3fecdcd7f0ec522a"), looks := false }, kinds := [], alts := [], laidByText := true, laidKinds := [.data, .data], laidTests := true, laidLooks := .later }
def CodeLongCardSaid : Prop := Claim7.holds Tryd.pinned (.plain (OpenSpec.ofChange codeLongSpec)) codeLongCard

/-- THE SECOND FORM's CARD OF 'parallaxlaw08.CodeTexts'. -/
def codeTextsUptoCard : Claim7 := { stood := { row := codeTextsUptoRow, standIns := [], harness := (true, "e4425f145314c3aa5996ff04a1bab277c9aa4a9fe7b3899c3fecdcd7f0ec522a"), looks := false }, kinds := [], alts := [], laidByText := true, laidKinds := [.data, .data], laidTests := true, laidLooks := .later }
def CodeTextsUptoCardSaid : Prop := Claim7.holds Tryd.pinned (.plain (OpenSpec.upto codeTextsSpec)) codeTextsUptoCard

/-- THE SECOND FORM's CARD OF 'parallaxlaw08.CodePrints'. -/
def codePrintsUptoCard : Claim7 := { stood := { row := codePrintsUptoRow, standIns := [], harness := (true, "e4425f145314c3aa5996ff04a1bab277c9aa4a9fe7b3899c3fecdcd7f0ec522a"), looks := false }, kinds := [], alts := [], laidByText := true, laidKinds := [.data, .data], laidTests := true, laidLooks := .later }
def CodePrintsUptoCardSaid : Prop := Claim7.holds Tryd.pinned (.plain (OpenSpec.upto codePrintsSpec)) codePrintsUptoCard

/-- THE SECOND FORM's CARD OF 'parallaxlaw08.CodeSound'. -/
def codeSoundUptoCard : Claim7 := { stood := { row := codeSoundUptoRow, standIns := [], harness := (true, "e4425f145314c3aa5996ff04a1bab277c9aa4a9fe7b3899c3fecdcd7f0ec522a"), looks := false }, kinds := [], alts := [], laidByText := true, laidKinds := [.data, .data], laidTests := true, laidLooks := .later }
def CodeSoundUptoCardSaid : Prop := Claim7.holds Tryd.pinned (.plain (OpenSpec.upto codeSoundSpec)) codeSoundUptoCard

/-- THE SECOND FORM's CARD OF 'parallaxlaw08.CodeBack'. -/
def codeBackUptoCard : Claim7 := { stood := { row := codeBackUptoRow, standIns := [], harness := (true, "e4425f145314c3aa5996ff04a1bab277c9aa4a9fe7b3899c3fecdcd7f0ec522a"), looks := false }, kinds := [], alts := [], laidByText := true, laidKinds := [.data, .data], laidTests := true, laidLooks := .later }
def CodeBackUptoCardSaid : Prop := Claim7.holds Tryd.pinned (.plain (OpenSpec.upto codeBackSpec)) codeBackUptoCard

/-- THE SECOND FORM's CARD OF 'parallaxlaw08.CodeMore'. -/
def codeMoreUptoCard : Claim7 := { stood := { row := codeMoreUptoRow, standIns := [], harness := (true, "e4425f145314c3aa5996ff04a1bab277c9aa4a9fe7b3899c3fecdcd7f0ec522a"), looks := false }, kinds := [], alts := [], laidByText := true, laidKinds := [.data, .data], laidTests := true, laidLooks := .later }
def CodeMoreUptoCardSaid : Prop := Claim7.holds Tryd.pinned (.plain (OpenSpec.upto codeMoreSpec)) codeMoreUptoCard

/-- THE SECOND FORM's CARD OF 'parallaxlaw08.CodeIdle'. -/
def codeIdleUptoCard : Claim7 := { stood := { row := codeIdleUptoRow, standIns := [], harness := (true, "e4425f145314c3aa5996ff04a1bab277c9aa4a9fe7b3899c3fecdcd7f0ec522a"), looks := false }, kinds := [], alts := [], laidByText := true, laidKinds := [.data, .data], laidTests := true, laidLooks := .later }
def CodeIdleUptoCardSaid : Prop := Claim7.holds Tryd.pinned (.plain (OpenSpec.upto codeIdleSpec)) codeIdleUptoCard

/-- THE SECOND FORM's CARD OF 'parallaxlaw08.CodeLong'. -/
def codeLongUptoCard : Claim7 := { stood := { row := codeLongUptoRow, standIns := [], harness := (true, "e4425f145314c3aa5996ff04a1bab277c9aa4a9fe7b3899c3fecdcd7f0ec522a"), looks := false }, kinds := [], alts := [], laidByText := true, laidKinds := [.data, .data], laidTests := true, laidLooks := .later }
def CodeLongUptoCardSaid : Prop := Claim7.holds Tryd.pinned (.plain (OpenSpec.upto codeLongSpec)) codeLongUptoCard
end Rows
end Go.Proofs.YtdbpdcjlbopkbaaDoor
