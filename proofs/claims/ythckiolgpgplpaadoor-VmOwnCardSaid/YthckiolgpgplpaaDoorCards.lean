/-
  DERIVED. GIVEN WITH THE SEED: THE CARDS: each row of YthckiolgpgplpaaDoorRows.lean that lists a variable, with what it lists TIED to the program's text (the seventh form; the later family's looks); each row that meets fmt, with fmt's text TOLD by the authors' own Lean function (tested against real Go, not proved from fmt's source: count such statements apart). THE CARD IS WHAT COUNTS. Prove the row's statement (the work); the ties are given (YthckiolgpgplpaaDoorTie.lean); close each card by the builder's one call (the guide's Derived/Test/ToyasCard.lean, 'card_holds'). Laid BY PROGRAM, IN A SANDBOX (cutbox-door.mjs). By AI agents, Wed Nov 11 2026. No macro, syntax, notation, axiom, sorry.
-/
import Derived.Test.YthckiolgpgplpaaDoorRows
import GoSem.ClaimSeven
namespace Go.Proofs.YthckiolgpgplpaaDoor
namespace Rows

/-- THE TIED CARD OF 'parallaxlaw09.VmMore'. -/
def vmMoreCard : Claim7 := { stood := { row := vmMoreRow, standIns := [], harness := (true, "f43b2061a396961d450cbf9e3c14858ff886897926f3e566f73a37b3dca4831c"), looks := false }, kinds := [], alts := [], laidByText := true, laidKinds := [.data, .data], laidTests := true, laidLooks := .later }
def VmMoreCardSaid : Prop := Claim7.holds Tryd.pinned (.plain (OpenSpec.ofChange vmMoreSpec)) vmMoreCard

/-- THE TIED CARD OF 'parallaxlaw09.VmDeep'. -/
def vmDeepCard : Claim7 := { stood := { row := vmDeepRow, standIns := [], harness := (true, "f43b2061a396961d450cbf9e3c14858ff886897926f3e566f73a37b3dca4831c"), looks := false }, kinds := [], alts := [], laidByText := true, laidKinds := [.data, .data], laidTests := true, laidLooks := .later }
def VmDeepCardSaid : Prop := Claim7.holds Tryd.pinned (.plain (OpenSpec.ofChange vmDeepSpec)) vmDeepCard

/-- THE TIED CARD OF 'parallaxlaw09.VmEnds'. -/
def vmEndsCard : Claim7 := { stood := { row := vmEndsRow, standIns := [], harness := (true, "f43b2061a396961d450cbf9e3c14858ff886897926f3e566f73a37b3dca4831c"), looks := false }, kinds := [], alts := [], laidByText := true, laidKinds := [.data, .data], laidTests := true, laidLooks := .later }
def VmEndsCardSaid : Prop := Claim7.holds Tryd.pinned (.plain (OpenSpec.ofChange vmEndsSpec)) vmEndsCard

/-- THE TIED CARD OF 'parallaxlaw09.VmRuns'. -/
def vmRunsCard : Claim7 := { stood := { row := vmRunsRow, standIns := [], harness := (true, "f43b2061a396961d450cbf9e3c14858ff886897926f3e566f73a37b3dca4831c"), looks := false }, kinds := [], alts := [], laidByText := true, laidKinds := [.data, .data], laidTests := true, laidLooks := .later }
def VmRunsCardSaid : Prop := Claim7.holds Tryd.pinned (.plain (OpenSpec.ofChange vmRunsSpec)) vmRunsCard

/-- THE TIED CARD OF 'parallaxlaw09.VmOwn'. -/
def vmOwnCard : Claim7 := { stood := { row := vmOwnRow, standIns := [], harness := (true, "f43b2061a396961d450cbf9e3c14858ff886897926f3e566f73a37b3dca4831c"), looks := false }, kinds := [], alts := [], laidByText := true, laidKinds := [.data, .data], laidTests := true, laidLooks := .later }
def VmOwnCardSaid : Prop := Claim7.holds Tryd.pinned (.plain (OpenSpec.ofChange vmOwnSpec)) vmOwnCard

/-- THE TIED CARD OF 'parallaxlaw09.VmCopies'. -/
def vmCopiesCard : Claim7 := { stood := { row := vmCopiesRow, standIns := [], harness := (true, "f43b2061a396961d450cbf9e3c14858ff886897926f3e566f73a37b3dca4831c"), looks := false }, kinds := [], alts := [], laidByText := true, laidKinds := [.data, .data], laidTests := true, laidLooks := .later }
def VmCopiesCardSaid : Prop := Claim7.holds Tryd.pinned (.plain (OpenSpec.ofChange vmCopiesSpec)) vmCopiesCard

/-- THE TIED CARD OF 'parallaxlaw09.VmNil'. -/
def vmNilCard : Claim7 := { stood := { row := vmNilRow, standIns := [], harness := (true, "f43b2061a396961d450cbf9e3c14858ff886897926f3e566f73a37b3dca4831c"), looks := false }, kinds := [], alts := [], laidByText := true, laidKinds := [.data, .data], laidTests := true, laidLooks := .later }
def VmNilCardSaid : Prop := Claim7.holds Tryd.pinned (.plain (OpenSpec.ofChange vmNilSpec)) vmNilCard

/-- THE SECOND FORM's CARD OF 'parallaxlaw09.VmMore'. -/
def vmMoreUptoCard : Claim7 := { stood := { row := vmMoreUptoRow, standIns := [], harness := (true, "f43b2061a396961d450cbf9e3c14858ff886897926f3e566f73a37b3dca4831c"), looks := false }, kinds := [], alts := [], laidByText := true, laidKinds := [.data, .data], laidTests := true, laidLooks := .later }
def VmMoreUptoCardSaid : Prop := Claim7.holds Tryd.pinned (.plain (OpenSpec.upto vmMoreSpec)) vmMoreUptoCard

/-- THE SECOND FORM's CARD OF 'parallaxlaw09.VmDeep'. -/
def vmDeepUptoCard : Claim7 := { stood := { row := vmDeepUptoRow, standIns := [], harness := (true, "f43b2061a396961d450cbf9e3c14858ff886897926f3e566f73a37b3dca4831c"), looks := false }, kinds := [], alts := [], laidByText := true, laidKinds := [.data, .data], laidTests := true, laidLooks := .later }
def VmDeepUptoCardSaid : Prop := Claim7.holds Tryd.pinned (.plain (OpenSpec.upto vmDeepSpec)) vmDeepUptoCard

/-- THE SECOND FORM's CARD OF 'parallaxlaw09.VmEnds'. -/
def vmEndsUptoCard : Claim7 := { stood := { row := vmEndsUptoRow, standIns := [], harness := (true, "f43b2061a396961d450cbf9e3c14858ff886897926f3e566f73a37b3dca4831c"), looks := false }, kinds := [], alts := [], laidByText := true, laidKinds := [.data, .data], laidTests := true, laidLooks := .later }
def VmEndsUptoCardSaid : Prop := Claim7.holds Tryd.pinned (.plain (OpenSpec.upto vmEndsSpec)) vmEndsUptoCard

/-- THE SECOND FORM's CARD OF 'parallaxlaw09.VmRuns'. -/
def vmRunsUptoCard : Claim7 := { stood := { row := vmRunsUptoRow, standIns := [], harness := (true, "f43b2061a396961d450cbf9e3c14858ff886897926f3e566f73a37b3dca4831c"), looks := false }, kinds := [], alts := [], laidByText := true, laidKinds := [.data, .data], laidTests := true, laidLooks := .later }
def VmRunsUptoCardSaid : Prop := Claim7.holds Tryd.pinned (.plain (OpenSpec.upto vmRunsSpec)) vmRunsUptoCard

/-- THE SECOND FORM's CARD OF 'parallaxlaw09.VmOwn'. -/
def vmOwnUptoCard : Claim7 := { stood := { row := vmOwnUptoRow, standIns := [], harness := (true, "f43b2061a396961d450cbf9e3c14858ff886897926f3e566f73a37b3dca4831c"), looks := false }, kinds := [], alts := [], laidByText := true, laidKinds := [.data, .data], laidTests := true, laidLooks := .later }
def VmOwnUptoCardSaid : Prop := Claim7.holds Tryd.pinned (.plain (OpenSpec.upto vmOwnSpec)) vmOwnUptoCard

/-- THE SECOND FORM's CARD OF 'parallaxlaw09.VmCopies'. -/
def vmCopiesUptoCard : Claim7 := { stood := { row := vmCopiesUptoRow, standIns := [], harness := (true, "f43b2061a396961d450cbf9e3c14858ff886897926f3e566f73a37b3dca4831c"), looks := false }, kinds := [], alts := [], laidByText := true, laidKinds := [.data, .data], laidTests := true, laidLooks := .later }
def VmCopiesUptoCardSaid : Prop := Claim7.holds Tryd.pinned (.plain (OpenSpec.upto vmCopiesSpec)) vmCopiesUptoCard

/-- THE SECOND FORM's CARD OF 'parallaxlaw09.VmNil'. -/
def vmNilUptoCard : Claim7 := { stood := { row := vmNilUptoRow, standIns := [], harness := (true, "f43b2061a396961d450cbf9e3c14858ff886897926f3e566f73a37b3dca4831c"), looks := false }, kinds := [], alts := [], laidByText := true, laidKinds := [.data, .data], laidTests := true, laidLooks := .later }
def VmNilUptoCardSaid : Prop := Claim7.holds Tryd.pinned (.plain (OpenSpec.upto vmNilSpec)) vmNilUptoCard
end Rows
end Go.Proofs.YthckiolgpgplpaaDoor
