/-
  DERIVED. GIVEN WITH THE SEED: THE CARDS: each row of YtmbjogpphegoaaaDoorRows.lean that lists a variable, with what it lists TIED to the program's text (the seventh form; the later family's looks); each row that meets fmt, with fmt's text TOLD by the authors' own Lean function (tested against real Go, not proved from fmt's source: count such statements apart). THE CARD IS WHAT COUNTS. Prove the row's statement (the work); the ties are given (YtmbjogpphegoaaaDoorTie.lean); close each card by the builder's one call (the guide's Derived/Test/ToyasCard.lean, 'card_holds'). Laid BY PROGRAM, IN A SANDBOX (cutbox-door.mjs). By AI agents, Wed Nov 11 2026. No macro, syntax, notation, axiom, sorry.
-/
import Derived.Test.YtmbjogpphegoaaaDoorRows
import GoSem.ClaimSeven
namespace Go.Proofs.YtmbjogpphegoaaaDoor
namespace Rows

/-- THE TIED CARD OF 'parallaxlaw10.PeepMakes'. -/
def peepMakesCard : Claim7 := { stood := { row := peepMakesRow, standIns := [], harness := (true, "b5d74b9a2129f700c4eb77761e8b3d2b3dafcdad6581b5d85fe570427022a1f9"), looks := false }, kinds := [], alts := [], laidByText := true, laidKinds := [.data, .data], laidTests := true, laidLooks := .later }
def PeepMakesCardSaid : Prop := Claim7.holds Tryd.pinned (.plain (OpenSpec.ofChange peepMakesSpec)) peepMakesCard

/-- THE TIED CARD OF 'parallaxlaw10.PeepSound'. -/
def peepSoundCard : Claim7 := { stood := { row := peepSoundRow, standIns := [], harness := (true, "b5d74b9a2129f700c4eb77761e8b3d2b3dafcdad6581b5d85fe570427022a1f9"), looks := false }, kinds := [], alts := [], laidByText := true, laidKinds := [.data, .data], laidTests := true, laidLooks := .later }
def PeepSoundCardSaid : Prop := Claim7.holds Tryd.pinned (.plain (OpenSpec.ofChange peepSoundSpec)) peepSoundCard

/-- THE TIED CARD OF 'parallaxlaw10.PeepTwice'. -/
def peepTwiceCard : Claim7 := { stood := { row := peepTwiceRow, standIns := [], harness := (true, "b5d74b9a2129f700c4eb77761e8b3d2b3dafcdad6581b5d85fe570427022a1f9"), looks := false }, kinds := [], alts := [], laidByText := true, laidKinds := [.data, .data], laidTests := true, laidLooks := .later }
def PeepTwiceCardSaid : Prop := Claim7.holds Tryd.pinned (.plain (OpenSpec.ofChange peepTwiceSpec)) peepTwiceCard

/-- THE TIED CARD OF 'parallaxlaw10.PeepOwn'. -/
def peepOwnCard : Claim7 := { stood := { row := peepOwnRow, standIns := [], harness := (true, "b5d74b9a2129f700c4eb77761e8b3d2b3dafcdad6581b5d85fe570427022a1f9"), looks := false }, kinds := [], alts := [], laidByText := true, laidKinds := [.data, .data], laidTests := true, laidLooks := .later }
def PeepOwnCardSaid : Prop := Claim7.holds Tryd.pinned (.plain (OpenSpec.ofChange peepOwnSpec)) peepOwnCard

/-- THE TIED CARD OF 'parallaxlaw10.PeepSame'. -/
def peepSameCard : Claim7 := { stood := { row := peepSameRow, standIns := [], harness := (true, "b5d74b9a2129f700c4eb77761e8b3d2b3dafcdad6581b5d85fe570427022a1f9"), looks := false }, kinds := [], alts := [], laidByText := true, laidKinds := [.data, .data], laidTests := true, laidLooks := .later }
def PeepSameCardSaid : Prop := Claim7.holds Tryd.pinned (.plain (OpenSpec.ofChange peepSameSpec)) peepSameCard

/-- THE SECOND FORM's CARD OF 'parallaxlaw10.PeepMakes'. -/
def peepMakesUptoCard : Claim7 := { stood := { row := peepMakesUptoRow, standIns := [], harness := (true, "b5d74b9a2129f700c4eb77761e8b3d2b3dafcdad6581b5d85fe570427022a1f9"), looks := false }, kinds := [], alts := [], laidByText := true, laidKinds := [.data, .data], laidTests := true, laidLooks := .later }
def PeepMakesUptoCardSaid : Prop := Claim7.holds Tryd.pinned (.plain (OpenSpec.upto peepMakesSpec)) peepMakesUptoCard

/-- THE SECOND FORM's CARD OF 'parallaxlaw10.PeepSound'. -/
def peepSoundUptoCard : Claim7 := { stood := { row := peepSoundUptoRow, standIns := [], harness := (true, "b5d74b9a2129f700c4eb77761e8b3d2b3dafcdad6581b5d85fe570427022a1f9"), looks := false }, kinds := [], alts := [], laidByText := true, laidKinds := [.data, .data], laidTests := true, laidLooks := .later }
def PeepSoundUptoCardSaid : Prop := Claim7.holds Tryd.pinned (.plain (OpenSpec.upto peepSoundSpec)) peepSoundUptoCard

/-- THE SECOND FORM's CARD OF 'parallaxlaw10.PeepTwice'. -/
def peepTwiceUptoCard : Claim7 := { stood := { row := peepTwiceUptoRow, standIns := [], harness := (true, "b5d74b9a2129f700c4eb77761e8b3d2b3dafcdad6581b5d85fe570427022a1f9"), looks := false }, kinds := [], alts := [], laidByText := true, laidKinds := [.data, .data], laidTests := true, laidLooks := .later }
def PeepTwiceUptoCardSaid : Prop := Claim7.holds Tryd.pinned (.plain (OpenSpec.upto peepTwiceSpec)) peepTwiceUptoCard

/-- THE SECOND FORM's CARD OF 'parallaxlaw10.PeepOwn'. -/
def peepOwnUptoCard : Claim7 := { stood := { row := peepOwnUptoRow, standIns := [], harness := (true, "b5d74b9a2129f700c4eb77761e8b3d2b3dafcdad6581b5d85fe570427022a1f9"), looks := false }, kinds := [], alts := [], laidByText := true, laidKinds := [.data, .data], laidTests := true, laidLooks := .later }
def PeepOwnUptoCardSaid : Prop := Claim7.holds Tryd.pinned (.plain (OpenSpec.upto peepOwnSpec)) peepOwnUptoCard

/-- THE SECOND FORM's CARD OF 'parallaxlaw10.PeepSame'. -/
def peepSameUptoCard : Claim7 := { stood := { row := peepSameUptoRow, standIns := [], harness := (true, "b5d74b9a2129f700c4eb77761e8b3d2b3dafcdad6581b5d85fe570427022a1f9"), looks := false }, kinds := [], alts := [], laidByText := true, laidKinds := [.data, .data], laidTests := true, laidLooks := .later }
def PeepSameUptoCardSaid : Prop := Claim7.holds Tryd.pinned (.plain (OpenSpec.upto peepSameSpec)) peepSameUptoCard
end Rows
end Go.Proofs.YtmbjogpphegoaaaDoor
