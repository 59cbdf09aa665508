/-
  No cell of these rows narrows 'for every input' (looked for: loops, veiled, ifaces, maps, wideKeys, modest, calm, conditions, laid).
  DERIVED. THE GIVEN ROWS OF THIS SEAT. 9 by the template 'for every input the law returns true; each argument reads behind the call as it read before'; 0 by the template 'total and deterministic' (their statements: YtpkagkjldfbcfaaTotals.lean).
  GIVEN WITH THE SEED: the statements are not yours to turn. If you find one false, say at which input.
  Laid BY PROGRAM, IN A SANDBOX (cutbox-rows.mjs): the forced cells as the released guide's own fill.sh prints them over the translation 9a659ea1933c0d76… (all of the seat's roots in one cut). By AI agents, Wed Nov 11 2026. No macro, syntax, notation, axiom, sorry.
-/
import Derived.Test.YtpkagkjldfbcfaaChecked
import GoSem.Claim
import GoSem.ClaimJoined
import GoSem.ClaimMapViews
import Derived.JoinedTies
import Derived.KernelRfl
namespace Go.Proofs.Ytpkagkjldfbcfaa
/- THE CELL 'sum', in the pinned program and in every row, IS THE sha256 OF THE DUMP (.gsa) THAT YtpkagkjldfbcfaaProg.lean LOADS. Nothing in Lean hashes anything: it is a label: what it is worth is what the hold of that sum in a sandbox is worth. -/
noncomputable def Try.pinned : Pinned := { name := "ytpkagkjldfbcfaa", sum := "9a659ea1933c0d7642dea5e738e154e6025bf09ef6ae2b5a213bf6739c61f01f", checked := Try.checked }
namespace Rows
def none {H : Type} : Left H := { results := [], args := [] }

/-- 'parallaxlaw01.NumProducts': WHATEVER THE INPUT: true; the input reads as it did. -/
def numProductsSpec : ChangeSpec := { name := "numProducts", fn := fun _ => fun
  | [d1, d2] => { results := [.lit (.bool true)], args := [d1, d2] }
  | _ => none }
def numProductsRow : OpenClaim := { program := "ytpkagkjldfbcfaa", sum := "9a659ea1933c0d7642dea5e738e154e6025bf09ef6ae2b5a213bf6739c61f01f", func := "parallax/parallaxlaw01.NumProducts", spec := "numProducts", apart := false }
def NumProductsSaid : Prop := numProductsRow.holds Try.pinned (OpenSpec.ofChange numProductsSpec)

/-- ITS FALSE NEIGHBOUR: 'it returns false'. Refute it at one input. -/
def numProductsWrong : ChangeSpec := { name := "numProducts", fn := fun _ => fun
  | [d1, d2] => { results := [.lit (.bool false)], args := [d1, d2] }
  | _ => none }
def NumProductsWrongFalsely : Prop := numProductsRow.holds Try.pinned (OpenSpec.ofChange numProductsWrong)

/-- 'parallaxlaw01.NumParts': WHATEVER THE INPUT: true; the input reads as it did. -/
def numPartsSpec : ChangeSpec := { name := "numParts", fn := fun _ => fun
  | [d1, d2] => { results := [.lit (.bool true)], args := [d1, d2] }
  | _ => none }
def numPartsRow : OpenClaim := { program := "ytpkagkjldfbcfaa", sum := "9a659ea1933c0d7642dea5e738e154e6025bf09ef6ae2b5a213bf6739c61f01f", func := "parallax/parallaxlaw01.NumParts", spec := "numParts", apart := false }
def NumPartsSaid : Prop := numPartsRow.holds Try.pinned (OpenSpec.ofChange numPartsSpec)

/-- ITS FALSE NEIGHBOUR: 'it returns false'. Refute it at one input. -/
def numPartsWrong : ChangeSpec := { name := "numParts", fn := fun _ => fun
  | [d1, d2] => { results := [.lit (.bool false)], args := [d1, d2] }
  | _ => none }
def NumPartsWrongFalsely : Prop := numPartsRow.holds Try.pinned (OpenSpec.ofChange numPartsWrong)

/-- 'parallaxlaw01.NumTexts': WHATEVER THE INPUT: true; the input reads as it did. -/
def numTextsSpec : ChangeSpec := { name := "numTexts", fn := fun _ => fun
  | [d1, d2] => { results := [.lit (.bool true)], args := [d1, d2] }
  | _ => none }
def numTextsRow : OpenClaim := { program := "ytpkagkjldfbcfaa", sum := "9a659ea1933c0d7642dea5e738e154e6025bf09ef6ae2b5a213bf6739c61f01f", func := "parallax/parallaxlaw01.NumTexts", spec := "numTexts", apart := false }
def NumTextsSaid : Prop := numTextsRow.holds Try.pinned (OpenSpec.ofChange numTextsSpec)

/-- ITS FALSE NEIGHBOUR: 'it returns false'. Refute it at one input. -/
def numTextsWrong : ChangeSpec := { name := "numTexts", fn := fun _ => fun
  | [d1, d2] => { results := [.lit (.bool false)], args := [d1, d2] }
  | _ => none }
def NumTextsWrongFalsely : Prop := numTextsRow.holds Try.pinned (OpenSpec.ofChange numTextsWrong)

/-- 'parallaxlaw01.NumTextBack': WHATEVER THE INPUT: true; the input reads as it did. -/
def numTextBackSpec : ChangeSpec := { name := "numTextBack", fn := fun _ => fun
  | [d1, d2] => { results := [.lit (.bool true)], args := [d1, d2] }
  | _ => none }
def numTextBackRow : OpenClaim := { program := "ytpkagkjldfbcfaa", sum := "9a659ea1933c0d7642dea5e738e154e6025bf09ef6ae2b5a213bf6739c61f01f", func := "parallax/parallaxlaw01.NumTextBack", spec := "numTextBack", apart := false }
def NumTextBackSaid : Prop := numTextBackRow.holds Try.pinned (OpenSpec.ofChange numTextBackSpec)

/-- ITS FALSE NEIGHBOUR: 'it returns false'. Refute it at one input. -/
def numTextBackWrong : ChangeSpec := { name := "numTextBack", fn := fun _ => fun
  | [d1, d2] => { results := [.lit (.bool false)], args := [d1, d2] }
  | _ => none }
def NumTextBackWrongFalsely : Prop := numTextBackRow.holds Try.pinned (OpenSpec.ofChange numTextBackWrong)

/-- 'parallaxlaw01.NumBack': WHATEVER THE INPUT: true; the input reads as it did. -/
def numBackSpec : ChangeSpec := { name := "numBack", fn := fun _ => fun
  | [d1, d2] => { results := [.lit (.bool true)], args := [d1, d2] }
  | _ => none }
def numBackRow : OpenClaim := { program := "ytpkagkjldfbcfaa", sum := "9a659ea1933c0d7642dea5e738e154e6025bf09ef6ae2b5a213bf6739c61f01f", func := "parallax/parallaxlaw01.NumBack", spec := "numBack", apart := false }
def NumBackSaid : Prop := numBackRow.holds Try.pinned (OpenSpec.ofChange numBackSpec)

/-- ITS FALSE NEIGHBOUR: 'it returns false'. Refute it at one input. -/
def numBackWrong : ChangeSpec := { name := "numBack", fn := fun _ => fun
  | [d1, d2] => { results := [.lit (.bool false)], args := [d1, d2] }
  | _ => none }
def NumBackWrongFalsely : Prop := numBackRow.holds Try.pinned (OpenSpec.ofChange numBackWrong)

/-- 'parallaxlaw01.NumSums': WHATEVER THE INPUT: true; the input reads as it did. -/
def numSumsSpec : ChangeSpec := { name := "numSums", fn := fun _ => fun
  | [d1, d2] => { results := [.lit (.bool true)], args := [d1, d2] }
  | _ => none }
def numSumsRow : OpenClaim := { program := "ytpkagkjldfbcfaa", sum := "9a659ea1933c0d7642dea5e738e154e6025bf09ef6ae2b5a213bf6739c61f01f", func := "parallax/parallaxlaw01.NumSums", spec := "numSums", apart := false }
def NumSumsSaid : Prop := numSumsRow.holds Try.pinned (OpenSpec.ofChange numSumsSpec)

/-- ITS FALSE NEIGHBOUR: 'it returns false'. Refute it at one input. -/
def numSumsWrong : ChangeSpec := { name := "numSums", fn := fun _ => fun
  | [d1, d2] => { results := [.lit (.bool false)], args := [d1, d2] }
  | _ => none }
def NumSumsWrongFalsely : Prop := numSumsRow.holds Try.pinned (OpenSpec.ofChange numSumsWrong)

/-- 'parallaxlaw01.NumRing': WHATEVER THE INPUT: true; the input reads as it did. -/
def numRingSpec : ChangeSpec := { name := "numRing", fn := fun _ => fun
  | [d1, d2, d3] => { results := [.lit (.bool true)], args := [d1, d2, d3] }
  | _ => none }
def numRingRow : OpenClaim := { program := "ytpkagkjldfbcfaa", sum := "9a659ea1933c0d7642dea5e738e154e6025bf09ef6ae2b5a213bf6739c61f01f", func := "parallax/parallaxlaw01.NumRing", spec := "numRing", apart := false }
def NumRingSaid : Prop := numRingRow.holds Try.pinned (OpenSpec.ofChange numRingSpec)

/-- ITS FALSE NEIGHBOUR: 'it returns false'. Refute it at one input. -/
def numRingWrong : ChangeSpec := { name := "numRing", fn := fun _ => fun
  | [d1, d2, d3] => { results := [.lit (.bool false)], args := [d1, d2, d3] }
  | _ => none }
def NumRingWrongFalsely : Prop := numRingRow.holds Try.pinned (OpenSpec.ofChange numRingWrong)

/-- 'parallaxlaw01.NumWords': WHATEVER THE INPUT: true; the input reads as it did. -/
def numWordsSpec : ChangeSpec := { name := "numWords", fn := fun _ => fun
  | [d1, d2] => { results := [.lit (.bool true)], args := [d1, d2] }
  | _ => none }
def numWordsRow : OpenClaim := { program := "ytpkagkjldfbcfaa", sum := "9a659ea1933c0d7642dea5e738e154e6025bf09ef6ae2b5a213bf6739c61f01f", func := "parallax/parallaxlaw01.NumWords", spec := "numWords", apart := false }
def NumWordsSaid : Prop := numWordsRow.holds Try.pinned (OpenSpec.ofChange numWordsSpec)

/-- ITS FALSE NEIGHBOUR: 'it returns false'. Refute it at one input. -/
def numWordsWrong : ChangeSpec := { name := "numWords", fn := fun _ => fun
  | [d1, d2] => { results := [.lit (.bool false)], args := [d1, d2] }
  | _ => none }
def NumWordsWrongFalsely : Prop := numWordsRow.holds Try.pinned (OpenSpec.ofChange numWordsWrong)

/-- 'parallaxlaw01.NumJoined': WHATEVER THE INPUT: true; the input reads as it did. -/
def numJoinedSpec : ChangeSpec := { name := "numJoined", fn := fun _ => fun
  | [d1, d2] => { results := [.lit (.bool true)], args := [d1, d2] }
  | _ => none }
def numJoinedRow : OpenClaim := { program := "ytpkagkjldfbcfaa", sum := "9a659ea1933c0d7642dea5e738e154e6025bf09ef6ae2b5a213bf6739c61f01f", func := "parallax/parallaxlaw01.NumJoined", spec := "numJoined", apart := false }
def NumJoinedSaid : Prop := numJoinedRow.holds Try.pinned (OpenSpec.ofChange numJoinedSpec)

/-- ITS FALSE NEIGHBOUR: 'it returns false'. Refute it at one input. -/
def numJoinedWrong : ChangeSpec := { name := "numJoined", fn := fun _ => fun
  | [d1, d2] => { results := [.lit (.bool false)], args := [d1, d2] }
  | _ => none }
def NumJoinedWrongFalsely : Prop := numJoinedRow.holds Try.pinned (OpenSpec.ofChange numJoinedWrong)

/- THE SECOND FORM. 'bulk': how many values and letters a reading holds, each counted each time it is reached (what is shared counts as often as it is met; a slice's spare places count too). A statement '..UptoSaid' is the law's where the arguments, and the package variables that the reading takes, are together of bulk at most 1048576: NARROWER than '..Said'. Prove '..Said' where nothing that the law and all that it calls make is longer than what came in: it says more and counts as full. Else prove '..UptoSaid'. A law counts once. -/
mutual
def uptoBulk {H : Type} : DataW H → Nat
  | .lit (.string bytes) => bytes.length + 1
  | .lit _ => 1
  | .nil => 1
  | .ptr d => uptoBulk d + 1
  | .slice elems spare => uptoBulkAll elems + uptoBulkAll spare + 1
  | .agg parts => uptoBulkAll parts + 1
  | .iface _ d => uptoBulk d + 1
  | .map entries => uptoBulkEntries entries + 1
  | .held _ => 1
def uptoBulkAll {H : Type} : List (DataW H) → Nat
  | [] => 0
  | d :: r => uptoBulk d + uptoBulkAll r
def uptoBulkEntries {H : Type} : List (Lit × DataW H) → Nat
  | [] => 0
  | x :: r => uptoBulkEntry x + uptoBulkEntries r
def uptoBulkEntry {H : Type} : Lit × DataW H → Nat
  | (.string bytes, d) => bytes.length + uptoBulk d + 1
  | (_, d) => uptoBulk d + 1
 end
def uptoSmall : (H : Type) → List (DataW H) → Bool := fun _ ds => decide (uptoBulkAll ds ≤ 1048576)
def OpenSpec.upto (s : _root_.Go.ChangeSpec) : _root_.Go.OpenSpec := { _root_.Go.OpenSpec.ofChange s with cond := some uptoSmall }

/-- 'parallaxlaw01.NumProducts', WHERE WHAT IT READS IS OF BULK AT MOST 1048576: true; the input reads as it did. -/
def numProductsUptoRow : OpenClaim := { program := "ytpkagkjldfbcfaa", sum := "9a659ea1933c0d7642dea5e738e154e6025bf09ef6ae2b5a213bf6739c61f01f", func := "parallax/parallaxlaw01.NumProducts", spec := "numProducts", apart := false, narrowed := true }
def NumProductsUptoSaid : Prop := numProductsUptoRow.holds Try.pinned (OpenSpec.upto numProductsSpec)

/-- 'parallaxlaw01.NumParts', WHERE WHAT IT READS IS OF BULK AT MOST 1048576: true; the input reads as it did. -/
def numPartsUptoRow : OpenClaim := { program := "ytpkagkjldfbcfaa", sum := "9a659ea1933c0d7642dea5e738e154e6025bf09ef6ae2b5a213bf6739c61f01f", func := "parallax/parallaxlaw01.NumParts", spec := "numParts", apart := false, narrowed := true }
def NumPartsUptoSaid : Prop := numPartsUptoRow.holds Try.pinned (OpenSpec.upto numPartsSpec)

/-- 'parallaxlaw01.NumTexts', WHERE WHAT IT READS IS OF BULK AT MOST 1048576: true; the input reads as it did. -/
def numTextsUptoRow : OpenClaim := { program := "ytpkagkjldfbcfaa", sum := "9a659ea1933c0d7642dea5e738e154e6025bf09ef6ae2b5a213bf6739c61f01f", func := "parallax/parallaxlaw01.NumTexts", spec := "numTexts", apart := false, narrowed := true }
def NumTextsUptoSaid : Prop := numTextsUptoRow.holds Try.pinned (OpenSpec.upto numTextsSpec)

/-- 'parallaxlaw01.NumTextBack', WHERE WHAT IT READS IS OF BULK AT MOST 1048576: true; the input reads as it did. -/
def numTextBackUptoRow : OpenClaim := { program := "ytpkagkjldfbcfaa", sum := "9a659ea1933c0d7642dea5e738e154e6025bf09ef6ae2b5a213bf6739c61f01f", func := "parallax/parallaxlaw01.NumTextBack", spec := "numTextBack", apart := false, narrowed := true }
def NumTextBackUptoSaid : Prop := numTextBackUptoRow.holds Try.pinned (OpenSpec.upto numTextBackSpec)

/-- 'parallaxlaw01.NumBack', WHERE WHAT IT READS IS OF BULK AT MOST 1048576: true; the input reads as it did. -/
def numBackUptoRow : OpenClaim := { program := "ytpkagkjldfbcfaa", sum := "9a659ea1933c0d7642dea5e738e154e6025bf09ef6ae2b5a213bf6739c61f01f", func := "parallax/parallaxlaw01.NumBack", spec := "numBack", apart := false, narrowed := true }
def NumBackUptoSaid : Prop := numBackUptoRow.holds Try.pinned (OpenSpec.upto numBackSpec)

/-- 'parallaxlaw01.NumSums', WHERE WHAT IT READS IS OF BULK AT MOST 1048576: true; the input reads as it did. -/
def numSumsUptoRow : OpenClaim := { program := "ytpkagkjldfbcfaa", sum := "9a659ea1933c0d7642dea5e738e154e6025bf09ef6ae2b5a213bf6739c61f01f", func := "parallax/parallaxlaw01.NumSums", spec := "numSums", apart := false, narrowed := true }
def NumSumsUptoSaid : Prop := numSumsUptoRow.holds Try.pinned (OpenSpec.upto numSumsSpec)

/-- 'parallaxlaw01.NumRing', WHERE WHAT IT READS IS OF BULK AT MOST 1048576: true; the input reads as it did. -/
def numRingUptoRow : OpenClaim := { program := "ytpkagkjldfbcfaa", sum := "9a659ea1933c0d7642dea5e738e154e6025bf09ef6ae2b5a213bf6739c61f01f", func := "parallax/parallaxlaw01.NumRing", spec := "numRing", apart := false, narrowed := true }
def NumRingUptoSaid : Prop := numRingUptoRow.holds Try.pinned (OpenSpec.upto numRingSpec)

/-- 'parallaxlaw01.NumWords', WHERE WHAT IT READS IS OF BULK AT MOST 1048576: true; the input reads as it did. -/
def numWordsUptoRow : OpenClaim := { program := "ytpkagkjldfbcfaa", sum := "9a659ea1933c0d7642dea5e738e154e6025bf09ef6ae2b5a213bf6739c61f01f", func := "parallax/parallaxlaw01.NumWords", spec := "numWords", apart := false, narrowed := true }
def NumWordsUptoSaid : Prop := numWordsUptoRow.holds Try.pinned (OpenSpec.upto numWordsSpec)

/-- 'parallaxlaw01.NumJoined', WHERE WHAT IT READS IS OF BULK AT MOST 1048576: true; the input reads as it did. -/
def numJoinedUptoRow : OpenClaim := { program := "ytpkagkjldfbcfaa", sum := "9a659ea1933c0d7642dea5e738e154e6025bf09ef6ae2b5a213bf6739c61f01f", func := "parallax/parallaxlaw01.NumJoined", spec := "numJoined", apart := false, narrowed := true }
def NumJoinedUptoSaid : Prop := numJoinedUptoRow.holds Try.pinned (OpenSpec.upto numJoinedSpec)

end Rows
end Go.Proofs.Ytpkagkjldfbcfaa
