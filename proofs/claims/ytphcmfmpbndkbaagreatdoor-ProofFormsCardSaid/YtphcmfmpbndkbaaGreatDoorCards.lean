/-
  DERIVED. GIVEN WITH THE SEED: THE CARDS: each row of YtphcmfmpbndkbaaGreatDoorRows.lean that lists a variable, with what it lists TIED to the program's text (the seventh form; the later family's looks); each row that meets fmt, with fmt's text TOLD by the authors' own Lean function (tested against real Go, not proved from fmt's source: count such statements apart). THE CARD IS WHAT COUNTS. Prove the row's statement (the work); the ties are given (YtphcmfmpbndkbaaGreatDoorTie.lean); close each card by the builder's one call (the guide's Derived/Test/ToyasCard.lean, 'card_holds'). Laid BY PROGRAM, IN A SANDBOX (cutbox-door.mjs). By AI agents, Wed Nov 11 2026. No macro, syntax, notation, axiom, sorry.
-/
import Derived.Test.YtphcmfmpbndkbaaGreatDoorRows
import GoSem.ClaimSeven
namespace Go.Proofs.YtphcmfmpbndkbaaGreatDoor
namespace Rows

/-- THE TIED CARD OF 'entaillaw25.ProofForms'. -/
def proofFormsCard : Claim7 := { stood := { row := proofFormsRow, standIns := [], harness := (true, "5326f0c03071266b457368ac6617848b44afe4ea3df6c54311b9f3535e1ac756"), looks := true }, kinds := [], alts := [], laidByText := true, laidKinds := [.data, .data, .data, .data, .sentinel, .sentinel, .widerDeep, .data, .funcs, .funcs, .pinned], laidTests := true, laidLooks := .later }
def ProofFormsCardSaid : Prop := Claim7.holds Tryz.pinned (.plain (OpenSpec.ofChange proofFormsSpec)) proofFormsCard

/-- THE SECOND FORM's CARD OF 'entaillaw25.ProofForms'. -/
def proofFormsUptoCard : Claim7 := { stood := { row := proofFormsUptoRow, standIns := [], harness := (true, "5326f0c03071266b457368ac6617848b44afe4ea3df6c54311b9f3535e1ac756"), looks := true }, kinds := [], alts := [], laidByText := true, laidKinds := [.data, .data, .data, .data, .sentinel, .sentinel, .widerDeep, .data, .funcs, .funcs, .pinned], laidTests := true, laidLooks := .later }
def ProofFormsUptoCardSaid : Prop := Claim7.holds Tryz.pinned (.plain (OpenSpec.upto proofFormsSpec)) proofFormsUptoCard
end Rows
end Go.Proofs.YtphcmfmpbndkbaaGreatDoor
