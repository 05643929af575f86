/-
  DERIVED. GIVEN WITH THE SEED: THE CARDS: each row of YtmdaoiabedkpcaaGreatDoorRows.lean that lists a variable, with what it lists TIED to the program's text (the seventh form; the later family's looks); each row that meets fmt, with fmt's text TOLD by the authors' own Lean function (tested against real Go, not proved from fmt's source: count such statements apart). THE CARD IS WHAT COUNTS. Prove the row's statement (the work); the ties are given (YtmdaoiabedkpcaaGreatDoorTie.lean); close each card by the builder's one call (the guide's Derived/Test/ToyasCard.lean, 'card_holds'). Laid BY PROGRAM, IN A SANDBOX (cutbox-door.mjs). By AI agents, Wed Nov 11 2026. No macro, syntax, notation, axiom, sorry.
-/
import Derived.Test.YtmdaoiabedkpcaaGreatDoorRows
import GoSem.ClaimSeven
namespace Go.Proofs.YtmdaoiabedkpcaaGreatDoor
namespace Rows

/-- THE TIED CARD OF 'entaillaw25.ProofResolves'. -/
def proofResolvesCard : Claim7 := { stood := { row := proofResolvesRow, standIns := [], harness := (true, "98dded0d3b6652e655a9ac0039b78adba8dcb8c6fd0c89455c28b20aa1896d60"), looks := true }, kinds := [], alts := [], laidByText := true, laidKinds := [.data, .data, .data, .data, .sentinel, .sentinel, .widerDeep, .data, .funcs, .funcs, .pinned], laidTests := true, laidLooks := .later }
def ProofResolvesCardSaid : Prop := Claim7.holds Tryz.pinned (.plain (OpenSpec.ofChange proofResolvesSpec)) proofResolvesCard

/-- THE SECOND FORM's CARD OF 'entaillaw25.ProofResolves'. -/
def proofResolvesUptoCard : Claim7 := { stood := { row := proofResolvesUptoRow, standIns := [], harness := (true, "98dded0d3b6652e655a9ac0039b78adba8dcb8c6fd0c89455c28b20aa1896d60"), looks := true }, kinds := [], alts := [], laidByText := true, laidKinds := [.data, .data, .data, .data, .sentinel, .sentinel, .widerDeep, .data, .funcs, .funcs, .pinned], laidTests := true, laidLooks := .later }
def ProofResolvesUptoCardSaid : Prop := Claim7.holds Tryz.pinned (.plain (OpenSpec.upto proofResolvesSpec)) proofResolvesUptoCard
end Rows
end Go.Proofs.YtmdaoiabedkpcaaGreatDoor
