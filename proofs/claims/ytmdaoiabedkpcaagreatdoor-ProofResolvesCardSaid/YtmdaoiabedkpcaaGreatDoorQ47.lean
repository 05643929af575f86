/- A part of the proof that ProofResolves holds for every input of the given program: Ww_rest, Ww_ok, Ww_pre, Ww_sz. -/
import Derived.Handed
import Derived.LaidLaws
import Derived.Test.YtmdaoiabedkpcaaGreatDoorQ30
set_option linter.unusedVariables false
set_option linter.unusedSimpArgs false
open Go
namespace Go.Im
open Go.Proofs Go.RowKit Go.Proofs.YtmdaoiabedkpcaaGreatDoor
set_option maxRecDepth 100000
theorem w_rest (os : Os) : (((wit os).forCall (fun _ _ => 0) ⟨#[], #[.slice none 0 0, .slice none 0 0], []⟩).heap.toList.drop pg.globals.size).take ((begin pg (fun _ _ => 0) default).world.heap.size - pg.globals.size) = (begin pg (fun _ _ => 0) default).world.heap.toList.drop pg.globals.size := by kernel_rfl
end Go.Im
open Go
namespace Go.Im
open Go.Proofs Go.RowKit Go.Proofs.YtmdaoiabedkpcaaGreatDoor
set_option maxRecDepth 100000
theorem w_ok (os : Os) : Input.okWideB pg ((wit os).forCall (fun _ _ => 0) ⟨#[], #[.slice none 0 0, .slice none 0 0], []⟩) 3 ⟨#[], #[.slice none 0 0, .slice none 0 0], []⟩ = true := by kernel_rfl
end Go.Im
open Go
namespace Go.Im
open Go.Proofs Go.RowKit Go.Proofs.YtmdaoiabedkpcaaGreatDoor
set_option maxRecDepth 100000
theorem w_pre {H : Type} {enc : TypeId × Value → H} (os : Os) : Rows.proofResolvesSpec.preB enc pg Go.Proofs.Tryz.f3 [] false ((wit os).forCall (fun _ _ => 0) ⟨#[], #[.slice none 0 0, .slice none 0 0], []⟩).memory #[.slice none 0 0, .slice none 0 0] 8 = true := by kernel_rfl
end Go.Im
open Go
namespace Go.Im
open Go.Proofs Go.RowKit Go.Proofs.YtmdaoiabedkpcaaGreatDoor
set_option maxRecDepth 100000
theorem w_sz {H : Type} {enc : TypeId × Value → H} (os : Os) : Rows.proofResolvesSpec.sizedB enc pg Go.Proofs.Tryz.f3 false ((wit os).forCall (fun _ _ => 0) ⟨#[], #[.slice none 0 0, .slice none 0 0], []⟩).memory #[.slice none 0 0, .slice none 0 0] 8 = true := by kernel_rfl
end Go.Im
