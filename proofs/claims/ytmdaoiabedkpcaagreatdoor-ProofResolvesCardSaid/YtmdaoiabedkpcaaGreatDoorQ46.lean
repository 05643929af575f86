/- A part of the proof that ProofResolves holds for every input of the given program: Ww_zip. -/
import Derived.Handed
import Derived.LaidLaws
import Derived.Test.YtmdaoiabedkpcaaGreatDoorQ30
set_option linter.unusedVariables false
set_option linter.unusedSimpArgs false
open Go
namespace Go.Im
open Go.Proofs Go.RowKit Go.Proofs.YtmdaoiabedkpcaaGreatDoor
set_option maxRecDepth 100000
theorem w_zip (os : Os) : World.variablesZipB pg ((wit os).forCall (fun _ _ => 0) ⟨#[], #[.slice none 0 0, .slice none 0 0], []⟩) = true := by kernel_rfl
end Go.Im
