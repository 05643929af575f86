/- A part of the proof that ProofResolves holds for every input of the given program: Fa_pk. -/
import Derived.Test.YtmdaoiabedkpcaaGreatDoorQ33
set_option linter.unusedVariables false
set_option linter.unusedSimpArgs false
open Go
namespace Go.Im.Fa
open Go.Proofs Go.Proofs.YtmdaoiabedkpcaaGreatDoor
set_option maxRecDepth 100000
theorem pk : (c.plainKeys == P.plainKeys) = true := by kernel_rfl
end Go.Im.Fa
