/- A part of the proof that ProofResolves holds for every input of the given program: Fb_named. -/
import Derived.Test.YtmdaoiabedkpcaaGreatDoorQ41
set_option linter.unusedVariables false
set_option linter.unusedSimpArgs false
open Go
namespace Go.Im.Fa
open Go.Proofs Go.Proofs.YtmdaoiabedkpcaaGreatDoor
set_option maxRecDepth 100000
theorem named : (c.named == P.varsNamed 3) = true := by
  unfold Program.varsNamed
  rw [clo]
  kernel_rfl
end Go.Im.Fa
