/- A part of the proof that ProofResolves holds for every input of the given program: Fb_unf. -/
import Derived.Test.YtmdaoiabedkpcaaGreatDoorQ41
set_option linter.unusedVariables false
set_option linter.unusedSimpArgs false
open Go
namespace Go.Im.Fa
open Go.Proofs Go.Proofs.YtmdaoiabedkpcaaGreatDoor
set_option maxRecDepth 100000
theorem unf : (c.unfollowed == P.unfollowed 3) = true := by
  unfold Program.unfollowed
  rw [clo]
  kernel_rfl
end Go.Im.Fa
