/- A part of the proof that ProofForms holds for every input. -/
import Derived.Test.YtphcmfmpbndkbaaGreatDoorQ40
set_option maxRecDepth 100000
set_option linter.all false
noncomputable section
namespace Go.ao.j5
section
open Go.Proofs Go.Proofs.YtphcmfmpbndkbaaGreatDoor
theorem avC:(c.unfollowed==P.unfollowed 3)=true:=by
 unfold Program.unfollowed;rw[CJ]
 kernel_rfl
end
end Go.ao.j5
