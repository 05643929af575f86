/- A part of the proof that ProofForms holds for every input. -/
import Derived.Test.YtphcmfmpbndkbaaGreatDoorQ21
set_option maxRecDepth 100000
set_option linter.all false
noncomputable section
namespace Go.ao
theorem aHq:WE.ok aeL 3000=true:=by kernel_rfl
theorem aHr:WG.ok aeM 3000=true:=by kernel_rfl
end Go.ao
