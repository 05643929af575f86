/- A part of the proof that ProofForms holds for every input. -/
import Derived.Test.YtphcmfmpbndkbaaGreatDoorQ21
set_option maxRecDepth 100000
set_option linter.all false
noncomputable section
namespace Go.ao
theorem aHs:WI.ok aeO 3000=true:=by kernel_rfl
theorem aHt:WJ.ok aeP 3000=true:=by kernel_rfl
theorem aHu:WK.ok aeQ 3000=true:=by kernel_rfl
theorem aHv:WL.ok aeR 3000=true:=by kernel_rfl
theorem aHw:WM.ok aeS 3000=true:=by kernel_rfl
end Go.ao
