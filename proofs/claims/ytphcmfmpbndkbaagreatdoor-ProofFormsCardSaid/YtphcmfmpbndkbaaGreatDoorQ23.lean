/- A part of the proof that ProofForms holds for every input. -/
import Derived.Test.YtphcmfmpbndkbaaGreatDoorQ21
set_option maxRecDepth 100000
set_option linter.all false
noncomputable section
namespace Go.ao
theorem aEP:UL.ok aap 3000=true:=by kernel_rfl
theorem aEQ:UM.ok aaq 3000=true:=by kernel_rfl
theorem aER:UN.ok aar 3000=true:=by kernel_rfl
theorem aES:UO.ok aas 3000=true:=by kernel_rfl
theorem aET:UP.ok aat 3000=true:=by kernel_rfl
end Go.ao
