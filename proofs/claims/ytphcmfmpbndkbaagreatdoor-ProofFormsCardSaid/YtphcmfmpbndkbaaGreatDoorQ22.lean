/- A part of the proof that ProofForms holds for every input. -/
import Derived.Test.YtphcmfmpbndkbaaGreatDoorQ21
set_option maxRecDepth 100000
set_option linter.all false
noncomputable section
namespace Go.ao
theorem aEM:UI.ok aam 3000=true:=by kernel_rfl
theorem aEN:UJ.ok aan 3000=true:=by kernel_rfl
theorem aEO:UK.ok aao 3000=true:=by kernel_rfl
end Go.ao
