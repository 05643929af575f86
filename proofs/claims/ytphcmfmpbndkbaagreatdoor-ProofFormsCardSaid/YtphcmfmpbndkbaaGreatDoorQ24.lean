/- A part of the proof that ProofForms holds for every input. -/
import Derived.Test.YtphcmfmpbndkbaaGreatDoorQ21
set_option maxRecDepth 100000
set_option linter.all false
noncomputable section
namespace Go.ao
theorem aEU:UQ.ok aau 3000=true:=by kernel_rfl
theorem aEV:UR.ok aav 3000=true:=by kernel_rfl
theorem aHf:Wu.ok aeB 3000=true:=by kernel_rfl
end Go.ao
