/- A part of the proof that ProofForms holds for every input. -/
import Derived.Test.YtphcmfmpbndkbaaGreatDoorQ21
set_option maxRecDepth 100000
set_option linter.all false
noncomputable section
namespace Go.ao
theorem aHx:WN.ok aeT 3000=true:=by kernel_rfl
theorem aHy:WO.ok aeU 3000=true:=by kernel_rfl
theorem aHz:WQ.ok aeV 3000=true:=by kernel_rfl
theorem aHA:WR.ok aeW 3000=true:=by kernel_rfl
theorem aHB:WS.ok aeX 3000=true:=by kernel_rfl
theorem aHC:WT.ok aeY 3000=true:=by kernel_rfl
theorem aHD:akk.ok aeZ 3000=true:=by kernel_rfl
end Go.ao
