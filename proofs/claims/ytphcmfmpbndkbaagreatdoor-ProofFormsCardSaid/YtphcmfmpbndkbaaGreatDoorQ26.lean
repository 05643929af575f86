/- A part of the proof that ProofForms holds for every input. -/
import Derived.Test.YtphcmfmpbndkbaaGreatDoorQ21
set_option maxRecDepth 100000
set_option linter.all false
noncomputable section
namespace Go.ao
theorem aHl:Wz.ok aeG 3000=true:=by kernel_rfl
theorem aHm:WA.ok aeH 3000=true:=by kernel_rfl
theorem aHn:WB.ok aeI 3000=true:=by kernel_rfl
theorem aHo:WC.ok aeJ 3000=true:=by kernel_rfl
theorem aHp:WH.ok aeN 3000=true:=by kernel_rfl
end Go.ao
