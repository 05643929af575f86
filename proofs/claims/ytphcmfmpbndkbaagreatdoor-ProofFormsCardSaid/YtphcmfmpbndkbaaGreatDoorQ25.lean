/- A part of the proof that ProofForms holds for every input. -/
import Derived.Test.YtphcmfmpbndkbaaGreatDoorQ21
set_option maxRecDepth 100000
set_option linter.all false
noncomputable section
namespace Go.ao
theorem aHg:Wv.ok aeC 3000=true:=by kernel_rfl
theorem aHh:Ww.ok aeD 3000=true:=by kernel_rfl
theorem aHi:Wx.ok aeE 3000=true:=by kernel_rfl
theorem aHj:Wy.ok aeF 3000=true:=by kernel_rfl
theorem aHk:WD.ok aeK 3000=true:=by kernel_rfl
end Go.ao
