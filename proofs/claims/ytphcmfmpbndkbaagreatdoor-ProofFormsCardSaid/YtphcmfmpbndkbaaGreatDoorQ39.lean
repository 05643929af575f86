/- A part of the proof that ProofForms holds for every input. -/
import Derived.Test.YtphcmfmpbndkbaaGreatDoorQ37
set_option maxRecDepth 100000
set_option linter.all false
noncomputable section
namespace Go.ao.j5
section
open Go.Proofs Go.Proofs.YtphcmfmpbndkbaaGreatDoor
theorem enter:P.mayEnter=true:=by kernel_rfl
theorem HN:c.veiledFits P fn.params.toList (fn.params.toList++s.plain.varTypes P++fn.resultTypes.toList)=true:=by kernel_rfl
theorem az6:P.funcs.all (fun f=>f.params.all fun t=>decide (t<P.types.size))=true:=by kernel_rfl
theorem ala:P.funcNamed c.func=some 3:=by kernel_rfl
end
end Go.ao.j5
