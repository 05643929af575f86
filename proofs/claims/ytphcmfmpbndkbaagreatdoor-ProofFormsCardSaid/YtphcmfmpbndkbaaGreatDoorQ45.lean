/- A part of the proof that ProofForms holds for every input. -/
import Derived.Handed
import Derived.LaidLaws
import Derived.Test.YtphcmfmpbndkbaaGreatDoorQ34
set_option maxRecDepth 100000
set_option linter.all false
noncomputable section
namespace Go.ao
section
open Go.Proofs Go.RowKit Go.Proofs.YtphcmfmpbndkbaaGreatDoor
theorem aCM(os:Os):World.variablesZipB a4 ((q5 os).forCall (fun _ _=>0) ⟨#[],#[.agg #[.slice none 0 0,.slice none 0 0],.int .i64 0],[]⟩)=true:=by kernel_rfl
end
end Go.ao
