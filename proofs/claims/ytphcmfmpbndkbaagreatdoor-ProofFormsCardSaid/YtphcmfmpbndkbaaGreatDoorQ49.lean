/- A part of the proof that ProofForms holds for every input. -/
import Derived.Test.YtphcmfmpbndkbaaGreatDoorQ48
set_option maxRecDepth 100000
set_option linter.all false
noncomputable section
namespace Go.ao.ml
section
open Go.Proofs Go.Proofs.YtphcmfmpbndkbaaGreatDoor
theorem je(os:Os)(tape:Tape):(match runN P 125 (Machine.entering P (World.unlaid P os) tape (varsId P) ⟨#[],#[],[]⟩)with|.ended (.done _) _=>true|_=>false)=true:=by kernel_rfl
end
end Go.ao.ml
