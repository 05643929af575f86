/- A part of the proof that ProofForms holds for every input. -/
import Derived.Test.YtphcmfmpbndkbaaGreatDoorQ48
set_option maxRecDepth 100000
set_option linter.all false
noncomputable section
namespace Go.ao.ml
section
open Go.Proofs Go.Proofs.YtphcmfmpbndkbaaGreatDoor
theorem dX(os:Os)(tape:Tape):(match runN P 125 (Machine.entering P (World.unlaid P os) tape (varsId P) ⟨#[],#[],[]⟩)with|.ended (.done _) w=>((DataW.laidRun P w.memory 8 ((A6.filter fun x=>x.2.handleName?.isNone).map (·.1))).bind fun x=>if nodupBits 89 x.2 0&&laidRowsB P w.memory x.2 then some x.1 else none)|_=>none)=some (A6.filter fun x=>x.2.handleName?.isNone):=by kernel_rfl
end
end Go.ao.ml
