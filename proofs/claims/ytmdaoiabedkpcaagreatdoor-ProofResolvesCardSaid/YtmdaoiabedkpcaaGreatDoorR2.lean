/- A part of the proof that ProofResolves holds for every input of the given program: what the run that lays the variables leaves, part 2. -/
import Derived.Test.YtmdaoiabedkpcaaGreatDoorR0
open Go
namespace Go.Im.Ti
open Go.Proofs Go.Proofs.YtmdaoiabedkpcaaGreatDoor
set_option maxRecDepth 100000
theorem r2 (os : Os) (tape : Tape) : (match runN P 125 (Machine.entering P (World.unlaid P os) tape (varsId P) ⟨#[], #[], []⟩) with | .ended (.done _) w => ((DataW.laidRun P w.memory 8 ((lst.filter fun x => x.2.handleName?.isNone).map (·.1))).bind fun x => if nodupBits 89 x.2 0 && laidRowsB P w.memory x.2 then some x.1 else none) | _ => none) = some (lst.filter fun x => x.2.handleName?.isNone) := by kernel_rfl
end Go.Im.Ti
