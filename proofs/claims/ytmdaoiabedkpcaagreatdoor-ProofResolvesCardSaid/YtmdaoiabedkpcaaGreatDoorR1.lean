/- A part of the proof that ProofResolves holds for every input of the given program: what the run that lays the variables leaves, part 1. -/
import Derived.Test.YtmdaoiabedkpcaaGreatDoorR0
open Go
namespace Go.Im.Ti
open Go.Proofs Go.Proofs.YtmdaoiabedkpcaaGreatDoor
set_option maxRecDepth 100000
theorem r1 (os : Os) (tape : Tape) : (match runN P 125 (Machine.entering P (World.unlaid P os) tape (varsId P) ⟨#[], #[], []⟩) with | .ended (.done _) _ => true | _ => false) = true := by kernel_rfl
end Go.Im.Ti
