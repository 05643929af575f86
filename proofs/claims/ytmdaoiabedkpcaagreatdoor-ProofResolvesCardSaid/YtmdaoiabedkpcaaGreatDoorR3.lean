/- A part of the proof that ProofResolves holds for every input of the given program: what the run that lays the variables leaves, part 3. -/
import Derived.Test.YtmdaoiabedkpcaaGreatDoorR0
open Go
namespace Go.Im.Ti
open Go.Proofs Go.Proofs.YtmdaoiabedkpcaaGreatDoor
set_option maxRecDepth 100000
theorem r3 (os : Os) (tape : Tape) : (match runN P 125 (Machine.entering P (World.unlaid P os) tape (varsId P) ⟨#[], #[], []⟩) with | .ended (.done _) w => (w.memory.heap[0]?, w.memory.heap[1]?) | _ => (none, none)) = (some (.cells ([620, 621, 622, 623, 624, 625, 626, 627, 613, 628, 629].map fun f => Value.func (.func f) #[] #[]).toArray 90 (0, 0)), some (.cells ([773, 774, 773, 775, 775, 774, 776, 774, 774, 777, 778].map fun f => Value.func (.func f) #[] #[]).toArray 258 (0, 0))) := by kernel_rfl
end Go.Im.Ti
