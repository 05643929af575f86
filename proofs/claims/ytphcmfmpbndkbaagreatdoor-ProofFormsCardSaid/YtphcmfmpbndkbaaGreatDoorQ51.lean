/- A part of the proof that ProofForms holds for every input. -/
import Derived.Test.YtphcmfmpbndkbaaGreatDoorQ48
set_option maxRecDepth 100000
set_option linter.all false
noncomputable section
namespace Go.ao.ml
section
open Go.Proofs Go.Proofs.YtphcmfmpbndkbaaGreatDoor
theorem e3(os:Os)(tape:Tape):(match runN P 125 (Machine.entering P (World.unlaid P os) tape (varsId P) ⟨#[],#[],[]⟩)with|.ended (.done _) w=>(w.memory.heap[0]?,w.memory.heap[1]?)|_=>(none,none))=(some (.cells ([642,643,644,645,646,647,648,649,635,650,651].map fun f=>Value.func (.func f) #[] #[]).toArray 106 (0,0)),some (.cells ([795,796,795,797,797,796,798,796,796,799,800].map fun f=>Value.func (.func f) #[] #[]).toArray 167 (0,0))):=by kernel_rfl
end
end Go.ao.ml
