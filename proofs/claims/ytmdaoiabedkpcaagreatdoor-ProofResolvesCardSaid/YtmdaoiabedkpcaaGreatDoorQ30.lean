/- A part of the proof that ProofResolves holds for every input of the given program: Wit. -/
import Derived.Lay
import Derived.Test.YtmdaoiabedkpcaaGreatDoorQ28
set_option linter.unusedVariables false
set_option linter.unusedSimpArgs false
open Go
namespace Go.Im
open Go.Proofs Go.RowKit Go.Proofs.YtmdaoiabedkpcaaGreatDoor
set_option maxRecDepth 100000
noncomputable abbrev dataL : List (String × DataW Unit) := laid.filter fun x => x.2.handleName?.isNone
noncomputable def wit0 (os : Os) : World := let w := World.holding pg os ⟨#[], #[], []⟩; { w with heap := (w.heap.set! 0 (.cells (F0.map fun f => Value.func (.func f) #[] #[]).toArray 90)).set! 1 (.cells (F1.map fun f => Value.func (.func f) #[] #[]).toArray 258) }
noncomputable def wit (os : Os) : World := (wit0 os).layVars pg dataL
theorem wit_fits (os : Os) : (wit0 os).layFits pg dataL [] = true := by kernel_rfl
theorem wit_ifaces (os : Os) : (wit0 os).layIfaces pg dataL (wit os) = true := by kernel_rfl
theorem wit_data (os : Os) (args : Array Value) : laidMet pg dataL ((wit os).forCall (fun _ _ => 0) ⟨#[], args, []⟩).memory := by
  have e1 : (dataL.filter fun x => (dataL.map (·.1)).contains x.1) = dataL := List.filter_eq_self.2 fun x hx => List.contains_iff_mem.2 (List.mem_map.2 ⟨x, hx, rfl⟩)
  have e2 : (dataL.filter fun x => !(dataL.map (·.1)).contains x.1) = [] := List.filter_eq_nil_iff.2 fun x hx => by rw [List.contains_iff_mem.2 (List.mem_map.2 ⟨x, hx, rfl⟩)]; simp
  have h : laidMet pg dataL (wit os) := laidMet_layVars (w0 := wit0 os) (dataL.map (·.1)) [] (by rw [e1]; rfl) (by rw [e1]; exact wit_fits os) (by rw [e1]; exact wit_ifaces os) (by rw [e2]; exact LaidIn.none)
  exact h.of_heap (by simp [World.memory, World.forCall, Input.heap])
end Go.Im
