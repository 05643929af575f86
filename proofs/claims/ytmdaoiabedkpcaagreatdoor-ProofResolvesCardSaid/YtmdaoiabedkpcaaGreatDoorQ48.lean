/- A part of the proof that ProofResolves holds for every input of the given program: Said. -/
import Derived.Lay
import Derived.Test.YtmdaoiabedkpcaaGreatDoorQ32
import Derived.Test.YtmdaoiabedkpcaaGreatDoorQ33
import Derived.Test.YtmdaoiabedkpcaaGreatDoorQ34
import Derived.Test.YtmdaoiabedkpcaaGreatDoorQ35
import Derived.Test.YtmdaoiabedkpcaaGreatDoorQ36
import Derived.Test.YtmdaoiabedkpcaaGreatDoorQ37
import Derived.Test.YtmdaoiabedkpcaaGreatDoorQ38
import Derived.Test.YtmdaoiabedkpcaaGreatDoorQ39
import Derived.Test.YtmdaoiabedkpcaaGreatDoorQ40
import Derived.Test.YtmdaoiabedkpcaaGreatDoorQ42
import Derived.Test.YtmdaoiabedkpcaaGreatDoorQ43
import Derived.Test.YtmdaoiabedkpcaaGreatDoorQ44
import Derived.Test.YtmdaoiabedkpcaaGreatDoorQ45
import Derived.Test.YtmdaoiabedkpcaaGreatDoorQ46
import Derived.Test.YtmdaoiabedkpcaaGreatDoorQ47
set_option linter.unusedVariables false
set_option linter.unusedSimpArgs false
open Go
namespace Go.Im.Fa
open Go.Proofs Go.Proofs.YtmdaoiabedkpcaaGreatDoor
set_option maxRecDepth 100000
theorem laidOut : laidOutB P = true := by
  unfold laidOutB
  rw [layT, lay1, lay2]; rfl
theorem both {a b : Bool} (h : a = true) (k : b = true) : (a && b) = true := by rw [h, k]; rfl
theorem facts : joinedFacts P 3 fn s c = true :=
  both (both (both (both (both (both (both (both (both (both (both (both (both (both (both (both (both (both (both (both (both (both (both (both (both (both (both (both (both (both (both
    wf laidOut) maps) rd) tie) (by rfl)) stops) (by rfl)) knobs) inpl) unf) rec) named) mapsr) ifs) mo) lo) wk) (by rfl)) res) io) lout) pk) (by rfl)) heard) enter) lift) make) (by rfl)) pin) veil) vf
end Go.Im.Fa
namespace Go.Proofs.YtmdaoiabedkpcaaGreatDoor
open Go.Im
/-- **Resolve returns the specified results and errors.** -/
theorem proofResolves : Rows.ProofResolvesSaid :=
  OpenClaim.holds_of_wide 3 Go.Proofs.Tryz.f3 rfl rfl rfl rfl rfl rfl rfl ⟨rfl, rfl, rfl, rfl, rfl⟩ rfl rfl rfl rfl rfl Fa.fname Go.Proofs.Tryz.func3 Fa.facts
    (of_decide_eq_true (by kernel_rfl)) (by unfold Func.isWrapper; first | (rw [if_pos (by decide +kernel)]; kernel_rfl) | (rw [if_neg (by decide +kernel)]; exact ⟨rfl, rfl⟩))
    (fun os started H enc _ => lifted Fa.laidOut os started H enc (w_ok os) (World.shaped_of_ZipB (w_zip os) (w_rest os)) (w_pre os) (w_sz os))
#print axioms proofResolves
end Go.Proofs.YtmdaoiabedkpcaaGreatDoor
