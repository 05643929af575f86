/- A part of the proof that ProofResolves holds for every input of the given program: Fbase. -/
import Derived.Test.YtmdaoiabedkpcaaGreatDoorRows
import Derived.JoinedOf
import Derived.ProofKit
set_option linter.unusedVariables false
set_option linter.unusedSimpArgs false
open Go
namespace Go.Im.Fa
open Go.Proofs Go.Proofs.YtmdaoiabedkpcaaGreatDoor
set_option maxRecDepth 100000
noncomputable abbrev P : Program := Go.Proofs.Tryz.prog
noncomputable abbrev c : OpenClaim := Rows.proofResolvesRow
noncomputable abbrev s : ChangeSpec := Rows.proofResolvesSpec
noncomputable abbrev fn : Func := Go.Proofs.Tryz.f3
theorem wf : c.wf (OpenSpec.ofChange s) = true := by kernel_rfl
theorem rd : fn.params.all (P.readableRec ·) = true := by kernel_rfl
theorem tie : namedTie P c.named s.vars = true := by kernel_rfl
theorem stops : (P.stops == []) = true := by kernel_rfl
theorem knobs : (P.stopKnobs == []) = true := by kernel_rfl
theorem mapsr : (c.maps == (fn.params.toList ++ s.plain.varTypes P).any (P.mapsRec ·)) = true := by kernel_rfl
theorem ifs : (c.ifaces == (fn.params.toList ++ s.plain.varTypes P).any (P.ifacesRec ·)) = true := by kernel_rfl
theorem mo : (c.mapsOut == P.mapsAmong fn.resultTypes.toList) = true := by kernel_rfl
theorem lo : (c.loops == (fn.params.toList ++ s.plain.varTypes P).any (P.loopsFrom ·)) = true := by kernel_rfl
theorem wk : (c.wideKeys == (fn.params.toList ++ s.plain.varTypes P ++ fn.resultTypes.toList).any (P.wideKeysFrom ·)) = true := by kernel_rfl
theorem res : fn.resultTypes.all (fun t => P.readableRec t && decide (t < P.types.size)) = true := by kernel_rfl
theorem io : (c.ifacesOut == fn.resultTypes.toList.any (P.ifacesRec ·)) = true := by kernel_rfl
theorem lout : (c.loopsOut == fn.resultTypes.toList.any (P.loopsFrom ·)) = true := by kernel_rfl
theorem lift : (c.lifted == P.liftsFinal) = true := by kernel_rfl
theorem make : (P.make == some c.make) = true := by kernel_rfl
theorem pin : (c.pinned == c.pinnedBy) = true := by kernel_rfl
theorem veil : (c.veiled == (fn.params.toList ++ s.plain.varTypes P ++ fn.resultTypes.toList).any (P.veiledRec ·)) = true := by kernel_rfl
theorem lay1 : P.globals.all (fun g => decide (g.type < P.types.size)) = true := by kernel_rfl
theorem own : ownKnob P.godebug = none := by kernel_rfl
theorem lay_0 : ((List.range' 0 100).all (rowFine P)) = true := by kernel_rfl
theorem lay_1 : ((List.range' 100 100).all (rowFine P)) = true := by kernel_rfl
theorem lay_2 : ((List.range' 200 100).all (rowFine P)) = true := by kernel_rfl
theorem lay_3 : ((List.range' 300 100).all (rowFine P)) = true := by kernel_rfl
theorem lay_4 : ((List.range' 400 100).all (rowFine P)) = true := by kernel_rfl
theorem lay_5 : ((List.range' 500 100).all (rowFine P)) = true := by kernel_rfl
theorem lay_6 : ((List.range' 600 100).all (rowFine P)) = true := by kernel_rfl
theorem lay_7 : ((List.range' 700 32).all (rowFine P)) = true := by kernel_rfl
theorem tsize : P.types.size = 732 := by kernel_rfl
theorem layT : ((List.range P.types.size).all (rowFine P)) = true := by
  rw [tsize, List.all_eq_true]
  intro t ht
  have ht : t < 732 := List.mem_range.1 ht
  have key : ∀ a n, ((List.range' a n).all (rowFine P)) = true → a ≤ t → t < a + n → rowFine P t = true := fun a n h h1 h2 => List.all_eq_true.1 h t (by rw [List.mem_range'_1]; exact ⟨h1, h2⟩)
  rcases Nat.lt_or_ge t 100 with h | h
  · exact key _ _ lay_0 (by omega) (by omega)
  rcases Nat.lt_or_ge t 200 with h | h
  · exact key _ _ lay_1 (by omega) (by omega)
  rcases Nat.lt_or_ge t 300 with h | h
  · exact key _ _ lay_2 (by omega) (by omega)
  rcases Nat.lt_or_ge t 400 with h | h
  · exact key _ _ lay_3 (by omega) (by omega)
  rcases Nat.lt_or_ge t 500 with h | h
  · exact key _ _ lay_4 (by omega) (by omega)
  rcases Nat.lt_or_ge t 600 with h | h
  · exact key _ _ lay_5 (by omega) (by omega)
  rcases Nat.lt_or_ge t 700 with h | h
  · exact key _ _ lay_6 (by omega) (by omega)
  · exact key _ _ lay_7 (by omega) (by omega)
end Go.Im.Fa
