/- A part of the proof that ProofForms holds for every input. -/
import Derived.Test.YtphcmfmpbndkbaaGreatDoorRows
import Derived.JoinedOf
import Derived.ProofKit
set_option maxRecDepth 100000
set_option linter.all false
noncomputable section
namespace Go.ao.j5
section
open Go.Proofs Go.Proofs.YtphcmfmpbndkbaaGreatDoor
noncomputable abbrev P:Program:=Tryz.prog
noncomputable abbrev c:OpenClaim:=Rows.proofFormsRow
noncomputable abbrev s:ChangeSpec:=Rows.proofFormsSpec
noncomputable abbrev fn:Func:=Tryz.f3
theorem wf:c.wf (OpenSpec.ofChange s)=true:=by kernel_rfl
theorem rd:fn.params.all (P.readableRec ·)=true:=by kernel_rfl
theorem tie:namedTie P c.named s.vars=true:=by kernel_rfl
theorem stops:(P.stops==[])=true:=by kernel_rfl
theorem knobs:(P.stopKnobs==[])=true:=by kernel_rfl
theorem aCC:(c.maps==(fn.params.toList++s.plain.varTypes P).any (P.mapsRec ·))=true:=by kernel_rfl
theorem ifs:(c.ifaces==(fn.params.toList++s.plain.varTypes P).any (P.ifacesRec ·))=true:=by kernel_rfl
theorem aqp:(c.mapsOut==P.mapsAmong fn.resultTypes.toList)=true:=by kernel_rfl
theorem br:(c.loops==(fn.params.toList++s.plain.varTypes P).any (P.loopsFrom ·))=true:=by kernel_rfl
theorem dA:(c.wideKeys==(fn.params.toList++s.plain.varTypes P++fn.resultTypes.toList).any (P.wideKeysFrom ·))=true:=by kernel_rfl
theorem res:fn.resultTypes.all (fun t=>P.readableRec t&&decide (t<P.types.size))=true:=by kernel_rfl
theorem io:(c.ifacesOut==fn.resultTypes.toList.any (P.ifacesRec ·))=true:=by kernel_rfl
theorem az2:(c.loopsOut==fn.resultTypes.toList.any (P.loopsFrom ·))=true:=by kernel_rfl
theorem lift:(c.lifted==P.liftsFinal)=true:=by kernel_rfl
theorem make:(P.make==some c.make)=true:=by kernel_rfl
theorem avB:(c.pinned==c.pinnedBy)=true:=by kernel_rfl
theorem az3:(c.veiled==(fn.params.toList++s.plain.varTypes P++fn.resultTypes.toList).any (P.veiledRec ·))=true:=by kernel_rfl
theorem az4:P.globals.all (fun g=>decide (g.type<P.types.size))=true:=by kernel_rfl
theorem own:ownKnob P.godebug=none:=by kernel_rfl
theorem aCD:((List.range' 0 100).all (rowFine P))=true:=by kernel_rfl
theorem aCE:((List.range' 100 100).all (rowFine P))=true:=by kernel_rfl
theorem aCF:((List.range' 200 100).all (rowFine P))=true:=by kernel_rfl
theorem aCG:((List.range' 300 100).all (rowFine P))=true:=by kernel_rfl
theorem aCH:((List.range' 400 100).all (rowFine P))=true:=by kernel_rfl
theorem aCI:((List.range' 500 100).all (rowFine P))=true:=by kernel_rfl
theorem aCJ:((List.range' 600 100).all (rowFine P))=true:=by kernel_rfl
theorem aCK:((List.range' 700 42).all (rowFine P))=true:=by kernel_rfl
theorem aCL:P.types.size=742:=by kernel_rfl
theorem az5:((List.range P.types.size).all (rowFine P))=true:=by
 rw[aCL,List.all_eq_true];intro t bp;have bp:t<742:=List.mem_range.1 bp;have key:∀a n,((List.range' a n).all (rowFine P))=true->a<=t->t<a+n->rowFine P t=true:=fun a n h h1 ae=>List.all_eq_true.1 h t (by rw[List.mem_range'_1];exact⟨h1,ae⟩)
 rcases Nat.lt_or_ge t 100 with h|h
 ·exact key _ _ aCD (by omega) (by omega)
 rcases Nat.lt_or_ge t 200 with h|h
 ·exact key _ _ aCE (by omega) (by omega)
 rcases Nat.lt_or_ge t 300 with h|h
 ·exact key _ _ aCF (by omega) (by omega)
 rcases Nat.lt_or_ge t 400 with h|h
 ·exact key _ _ aCG (by omega) (by omega)
 rcases Nat.lt_or_ge t 500 with h|h
 ·exact key _ _ aCH (by omega) (by omega)
 rcases Nat.lt_or_ge t 600 with h|h
 ·exact key _ _ aCI (by omega) (by omega)
 rcases Nat.lt_or_ge t 700 with h|h
 ·exact key _ _ aCJ (by omega) (by omega)
 ·exact key _ _ aCK (by omega) (by omega)
end
end Go.ao.j5
