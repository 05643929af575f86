/- A part of the proof that ProofForms holds for every input. -/
import Derived.Test.YtphcmfmpbndkbaaGreatDoorQ37
set_option maxRecDepth 100000
set_option linter.all false
noncomputable section
namespace Go.ao.j5
section
open Go.Proofs Go.Proofs.YtphcmfmpbndkbaaGreatDoor
theorem maps:mapsRowed P=true:=by kernel_rfl
theorem ZU:(c.plainKeys==P.plainKeys)=true:=by kernel_rfl
theorem heard:P.stopsHeard=true:=by kernel_rfl
end
end Go.ao.j5
