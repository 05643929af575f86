/- A part of the proof that ProofForms holds for every input. -/
import Derived.Lay
import Derived.Test.YtphcmfmpbndkbaaGreatDoorQ36
import Derived.Test.YtphcmfmpbndkbaaGreatDoorQ38
import Derived.Test.YtphcmfmpbndkbaaGreatDoorQ39
import Derived.Test.YtphcmfmpbndkbaaGreatDoorQ41
import Derived.Test.YtphcmfmpbndkbaaGreatDoorQ42
import Derived.Test.YtphcmfmpbndkbaaGreatDoorQ43
import Derived.Test.YtphcmfmpbndkbaaGreatDoorQ44
import Derived.Test.YtphcmfmpbndkbaaGreatDoorQ45
import Derived.Test.YtphcmfmpbndkbaaGreatDoorQ46
set_option maxRecDepth 100000
set_option linter.all false
noncomputable section
namespace Go.ao.j5
section
open Go.Proofs Go.Proofs.YtphcmfmpbndkbaaGreatDoor
theorem laidOut:laidOutB P=true:=by
 unfold laidOutB;rw[az5,az4,az6];rfl
theorem both{a b:Bool}(h:a=true)(k:b=true):(a&&b)=true:=by rw[h,k];rfl
theorem facts:joinedFacts P 3 fn s c=true:=
 both (both (both (both (both (both (both (both (both (both (both (both (both (both (both (both (both (both (both (both (both (both (both (both (both (both (both (both (both (both (both
  wf laidOut) maps) rd) tie) (by rfl)) stops) (by rfl)) knobs) aAa) avC) rec) named) aCC) ifs) aqp) br) dA) (by rfl)) res) io) az2) ZU) (by rfl)) heard) enter) lift) make) (by rfl)) avB) az3) HN
end
end Go.ao.j5
namespace Go.Proofs.YtphcmfmpbndkbaaGreatDoor
section
open Go.ao
theorem proofForms:Rows.ProofFormsSaid:=
 OpenClaim.holds_of_wide 3 Tryz.f3 rfl rfl rfl rfl rfl rfl rfl ⟨rfl,rfl,rfl,rfl,rfl⟩ rfl rfl rfl rfl rfl j5.ala Tryz.func3 j5.facts
  (Lx (by kernel_rfl)) (by unfold Func.isWrapper;first|(rw[bl (by decide+kernel)];kernel_rfl)|(rw[bf (by decide+kernel)];exact⟨rfl,rfl⟩))
  (fun os started H enc _=>lifted j5.laidOut os started H enc (WW os) (World.shaped_of_ZipB (aCM os) (aFp os)) (Xw os) (WX os))
end
end Go.Proofs.YtphcmfmpbndkbaaGreatDoor
