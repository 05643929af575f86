/- A part of the proof that ProofForms holds for every input. -/
import Derived.Lay
import Derived.Test.YtphcmfmpbndkbaaGreatDoorQ32
set_option maxRecDepth 100000
set_option linter.all false
noncomputable section
namespace Go.ao
section
open Go.Proofs Go.RowKit Go.Proofs.YtphcmfmpbndkbaaGreatDoor
noncomputable abbrev wJ:List (String×DataW Unit):=laid.filter fun x=>x.2.handleName?.isNone
noncomputable def OX(os:Os):World:=let w:=World.holding a4 os ⟨#[],#[],[]⟩;{w with heap:=(w.heap.set! 0 (.cells (o9.map fun f=>Value.func (.func f) #[] #[]).toArray 106)).set! 1 (.cells (n5.map fun f=>Value.func (.func f) #[] #[]).toArray 167)}
noncomputable def q5(os:Os):World:=(OX os).layVars a4 wJ
theorem aJC(os:Os):(OX os).layFits a4 wJ []=true:=by kernel_rfl
theorem aLb(os:Os):(OX os).layIfaces a4 wJ (q5 os)=true:=by kernel_rfl
theorem aJD(os:Os)(args:Array Value):laidMet a4 wJ ((q5 os).forCall (fun _ _=>0) ⟨#[],args,[]⟩).memory:=by
 have aN:(wJ.filter fun x=>(wJ.map (·.1)).contains x.1)=wJ:=List.filter_eq_self.2 fun x ab=>List.contains_iff_mem.2 (List.mem_map.2 ⟨x,ab,rfl⟩);have bd:(wJ.filter fun x=>!(wJ.map (·.1)).contains x.1)=[]:=List.filter_eq_nil_iff.2 fun x ab=>by rw[List.contains_iff_mem.2 (List.mem_map.2 ⟨x,ab,rfl⟩)];simp
 have h:laidMet a4 wJ (q5 os):=laidMet_layVars (w0:=OX os) (wJ.map (·.1)) [] (by rw[aN];rfl) (by rw[aN];exact aJC os) (by rw[aN];exact aLb os) (by rw[bd];exact LaidIn.none);exact h.of_heap (by simp[World.memory,World.forCall,Input.heap])
end
end Go.ao
