/- The tied card of ProofForms: Rule, CheckForm and Definitions return the specified results and errors, for every input; nothing is assumed beside what the given card says. -/
import Derived.Test.YtphcmfmpbndkbaaGreatDoorCards
import Derived.SevenTiedAt
import Derived.Test.YtphcmfmpbndkbaaGreatDoorQ47
import Derived.Test.YtphcmfmpbndkbaaGreatDoorQ49
import Derived.Test.YtphcmfmpbndkbaaGreatDoorQ50
import Derived.Test.YtphcmfmpbndkbaaGreatDoorQ51
set_option maxRecDepth 100000
set_option linter.all false
noncomputable section
namespace Go.ao.ml
section
open Go.Proofs Go.Proofs.YtphcmfmpbndkbaaGreatDoor
open Go.ao
theorem Zd:(A6.filter fun x=>x.2.handleName?.isSome)=[("entail/proof.shapes",Rows.laid_entail_proof_shapes),("entail/proof.conditions",Rows.laid_entail_proof_conditions)]:=by kernel_rfl
theorem aHO(os:Os)(tape:Tape):∃v w,runN P 125 (Machine.entering P (World.unlaid P os) tape (varsId P) ⟨#[],#[],[]⟩)=.ended (.done v) w/\laidMetH P A6 w.memory:=by
 have d1:=je os tape;have d2:=dX os tape;have nt:=e3 os tape;cases aI:runN P 125 (Machine.entering P (World.unlaid P os) tape (varsId P) ⟨#[],#[],[]⟩)with
 |next m=>rw[aI]at d1;cases d1
 |ended o w=>
  cases o with
  |done v=>
   rw[aI]at d2 nt;simp only[bK]at d2;obtain⟨x,ab,d2⟩:=d2;refine⟨v,w,rfl,laidMetH_iff.2 ⟨?_,?_⟩⟩
   ·split at d2
    ·rename_i ah;simp only[dJ]at ah;have aN:=BK d2;exact laidMet_of_run (ps:=x.2) 8 (by rw[ab,<-aN]) (ke (nodupBits_sound ah.1).1) ah.2
    ·cases d2
   ·have av:=lP Prod.fst nt;have h1:=lP Prod.snd nt;have v0:w.memory.var? P "entail/proof.conditions"=some (o9.map fun f=>Value.func (.func f) #[] #[]).toArray:=by
     simp only[World.var?,NY,Option.bind_some];simp only at av;rw[av];rfl
    have v1:w.memory.var? P "entail/proof.shapes"=some (n5.map fun f=>Value.func (.func f) #[] #[]).toArray:=by
     simp only[World.var?,NZ,Option.bind_some];simp only at h1;rw[h1];rfl
    rw[Zd];intro y ax;simp only[lT,tf,sg]at ax;rcases ax with rfl|rfl
    ·show funcsAt a4 _ "entail/proof.shapes" (sS Rows.laid_entail_proof_shapes);refine⟨1,167,_,8,[],NZ,UU,v1,?_⟩;rw[ae5,<-OY WV (by kernel_rfl) 110,D7];exact ak9 _ _
    ·show funcsAt a4 _ "entail/proof.conditions" (sS Rows.laid_entail_proof_conditions);refine⟨0,106,_,8,[],NY,UT,v0,?_⟩;rw[ae4,<-OY WU (by kernel_rfl) 105,D7];exact ak8 _ _
  |_=>rw[aI]at d1;cases d1
theorem aHP:P.laidByTextLater A6 ae6 true:=by
 have h:=aq;unfold varsNamedLaterB at h;rw[ar,U]at h;simp only[]at h;rw[aA]at h;simp only[dJ]at h;refine⟨⟨hw,IG,aCQ,hk⟩,varsId P,code,stored,varsId_spec aC,by rw[ar];exact U,⟨aA,h.1.1,by rw[ar];exact h.1.2⟩,h.2,fun os tape _=>?_⟩;obtain⟨v,w,a,b⟩:=aHO os tape;exact⟨125,v,w,a,b⟩
theorem aHQ:Rows.proofFormsRow.laidByTextAt .later Tryz.pinned [.data,.data,.data,.data,.sentinel,.sentinel,.widerDeep,.data,.funcs,.funcs,.pinned] true:=
 OpenClaim.laidByTextAt_pinned rfl rfl aHP rfl rfl rfl rfl (fun y ax xf=>by
  simp only[Rows.proofFormsRow,List.zip_cons_cons,List.zip_nil_right,lT,List.mem_nil_iff,sg]at ax;rcases ax with rfl|rfl|rfl|rfl|rfl|rfl|rfl|rfl|rfl|rfl|rfl
  ·cases xf
  ·cases xf
  ·cases xf
  ·cases xf
  ·cases xf
  ·cases xf
  ·cases xf
  ·cases xf
  ·cases xf
  ·cases xf
  ·exact⟨aAb,by kernel_rfl⟩) aCO
end
end Go.ao.ml
namespace Go.Proofs.YtphcmfmpbndkbaaGreatDoor
section
open Go.ao.ml
theorem proofFormsCard_holds:Rows.ProofFormsCardSaid:=
 Claim7.holds_tied_plain_at .later [] [.data,.data,.data,.data,.sentinel,.sentinel,.widerDeep,.data,.funcs,.funcs,.pinned] true (true,"5326f0c03071266b457368ac6617848b44afe4ea3df6c54311b9f3535e1ac756") true
  proofForms (fun _ h=>by cases h) avD (fun _ h=>by cases h) aHQ rfl ⟨rfl,rfl⟩ mainIs rfl
  (fun f fn aE tE=>by
   obtain rfl:f=3:=Option.some.inj (Go.ao.j5.ala.symm.trans aE)|>.symm;obtain rfl:fn=Tryz.f3:=(Option.some.inj (Tryz.func3.symm.trans tE)).symm;exact⟨looks,fun j t bp=>by
    rw[Tryz.params3]at bp;have hm:t∈[25,3]:=by simpa using Array.mem_of_getElem? bp
    exact(show Tryz.prog.wantsStandIn t=false by simpa using List.all_eq_true.1 aCN t hm)⟩)
  goes
#print axioms proofFormsCard_holds
end
end Go.Proofs.YtphcmfmpbndkbaaGreatDoor
