/- A part of the proof that ProofForms holds for every input. -/
import Derived.Test.YtphcmfmpbndkbaaGreatDoorQ34
set_option maxRecDepth 100000
set_option linter.all false
noncomputable section
namespace Go.ao
section
open Go.Proofs Go.RowKit Go.Proofs.YtphcmfmpbndkbaaGreatDoor
theorem aJE{a b:String}(h:a.toUTF8.data.toList=b.toUTF8.data.toList):a=b:=by
 have h1:a.toUTF8.data=b.toUTF8.data:=pG h;have ae:a.toUTF8=b.toUTF8:=by
  cases bN:a.toUTF8;cases ah:b.toUTF8;rw[bN,ah]at h1;simp only at h1;rw[h1]
 exact String.toByteArray_inj.1 ae
theorem aJF(a b:String):(a==b)=(a.toUTF8.data.toList==b.toUTF8.data.toList):=by
 rw[i9];simp only[beq_iff_eq];exact⟨fun h=>by rw[h],aJE⟩
theorem aHK{f:Nat}{n:List UInt8}(hk:((List.range a4.funcs.size).filter fun i=>(a4.funcs[i]?).any (·.name.toUTF8.data.toList==n))=[f]) (t:TypeId):funcToken a4 (t,.func (.func f) #[] #[])=n:=by
 have hm:f∈((List.range a4.funcs.size).filter fun i=>(a4.funcs[i]?).any (·.name.toUTF8.data.toList==n)):=by rw[hk];simp
 obtain⟨_,ae⟩:=List.mem_filter.1 hm;cases tE:a4.funcs[f]? with
 |none=>rw[tE]at ae;cases ae
 |some fn=>
  rw[tE]at ae;have az:fn.name.toUTF8.data.toList=n:=by simpa using ae
  have bo:a4.funcNamed fn.name=some f:=by
   unfold Program.funcNamed;have:(fun i:Nat=>(a4.funcs[i]?).any fun(g:Func)=>g.name==fn.name)=fun i=>(a4.funcs[i]?).any fun(g:Func)=>g.name.toUTF8.data.toList==n:=by
    funext i;congr 1;funext g;rw[aJF,az]
   rw[this,hk]
  unfold funcToken;simp only[tE,bo,Array.isEmpty_empty,nT,qt,BEq.rfl];exact az
theorem OY{L:List (List UInt8)}{F:List Nat}(hk:KF L F=true)(au:L.length=F.length)(t:TypeId):F.map (fun f=>funcToken a4 (t,.func (.func f) #[] #[]))=L:=by
 apply D5;intro i;rcases dz i F.length with ai|ai
 ·have JS:i<L.length:=by omega
  have bo:=List.all_eq_true.1 hk (L[i],F[i]) (by
   rw[List.mem_iff_getElem?];exact⟨i,by rw[List.getElem?_zip_eq_some];exact⟨hN JS,hN ai⟩⟩)
  simp only[dJ,beq_iff_eq]at bo;rw[ij,hN ai,hN JS,zN,aHK bo.2]
 ·rw[ei (by simpa using ai),ei (by omega)]
theorem ak8{X:Type}(enc:TypeId×Value->X)(w:World):DataW.trod enc a4 w 0 (fun _=>true) true 8 106 (o9.map fun f=>Value.func (.func f) #[] #[])=some (.agg (o9.map fun f=>.held (enc (105,.func (.func f) #[] #[]))),[]):=by kernel_rfl
theorem ak9{X:Type}(enc:TypeId×Value->X)(w:World):DataW.trod enc a4 w 0 (fun _=>true) true 8 167 (n5.map fun f=>Value.func (.func f) #[] #[])=some (.agg (n5.map fun f=>.agg [.held (enc (110,.func (.func f) #[] #[]))]),[]):=by kernel_rfl
theorem azZ(os:Os)(args:Array Value):(((q5 os).forCall (fun _ _=>0) ⟨#[],args,[]⟩).memory).var? a4 "entail/proof.conditions"=some (o9.map fun f=>Value.func (.func f) #[] #[]).toArray:=by kernel_rfl
theorem az0(os:Os)(args:Array Value):(((q5 os).forCall (fun _ _=>0) ⟨#[],args,[]⟩).memory).var? a4 "entail/proof.shapes"=some (n5.map fun f=>Value.func (.func f) #[] #[]).toArray:=by kernel_rfl
theorem ae4:(sS Rows.laid_entail_proof_conditions).funcsOut=.agg ((names (sS Rows.laid_entail_proof_conditions)).map .held):=by kernel_rfl
theorem ae5:(sS Rows.laid_entail_proof_shapes).funcsOut=.agg ((names (sS Rows.laid_entail_proof_shapes)).map fun eT=>.agg [.held eT]):=by kernel_rfl
theorem Zd:(laid.filter fun x=>x.2.handleName?.isSome)=[("entail/proof.shapes",Rows.laid_entail_proof_shapes),("entail/proof.conditions",Rows.laid_entail_proof_conditions)]:=by kernel_rfl
theorem aHL(os:Os)(args:Array Value):laidMetH a4 laid ((q5 os).forCall (fun _ _=>0) ⟨#[],args,[]⟩).memory:=by
 refine laidMetH_iff.2 ⟨aJD os args,?_⟩;rw[Zd];intro x ab;simp only[lT,tf,sg]at ab;rcases ab with rfl|rfl
 ·show funcsAt a4 _ "entail/proof.shapes" (sS Rows.laid_entail_proof_shapes);refine⟨1,167,_,8,[],NZ,UU,az0 os args,?_⟩;rw[ae5,<-OY WV (by kernel_rfl) 110,D7];exact ak9 _ _
 ·show funcsAt a4 _ "entail/proof.conditions" (sS Rows.laid_entail_proof_conditions);refine⟨0,106,_,8,[],NY,UT,azZ os args,?_⟩;rw[ae4,<-OY WU (by kernel_rfl) 105,D7];exact ak8 _ _
end
end Go.ao
