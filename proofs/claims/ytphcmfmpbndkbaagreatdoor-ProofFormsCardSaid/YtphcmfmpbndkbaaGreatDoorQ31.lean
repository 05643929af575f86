/- A part of the proof that ProofForms holds for every input. -/
import Derived.Test.YtphcmfmpbndkbaaGreatDoorQ30
set_option maxRecDepth 100000
set_option maxHeartbeats 4000000
set_option linter.all false
noncomputable section
namespace Go.ao
section
open Go.Proofs Go.RowKit Go.Proofs.YtphcmfmpbndkbaaGreatDoor
noncomputable def ie(g:Nat):Nat:=((a4.globals[g]?).bind fun oz=>gM a4 oz.type).getD 0
noncomputable def eS:aW:=fun f k=>if k=0/\aH f<12/\gQ (aH f)=f then some ⟨aH f,0,ie (aH f),ie (aH f)⟩else none
theorem Yt:∀g,g<12->aH (gQ g)=g:=by decide
theorem Xu{g:Nat}(aC:g<12):eS (gQ g) 0=some ⟨g,0,ie g,ie g⟩:=by
 unfold eS;rw[Yt g aC];simp[aC]
theorem Lz{f:P}{k:Nat}{l:Loc}(h:eS f k=some l):k=0/\∃g,g<12/\f=gQ g/\l=⟨g,0,ie g,ie g⟩:=by
 unfold eS at h;split at h
 ·rename_i U;cases h;exact⟨U.1,aH f,U.2.1,U.2.2.symm,rfl⟩
 ·cases h
noncomputable def KF(L:List (List UInt8))(F:List Nat):Bool:=(L.zip F).all fun x=>!x.1.isEmpty&&(((List.range a4.funcs.size).filter fun f=>(a4.funcs[f]?).any (·.name.toUTF8.data.toList==x.1))==[x.2])
theorem aKB{w:World}{t e cD:TypeId}(D:List UInt8->DataW (List UInt8)){n:Nat}{ps aD:Array TypeId}{bg:Bool}(bp:a4.underlying t=some (.array n e))(ev:∀m v eT p,DataW.trod (funcToken a4) a4 w 0 (fun _=>true) true m e [v]=some (D eT,p) ->∃c8 Ak,DataW.trod (funcToken a4) a4 w 0 (fun _=>true) true c8 cD [v]=some (.held eT,Ak))(he:a4.underlying cD=some (.func ps aD bg))(U:a4.cellsOf e=1)(JH:a4.cellsOf t=n){L:List (List UInt8)}{F:List Nat}(vu:L.length=n)(dw:F.length=n)(hk:KF L F=true)
  {fuel:Nat} {cs:List Value} {p:List MemPlace} (h:DataW.trod (funcToken a4) a4 w 0 (fun _=>true) true fuel t cs=some (.agg (L.map D),p)):cs=F.map fun f=>.func (.func f) #[] #[]:=by
 obtain⟨xs,m,_,ab,au,aq,tC⟩:=DataW.trod_array bp h;rw[JH]at au;have rF:L.map D=xs.map (·.1):=by simpa using lP Prod.fst ab
 apply D5;intro i;by_cases ai:i<n
 ·have h1:=tC i ai;rw[U,kz]at h1;have FU:i<cs.length:=by omega
  have ae:(cs.drop i).take 1=[cs[i]]:=by rw[D6 FU];rfl
  have TH:i<xs.length:=by omega
  rw[ae,hN TH]at h1;have JS:i<L.length:=by omega
  have ae1:i<F.length:=by omega
  have az:(xs[i]).1=D L[i]:=by
   have:=lP (fun l=>l[i]?) rF;simp only[ij,hN JS,hN TH,zN,cN]at this;exact this.symm
  have bo:=List.all_eq_true.1 hk (L[i],F[i]) (by
   rw[List.mem_iff_getElem?];exact⟨i,by rw[List.getElem?_zip_eq_some];exact⟨hN JS,hN ae1⟩⟩)
  simp only[dJ,beq_iff_eq]at bo;obtain⟨cb,dM⟩:=bo;have jf:DataW.trod (funcToken a4) a4 w 0 (fun _=>true) true m e [cs[i]]=some (D L[i],(xs[i]).2):=by rw[h1,<-az]
  obtain⟨c8,Ak,jf⟩:=ev _ _ _ _ jf;generalize L[i]=eT at cb dM jf;cases eT with
  |nil=>simp at cb
  |cons b r=>
   have:=func_of_trod he dM jf;rw[hN FU,ij,hN ae1,this];rfl
 ·rw[ei (by omega),ei (by simp;omega)]
theorem aCs{w:World}{e:TypeId}:∀m v eT p,DataW.trod (funcToken a4) a4 w 0 (fun _=>true) true m e [v]=some (DataW.held eT,p) ->∃c8 Ak,DataW.trod (funcToken a4) a4 w 0 (fun _=>true) true c8 e [v]=some (.held eT,Ak):=fun m _ _ p h=>⟨m,p,h⟩
theorem aKC{w:World}{e:TypeId}{f:Field}(bp:a4.underlying e=some (.struct #[f])) (av:f.offset=0) (h1:a4.cellsOf f.type=1):∀m v eT p,DataW.trod (funcToken a4) a4 w 0 (fun _=>true) true m e [v]=some (DataW.agg [.held eT],p) ->∃c8 Ak,DataW.trod (funcToken a4) a4 w 0 (fun _=>true) true c8 f.type [v]=some (.held eT,Ak):=fun m v eT p h=>by
 obtain⟨xs,n,_,ab,_,aq,tC⟩:=DataW.trod_struct bp h
 match xs,aq with
 |[x],_=>
  have:=tC 0 f rfl;rw[av,h1]at this;have rF:x.1=.held eT:=by
   have:=lP Prod.fst ab;simp at this;exact this.symm
  refine⟨n,x.2,?_⟩;simp only[iL,List.getElem?_cons_zero]at this;rw[<-rF];exact this
theorem amC(M:aW):∀(F:List Nat),dq M (F.map fun f=>V.fn (.func f) [] []) (F.map fun f=>Value.func (.func f) #[] #[])
 |[]=>.nil
 |f::F=>.cons (.fn .nil .nil) (amC M F)
theorem anr{M:aW}{bh:Array Obj}{g:Nat}{c:Array Value}{ty:TypeId}{du:Nat×Nat}{xs:List V}(ah:bh[g]?=some (.cells c ty du))(aq:ie g=xs.length)(aA:xs.length<=c.size)(ab:∀(i:Nat) (v:V),xs[i]?=some v->∃aL,c[i]?=some aL/\bm M v aL/\v.leaf=true):
  ou a4 M xs .ro ty true ⟨g,0,ie g,ie g⟩ bh:=
 ⟨fun h=>absurd rfl h,by show ie g<=_;omega,fun _=>aq,c,du,ah,by show 0+ie g<=_;omega,fun i v ai ar=>by rw[eH];exact ab i v ar,fun h=>by cases h⟩
theorem amD{M:aW}{bh:Array Obj}{g:Nat}{c:Array Value}{ty:TypeId}{du:Nat×Nat}{xs:List V}(ah:bh[g]?=some (.cells c ty du))(aq:ie g=xs.length)(ar:dq M xs c.toList)(au:xs.all V.leaf=true):ou a4 M xs .ro ty true ⟨g,0,ie g,ie g⟩ bh:=
 anr ah aq (by have:=ar.length;simp at this;omega) fun i v h=>by
  obtain⟨aL,a,b⟩:=ar.get h;exact⟨aL,by simpa using a,b,List.all_eq_true.1 au v (c0 h)⟩
theorem Yu{w:World}{n:String}{g:Nat}{cs:Array Value}(aC:a4.globalNamed n=some g)(h:w.var? a4 n=some cs):∃ty du,w.heap[g]?=some (.cells cs ty du):=by
 simp only[World.var?,aC,Option.bind_some]at h;split at h
 ·rename_i c ty du U;cases h;exact⟨ty,du,U⟩
 ·cases h
theorem GY{w:World}(h:w.ShapedOpen a4){g:Nat}{t:TypeId}(aC:g<a4.globals.size)(av:((((begin a4 (fun _ _=>0) default).world.heap[g]?).bind Obj.row?).map (·.2))=some t):∃cs,w.heap[g]?=some (.cells cs t):=by
 rw[vb]at av;obtain⟨⟨zero,h0⟩,h1,rfl⟩:=av;obtain⟨cs,a,_⟩:=h.1 g zero h0 aC h1;exact⟨cs,a⟩
theorem fq:((((begin a4 (fun _ _=>0) default).world.heap[0]?).bind Obj.row?).map (·.2))=some 106:=by kernel_rfl
theorem b5:((((begin a4 (fun _ _=>0) default).world.heap[1]?).bind Obj.row?).map (·.2))=some 167:=by kernel_rfl
theorem d7:((((begin a4 (fun _ _=>0) default).world.heap[2]?).bind Obj.row?).map (·.2))=some 340:=by kernel_rfl
theorem jW:((((begin a4 (fun _ _=>0) default).world.heap[3]?).bind Obj.row?).map (·.2))=some 422:=by kernel_rfl
theorem iq:(((begin a4 (fun _ _=>0) default).world.heap[4]?).bind Obj.row?)=some (#[.int .i64 0],3):=by kernel_rfl
theorem Bt:a4.globals.size=12:=by kernel_rfl
theorem NY:a4.globalNamed "entail/proof.conditions"=some 0:=by kernel_rfl
theorem NZ:a4.globalNamed "entail/proof.shapes"=some 1:=by kernel_rfl
theorem avk:a4.globalNamed "entail/term.reserved"=some 2:=by kernel_rfl
theorem avl:a4.globalNamed "entail/term.shapes"=some 3:=by kernel_rfl
theorem azK:a4.globalNamed "math/bits.deBruijn64tab"=some 11:=by kernel_rfl
theorem UT:(a4.globals[0]?).map (·.type)=some 106:=by kernel_rfl
theorem UU:(a4.globals[1]?).map (·.type)=some 167:=by kernel_rfl
theorem avm:(a4.globals[2]?).map (·.type)=some 340:=by kernel_rfl
theorem avn:(a4.globals[3]?).map (·.type)=some 422:=by kernel_rfl
abbrev laid:List (String×DataW Unit):=Rows.proofFormsRow.laid
theorem aFn{w:World}(h:w.ShapedOpen a4):∃m,w.cell? ⟨4,0,none⟩=some (.int .i64 m):=cell_of_shapedOpen_int h (by rw[Bt];decide) iq rfl (by kernel_rfl) (by kernel_rfl) Tryz.underlying3
noncomputable def names(d:DataW Unit):List (List UInt8):=match d.funcsOut with
 |.agg ds=>ds.filterMap fun x=>match x with|.held n=>some n|.agg [.held n]=>some n|_=>none
 |_=>[]
end
end Go.ao
