/- A part of the proof that ProofForms holds for every input. -/
import Derived.Carry
import Derived.SizedLaws
import Derived.Test.YtphcmfmpbndkbaaGreatDoorQ32
set_option maxRecDepth 100000
set_option maxHeartbeats 4000000
set_option linter.all false
noncomputable section
namespace Go.ao
section
open Go.ChangeShapes Form
variable {p:Program}
def u5(_:H)(_:Unit)(aF:List V):Prop:=aF=[]
theorem u5.eD:rk u5:=fun _ _ _ _ a _ _=>a
section
variable {X:Type}{w:World}{enc:TypeId×Value->X}{held:Bool}{t:TypeId}
def x7(p:Program):List Field->Nat
 |[]=>0
 |f::bt=>p.cellsOf f.type+x7 p bt
def Pr(p:Program)(w:World)(enc:TypeId×Value->X)(held:Bool)(bt:List Field)(off:Nat){α:Type}(R:H->α->List V->Prop):Prop:=
 ∀(n:Nat) (cs:List Value) (xs:List (DataW X×List MemPlace)) (M:aW) (h:H),xs.length=bt.length->off+x7 p bt<=cs.length->
  (∀(i:Nat) (f:Field),bt[i]?=some f->DataW.trod enc p w 0 (fun _=>true) held n f.type ((cs.drop f.offset).take (p.cellsOf f.type))=xs[i]?) ->z5 p w M h->
  ∃(aT:aW) (aa:H) (aF:List V) (a:α),z5 p w aT aa/\M.le aT/\iI h aa/\dq aT aF ((cs.drop off).take (x7 p bt))/\(∀v∈aF,v.leaf=true)/\aF.length=x7 p bt/\R aa a aF
theorem L0{off:Nat}:Pr p w enc held [] off u5:=fun n cs xs M h _ _ _ a=>
 ⟨M,h,[],(),a,aW.le_refl M,.refl a.ok,by simp[x7];exact .nil,by simp,rfl,rfl⟩
theorem qE{f:Field}{bt:List Field}{off:Nat}{α β:Type}{A:H->α->List V->Prop}{B:H->β->List V->Prop}(a6:f.offset=off)(gB:rk A)(mW:oT p w enc held f.type A)(bJ:Pr p w enc held bt (off+p.cellsOf f.type) B):Pr p w enc held (f::bt) off (i7 A B):=fun n cs xs M h au aA aE a=>by
 match xs,au with
 |x::xs,au=>
  have bA:=aE 0 f rfl;rw[a6]at bA;obtain⟨hZ,h1,us,z1,cB,bU,bC,b0,cM,fr,f0⟩:=mW n _ x M h bA a;obtain⟨sp,ae,ws,d1,c1,c2,dF,fs,jY,qK,w4⟩:=bJ n cs xs hZ h1 (by simpa using au) (by unfold x7 at aA;omega) (fun i g e=>aE (i+1) g (by simpa using e)) cB;refine⟨sp,ae,us++ws,(z1,d1),c1,aW.le_trans bU c2,bC.trans dF,?_,fun v ar=>?_,by rw[fi,fr,qK];rfl,us,ws,rfl,gB _ _ _ _ f0 cB.ok dF,w4⟩
  ·have e:(cs.drop off).take (x7 p (f::bt))=(cs.drop off).take (p.cellsOf f.type)++(cs.drop (off+p.cellsOf f.type)).take (x7 p bt):=by
    show(cs.drop off).take (p.cellsOf f.type+x7 p bt)=_;rw[List.take_add,pH]
   rw[e];exact(b0.mono c2).append fs
  ·rcases List.mem_append.1 ar with ar|ar
   ·exact cM v ar
   ·exact jY v ar
theorem L6{bt:Array Field}{α:Type}{R:H->α->List V->Prop}(bp: p.underlying t=some (.struct bt))(U: p.cellsOf t=x7 p bt.toList)(a:Pr p w enc held bt.toList 0 R):oT p w enc held t R:=fun fuel cs x M h ab aqm=>by
 obtain⟨xs,n,rfl,_,au,aq,aE⟩:=DataW.trod_struct bp ab;obtain⟨aT,aa,aF,d,cB,bU,bC,b0,cM,fr,f0⟩:=a n cs xs M h (by simpa using aq) (by rw[eH,<-U];omega) (fun i f e=>aE i f (by simpa using e)) aqm;refine⟨aT,aa,aF,d,cB,bU,bC,?_,cM,by rw[fr,U],f0⟩;rw[iL,kM (by omega)]at b0;exact b0
end
end
section
open Go.ChangeShapes Form
abbrev xY:=i7 nM (i7 nM u5)
abbrev Di:=i7 (mx .i64) (i7 nM (i7 nM (i7 (hL 2 xY) (i7 (hL 1 (mx .i64)) u5))))
abbrev uX:=hL 5 Di
abbrev zu:=i7 (mx .i64) (i7 Gx u5)
abbrev A5:=i7 (mx .i64) (i7 (hL 2 zu) (i7 (hL 1 (mx .i64)) (i7 (hL 1 (mx .i64)) (i7 (hL 1 nM) (i7 (hL 1 uX) u5)))))
abbrev ae2:=i7 (hL 1 uX) (i7 (hL 6 A5) u5)
theorem xY.st:rk xY:=i7.eD nM.eD (i7.eD nM.eD u5.eD)
theorem Di.st:rk Di:=i7.eD (mx.eD _) (i7.eD nM.eD (i7.eD nM.eD (i7.eD (hL.eD xY.st) (i7.eD (hL.eD (mx.eD _)) u5.eD))))
theorem uX.st:rk uX:=hL.eD Di.st
theorem zu.st:rk zu:=i7.eD (mx.eD _) (i7.eD Gx.eD u5.eD)
theorem A5.st:rk A5:=i7.eD (mx.eD _) (i7.eD (hL.eD zu.st) (i7.eD (hL.eD (mx.eD _)) (i7.eD (hL.eD (mx.eD _)) (i7.eD (hL.eD nM.eD) (i7.eD (hL.eD uX.st) u5.eD)))))
theorem eK.pick{α β EE:Type}{R:α->β->Prop}{Q:EE->β->Prop}(k:∀a b,R a b->∃c,Q c b):∀{aaz:List α} {bs:List β},eK R aaz bs->∃cs:List EE,eK Q cs bs/\cs.length=aaz.length
 |_,_,.nil=>⟨[],.nil,rfl⟩
 |_,_,.cons x t=>let⟨c,q⟩:=k _ _ x;let⟨cs,r,e⟩:=eK.pick k t;⟨c::cs,.cons q r,by simp[e]⟩
theorem eK.maps{β EE:Type}{f:EE->β}{Q:EE->Prop}:∀{cs:List EE} {bs:List β},eK (fun c b=>b=f c/\Q c) cs bs->bs=cs.map f/\∀c∈cs,Q c
 |_,_,.nil=>⟨rfl,fun _ h=>by cases h⟩
 |_,_,.cons x t=>by
  obtain⟨e,q⟩:=eK.maps t;refine⟨by rw[nQ,<-x.1,<-e],fun c h=>?_⟩;rcases List.mem_cons.1 h with z|z
  ·subst z;exact x.2
  ·exact q c z
def Al(s:b9):Prop:=∀b∈s,b<256
variable {h:H}
theorem aFo{x}{aF:List V}(r:xY h x aF):∃b:b9×b9,aF=[.str b.1,.str b.2]/\Al b.1:=by
 obtain⟨vr,b5,rfl,⟨rfl,_,cB⟩,oZ,d7,rfl,⟨rfl,_,_⟩,rfl⟩:=r;exact⟨(x.1,x.2.1),rfl,cB⟩
theorem Yv{l aF}(r:hL 1 (mx .i64) h l aF):∃v m,aF=[v]/\bB h v 1 (dH m)/\J8 v/\m.length<9223372036854775808:=by
 obtain⟨v,aV,rfl,s,f,c,n⟩:=r;obtain⟨cs,q,e⟩:=f.pick (Q:=fun(c:Int) b=>b=[.int .i64 c]/\True) (fun a b x=>⟨a,x.1,trivial⟩);obtain⟨rfl,_⟩:=q.maps;exact⟨v,cs,rfl,s,c,by omega⟩
theorem aHF{l aF}(r:hL 1 nM h l aF):∃v m,aF=[v]/\bB h v 1 (qk m)/\m.length<9223372036854775808/\∀s∈m,Al s:=by
 obtain⟨v,aV,rfl,s,f,c,n⟩:=r;obtain⟨cs,q,e⟩:=f.pick (Q:=fun(c:b9) b=>b=[.str c]/\Al c) (fun a b x=>⟨a,x.1,x.2.2⟩);obtain⟨rfl,z⟩:=q.maps;exact⟨v,cs,rfl,s,by omega,z⟩
theorem aHG{l aF}(r:hL 2 xY h l aF):∃v m,aF=[v]/\bB h v 2 (hi m)/\J8 v/\m.length<9223372036854775808/\∀b∈m,Al b.1:=by
 obtain⟨v,aV,rfl,s,f,c,n⟩:=r;obtain⟨cs,q,e⟩:=f.pick (Q:=fun(c:b9×b9) b=>b=[.str c.1,.str c.2]/\Al c.1) (fun a b x=>aFo x);obtain⟨rfl,z⟩:=q.maps;exact⟨v,cs,rfl,s,c,by omega,z⟩
theorem aHH{l aF}(r:hL 2 zu h l aF):∃v m,aF=[v]/\bB h v 2 (dv m):=by
 obtain⟨v,aV,rfl,s,f,c,n⟩:=r;obtain⟨cs,q,e⟩:=f.pick (Q:=fun(c:cE.b1) b=>b=[.int .i64 c.1,.bool c.2]/\True) (fun a b x=>by
  obtain⟨vr,b5,rfl,⟨rfl,_⟩,oZ,d7,rfl,rfl,rfl⟩:=x;exact⟨(a.1,a.2.1),rfl,trivial⟩)
 obtain⟨rfl,z⟩:=q.maps;exact⟨v,cs,rfl,s⟩
theorem J8.ok{v:V}(c:J8 v):om v:=by
 cases v<;>try trivial
 rename_i cap;cases cap with
 |none=>trivial
 |some _=>exact c.elim
def avp(n:bb):Prop:=Al n.name/\∀v∈n.vars,Al v.1
abbrev aaA(h:H)(c:bb×V×V)(b:List V):Prop:=b=[.int .i64 c.1.op,.str c.1.sort,.str c.1.name,c.2.1,c.2.2]/\KB h c.1 c.2.1 c.2.2/\avp c.1
theorem aCu{x}{aF:List V}(r:Di h x aF):∃c:bb×V×V,aaA h c aF:=by
 obtain⟨vr,b5,rfl,⟨rfl,_⟩,oZ,d7,rfl,⟨rfl,_,_⟩,tj,jW,rfl,⟨rfl,_,bC⟩,pN,iq,rfl,j1,mV,n2,rfl,nz,rfl⟩:=r;obtain⟨v,m,rfl,s,c,n,q⟩:=aHG j1;obtain⟨w,k,rfl,gk,fT,gN⟩:=Yv nz;exact⟨(⟨x.1,x.2.1,x.2.2.1,m,k⟩,v,w),rfl,⟨s,c.ok,gk,fT.ok,n,gN⟩,bC,q⟩
theorem aCv{l aF}(r:uX h l aF):∃v t S W,aF=[v]/\xP h v t S W/\Dh t:=by
 obtain⟨v,aV,rfl,s,f,c,n⟩:=r;obtain⟨cs,q,e⟩:=f.pick (Q:=aaA h) (fun a b x=>aCu x);obtain⟨rfl,z⟩:=eK.maps (f:=fun c:bb×V×V=>[V.int .i64 c.1.op,.str c.1.sort,.str c.1.name,c.2.1,c.2.2]) q;have at':∀(i:Nat) (n:bb),(cs.map fun c=>c.1)[i]?=some n->∃c:bb×V×V,cs[i]?=some c/\c.1=n:=fun i n e=>by
  rw[ij]at e;cases U:cs[i]? with
  |none=>rw[U]at e;cases e
  |some c=>rw[U]at e;cases e;exact⟨c,rfl,rfl⟩
 let S:Nat->V:=fun i=>((cs[i]?).map fun c:bb×V×V=>c.2.1).getD .fO
 let W:Nat->V:=fun i=>((cs[i]?).map fun c:bb×V×V=>c.2.2).getD .fO
 have N0:∀{i c},cs[i]?=some c->S i=c.2.1/\W i=c.2.2:=fun{i c} e=>by simp only[S,W,e,zN,hC];exact⟨trivial,trivial⟩
 refine⟨v,cs.map fun c=>c.1,S,W,rfl,⟨?_,c.ok,by rw[eQ];omega,fun i n e=>?_⟩,⟨fun n aq=>?_⟩⟩
 ·have e:ed S W 0 (cs.map fun c=>c.1)=cs.map fun c:bb×V×V=>[V.int .i64 c.1.op,.str c.1.sort,.str c.1.name,c.2.1,c.2.2]:=by
   apply D5;intro i;cases U:cs[i]? with
   |none=>
    have ai:cs.length<=i:=by
     rcases dz i cs.length with z|z
     ·rw[hN z]at U;cases U
     ·exact z
    rw[ei (by rw[gj,eQ];exact ai),ei (by rw[eQ];exact ai)]
   |some c=>
    have:=GS S W 0 (cs.map fun c=>c.1) i c.1 (by rw[ij,U];rfl);rw[eH,(N0 U).1,(N0 U).2]at this;rw[this,ij,U];rfl
  rw[e];exact s
 ·obtain⟨c,U,rfl⟩:=at' i n e;rw[(N0 U).1,(N0 U).2];exact(z c (c0 U)).1
 ·obtain⟨c,U,rfl⟩:=List.mem_map.1 aq;exact(z c U).2
abbrev aqn(h:H)(c:V×List bb×(Nat->V)×(Nat->V))(b:List V):Prop:=b=[c.1]/\xP h c.1 c.2.1 c.2.2.1 c.2.2.2/\Dh c.2.1
theorem ak6{l aF}(r:hL 1 uX h l aF):∃v L Y S W,aF=[v]/\DO h L v Y S W/\∀t∈L,Dh t:=by
 obtain⟨v,aV,rfl,s,f,c,n⟩:=r;obtain⟨cs,q,e⟩:=f.pick (Q:=aqn h) (fun a b x=>let⟨v,t,S,W,e,r,q⟩:=aCv x;⟨(v,t,S,W),e,r,q⟩);obtain⟨rfl,z⟩:=eK.maps (f:=fun c:V×List bb×(Nat->V)×(Nat->V)=>[c.1]) q
 let Y:Nat->V:=fun i=>((cs.map fun c=>c.1)[i]?).getD .fO
 let S:Nat->Nat->V:=fun i=>((cs[i]?).map fun c:V×List bb×(Nat->V)×(Nat->V)=>c.2.2.1).getD fun _=>.fO
 let W:Nat->Nat->V:=fun i=>((cs[i]?).map fun c:V×List bb×(Nat->V)×(Nat->V)=>c.2.2.2).getD fun _=>.fO
 have jX:∀{i c},cs[i]?=some c->Y i=c.1/\S i=c.2.2.1/\W i=c.2.2.2:=fun{i c} e=>by simp only[Y,S,W,ij,e,zN,hC];exact⟨trivial,trivial,trivial⟩
 refine⟨v,cs.map fun c=>c.2.1,Y,S,W,rfl,⟨?_,by rw[eQ];omega,fun i t e=>?_⟩,fun t bp=>?_⟩
 ·have e:cI (dT Y (cs.map fun c=>c.2.1).length)=cs.map fun c=>[c.1]:=by
   have:=ane (cs.map fun c=>c.1);rw[eQ]at this;rw[eQ,this];simp[cI]
  rw[e];exact s
 ·rw[ij]at e;cases U:cs[i]? with
  |none=>rw[U]at e;cases e
  |some c=>
   rw[U]at e;cases e;obtain⟨aN,bd,bO⟩:=jX U;rw[aN,bd,bO];exact(z c (c0 U)).1
 ·obtain⟨c,U,rfl⟩:=List.mem_map.1 bp;exact(z c U).2
abbrev aaB(h:H)(c:Form.eX×j4)(b:List V):Prop:=b=[.int .i64 c.1.cz,c.2.cS,c.2.cC,c.2.bg,c.2.cK,c.2.cv]/\KC h c.1 c.2.cS c.2.cC c.2.bg c.2.cK c.2.cv c.2.Y c.2.S c.2.W/\(∀x∈c.1.dC,Al x)/\∀t∈c.1.cp,Dh t
theorem aCw{x}{aF:List V}(r:A5 h x aF):∃c:Form.eX×j4,aaB h c aF:=by
 obtain⟨vr,b5,rfl,⟨rfl,_⟩,oZ,d7,rfl,dX,tj,jW,rfl,e3,pN,iq,rfl,j1,mV,n2,rfl,nz,Mb,yy,rfl,pU,rfl⟩:=r;obtain⟨cS,m,rfl,s2⟩:=aHH dX;obtain⟨cC,k,rfl,n0,_,_⟩:=Yv e3;obtain⟨bg,ch,rfl,sx,_,_⟩:=Yv j1;obtain⟨cK,n,rfl,Mk,yG,cM⟩:=aHF nz;obtain⟨cv,L,Y,S,W,rfl,aqo,fr⟩:=ak6 pU;exact⟨(⟨x.1,m,k,ch,n,L⟩,⟨cS,cC,bg,cK,cv,Y,S,W⟩),rfl,⟨s2,n0,sx,Mk,yG,aqo⟩,cM,fr⟩
theorem aCx{x}{aF:List V}(r:ae2 h x aF):∃bg ws p Y S W D,aF=[bg,ws]/\u4 h p bg ws Y S W D/\NQ p:=by
 obtain⟨vr,b5,rfl,je,oZ,d7,rfl,dX,rfl⟩:=r;obtain⟨bg,L,Y,S,W,rfl,fk,cB⟩:=ak6 je;obtain⟨v,aV,rfl,s,f,c,n⟩:=dX;obtain⟨cs,q,e⟩:=f.pick (Q:=aaB h) (fun a b x=>aCw x);obtain⟨rfl,z⟩:=eK.maps (f:=fun c:Form.eX×j4=>[V.int .i64 c.1.cz,c.2.cS,c.2.cC,c.2.bg,c.2.cK,c.2.cv]) q
 let D:Nat->j4:=fun i=>((cs[i]?).map fun c=>c.2).getD ⟨.fO,.fO,.fO,.fO,.fO,fun _=>.fO,fun _ _=>.fO,fun _ _=>.fO⟩
 have gC:∀{i c},cs[i]?=some c->D i=c.2:=fun{i c} e=>by simp only[D,e,zN,hC]
 refine⟨bg,v,⟨L,cs.map fun c=>c.1⟩,Y,S,W,D,rfl,⟨fk,?_,by show(cs.map _).length<_;rw[eQ];omega,fun i s e=>?_⟩,⟨cB,fun s aA=>?_,fun s aA=>?_⟩⟩
 ·have e:lH D 0 (cs.map fun c=>c.1)=cs.map fun c:Form.eX×j4=>[V.int .i64 c.1.cz,c.2.cS,c.2.cC,c.2.bg,c.2.cK,c.2.cv]:=by
   apply D5;intro i;cases U:cs[i]? with
   |none=>
    have ai:cs.length<=i:=by
     rcases dz i cs.length with z|z
     ·rw[hN z]at U;cases U
     ·exact z
    rw[ei (by rw[rq,eQ];exact ai),ei (by rw[eQ];exact ai)]
   |some c=>
    have:=Eg D 0 (cs.map fun c=>c.1) i c.1 (by rw[ij,U];rfl);rw[eH,gC U]at this;rw[this,ij,U];rfl
  show bB h v 6 (lH D 0 (cs.map fun c=>c.1));rw[e];exact s
 ·have e:(cs.map fun c=>c.1)[i]?=some s:=e;rw[ij]at e;cases U:cs[i]? with
  |none=>rw[U]at e;cases e
  |some c=>
   rw[U]at e;cases e;rw[gC U];exact(z c (c0 U)).1
 ·obtain⟨c,U,rfl⟩:=List.mem_map.1 aA;exact(z c U).2.1
 ·obtain⟨c,U,rfl⟩:=List.mem_map.1 aA;exact(z c U).2.2
end
section
open Go.Proofs Go.RowKit Go.Proofs.YtphcmfmpbndkbaaGreatDoor
noncomputable abbrev av:H:=wS rh (gQ 14)
theorem P0{f:P}{o:O}(e:av.get f=some o):(f,o)∈rh:=by
 rcases Lq (l:=rh) (m:=.e) e with h1|⟨_,h1⟩
 ·exact h1
 ·exfalso;have:cA.get f (cA.e:cA O)=none:=by cases f<;>rfl
  rw[this]at h1;cases h1
theorem Ps{f:P}{o:O}(h:(f,o)∈rh):∃g xs ty,g<5/\f=gQ g/\o=.cells xs 0 0 .ro ty/\∀W:World,laidMetH a4 laid W->W.ShapedOpen a4->ou a4 eS xs .ro ty true ⟨g,0,ie g,ie g⟩ W.heap:=by
 rw[azV]at h;simp only[lT,tf,sg,G6]at h;rcases h with⟨rfl,rfl⟩|⟨rfl,rfl⟩|⟨rfl,rfl⟩|⟨rfl,rfl⟩|⟨rfl,rfl⟩
 ·exact⟨0,_,_,by decide,rfl,rfl,fun W a b=>kQ a b⟩
 ·exact⟨1,_,_,by decide,rfl,rfl,fun W a b=>fZ a b⟩
 ·exact⟨2,_,_,by decide,rfl,rfl,fun W a b=>dD a b⟩
 ·exact⟨3,_,_,by decide,rfl,rfl,fun W a b=>gx a b⟩
 ·exact⟨4,_,_,by decide,rfl,rfl,fun W a b=>hT b⟩
theorem aHI{W:World}(au:laidMetH a4 laid W):12<=W.heap.size:=by
 obtain⟨⟨ps,ar,_⟩,_⟩:=laidMetH_iff.1 au;obtain⟨bR,h0,cs,fuel,p,a,b,c,q⟩:=YF ar (List.mem_filter.2 ⟨aCt,by kernel_rfl⟩);obtain⟨ty,du,aJ⟩:=Yu azK c;rcases dz 11 W.heap.size with h|h
 ·exact h
 ·rw[vd h]at aJ;cases aJ
theorem TK:aH av.next=14:=by kernel_rfl
theorem ak7{f:P}{k:Nat}:¬av.jU f k:=fun hw=>by
 have au:=hw.1;unfold H.dE at au;cases iv:av.get f with
 |none=>rw[iv]at au;exact au
 |some o=>
  obtain⟨g,xs,ty,_,_,rfl,_⟩:=Ps (P0 iv);exact hw.2 _ _ _ _ iv
theorem aKD:oQ av rh=true:=by kernel_rfl
theorem aoe{W:World}(au:laidMetH a4 laid W)(aA:W.ShapedOpen a4):z5 a4 W eS av:=by
 have aP1:=aHI au;refine⟨⟨fun f k l e=>?_,fun f xs aZ dead md ty dO iv h4 k i6 km=>?_,fun f o l iv U h4=>?_,fun f k l g j m a b c d bV hw=>?_,fun f xs aZ dead md ty k iv hk=>?_,fun f o k iv U hk=>?_,fun f k l j m a b ah=>?_,fun f aE=>?_⟩,fun f k l _=>ak7⟩
 ·obtain⟨rfl,g,aC,rfl,rfl⟩:=Lz e;exact⟨by show g<W.heap.size;omega,by rw[TK,Yt g aC];omega,a1 _,_,Xu aC⟩
 ·obtain⟨g,nB,gF,aC,rfl,e,U⟩:=Ps (P0 iv);cases e;have hk:k=0:=by omega
  subst hk;exact⟨_,Xu (by omega),U W au aA⟩
 ·obtain⟨g,nB,gF,aC,rfl,rfl,_⟩:=Ps (P0 iv);simp[O.k2]at U
 ·rcases hw with hw|hw<;>exact absurd hw ak7
 ·cases e:eS f k with
  |none=>rfl
  |some l=>
   obtain⟨rfl,_⟩:=Lz e;omega
 ·cases e:eS f k with
  |none=>rfl
  |some l=>
   obtain⟨rfl,_⟩:=Lz e;omega
 ·obtain⟨_,g,_,_,rfl⟩:=Lz a;obtain⟨_,bR,_,_,rfl⟩:=Lz b;rfl
 ·cases iv:av.get f with
  |none=>rfl
  |some o=>
   obtain⟨g,nB,gF,aC,rfl,rfl,_⟩:=Ps (P0 iv);rw[TK,Yt g (by omega)]at aE;omega
theorem aHJ:g0 a4 eS:=fun g oz n kV eN=>by
 have ay:g<12:=by
  rcases dz g a4.globals.size with h|h
  ·rw[Bt]at h;exact h
  ·rw[vd h]at kV;cases kV
 refine⟨_,Xu ay,rfl,rfl,?_⟩;show n<=ie g;unfold ie;rw[kV];simp[eN]
section
variable {X:Type}{W:World}{enc:TypeId×Value->X}{held:Bool}
theorem azW:oT a4 W enc held 232 xY:=L6 Tryz.underlying232 (by kernel_rfl) (qE (by kernel_rfl) nM.eD (Ls Tryz.underlying9 (by kernel_rfl)) (qE (by kernel_rfl) nM.eD (Ls Tryz.underlying9 (by kernel_rfl)) L0))
theorem azX:oT a4 W enc held 62 zu:=L6 Tryz.underlying62 (by kernel_rfl) (qE (by kernel_rfl) (mx.eD _) (Qa Tryz.underlying3 (by kernel_rfl)) (qE (by kernel_rfl) Gx.eD (aIf Tryz.underlying4 (by kernel_rfl)) L0))
theorem aCy(gv:∃(b:Nat) (c:Array Value) (ty:TypeId) (du:Nat×Nat),W.heap[b]?=some (.cells c ty du)):oT a4 W enc held 88 (hL 2 xY):=Ex xY.st Tryz.underlying88 (by kernel_rfl) (by kernel_rfl) (by decide) azW gv
theorem Xv(gv:∃(b:Nat) (c:Array Value) (ty:TypeId) (du:Nat×Nat),W.heap[b]?=some (.cells c ty du)):oT a4 W enc held 58 (hL 1 (mx .i64)):=Ex (mx.eD _) Tryz.underlying58 (by kernel_rfl) (by kernel_rfl) (by decide) (Qa Tryz.underlying3 (by kernel_rfl)) gv
theorem avq(gv:∃(b:Nat) (c:Array Value) (ty:TypeId) (du:Nat×Nat),W.heap[b]?=some (.cells c ty du)):oT a4 W enc held 90 Di:=L6 Tryz.underlying90 (by kernel_rfl) (qE (by kernel_rfl) (mx.eD _) (Qa Tryz.underlying3 (by kernel_rfl)) (qE (by kernel_rfl) nM.eD (Ls Tryz.underlying9 (by kernel_rfl)) (qE (by kernel_rfl) nM.eD (Ls Tryz.underlying9 (by kernel_rfl)) (qE (by kernel_rfl) (hL.eD xY.st) (aCy gv) (qE (by kernel_rfl) (hL.eD (mx.eD _)) (Xv gv) L0)))))
theorem avr(gv:∃(b:Nat) (c:Array Value) (ty:TypeId) (du:Nat×Nat),W.heap[b]?=some (.cells c ty du)):oT a4 W enc held 52 uX:=Ex Di.st Tryz.underlying52 (by kernel_rfl) (by kernel_rfl) (by decide) (avq gv) gv
theorem ae3(gv:∃(b:Nat) (c:Array Value) (ty:TypeId) (du:Nat×Nat),W.heap[b]?=some (.cells c ty du)):oT a4 W enc held 22 (hL 1 uX):=Ex uX.st Tryz.underlying22 (by kernel_rfl) (by kernel_rfl) (by decide) (avr gv) gv
theorem aCz(gv:∃(b:Nat) (c:Array Value) (ty:TypeId) (du:Nat×Nat),W.heap[b]?=some (.cells c ty du)):oT a4 W enc held 43 (hL 2 zu):=Ex zu.st Tryz.underlying43 (by kernel_rfl) (by kernel_rfl) (by decide) azX gv
theorem aCA(gv:∃(b:Nat) (c:Array Value) (ty:TypeId) (du:Nat×Nat),W.heap[b]?=some (.cells c ty du)):oT a4 W enc held 46 (hL 1 nM):=Ex nM.eD Tryz.underlying46 (by kernel_rfl) (by kernel_rfl) (by decide) (Ls Tryz.underlying9 (by kernel_rfl)) gv
theorem avs(gv:∃(b:Nat) (c:Array Value) (ty:TypeId) (du:Nat×Nat),W.heap[b]?=some (.cells c ty du)):oT a4 W enc held 64 A5:=L6 Tryz.underlying64 (by kernel_rfl) (qE (by kernel_rfl) (mx.eD _) (Qa Tryz.underlying3 (by kernel_rfl)) (qE (by kernel_rfl) (hL.eD zu.st) (aCz gv) (qE (by kernel_rfl) (hL.eD (mx.eD _)) (Xv gv) (qE (by kernel_rfl) (hL.eD (mx.eD _)) (Xv gv) (qE (by kernel_rfl) (hL.eD nM.eD) (aCA gv) (qE (by kernel_rfl) (hL.eD uX.st) (ae3 gv) L0))))))
theorem azY(gv:∃(b:Nat) (c:Array Value) (ty:TypeId) (du:Nat×Nat),W.heap[b]?=some (.cells c ty du)):oT a4 W enc held 23 (hL 6 A5):=Ex A5.st Tryz.underlying23 (by kernel_rfl) (by kernel_rfl) (by decide) (avs gv) gv
theorem avt(gv:∃(b:Nat) (c:Array Value) (ty:TypeId) (du:Nat×Nat),W.heap[b]?=some (.cells c ty du)):oT a4 W enc held 25 ae2:=L6 Tryz.underlying25 (by kernel_rfl) (qE (by kernel_rfl) (hL.eD uX.st) (ae3 gv) (qE (by kernel_rfl) (hL.eD A5.st) (azY gv) L0))
end
end
section
open Go.Proofs Go.RowKit Go.ChangeShapes Go.WideShapes Go.ChangeAt Go.Proofs.YtphcmfmpbndkbaaGreatDoor
theorem aJB{X:Type}{enc:TypeId×Value->X}{W:World}(au:laidMetH a4 laid W)(aA:W.ShapedOpen a4){v w:Value}{d:DataW X}{p:List MemPlace}(ar:∃cs,v=.agg cs)(hw:∃n,w=.int .i64 n)
  (h1:DataW.Trod enc a4 W 0 (fun _=>true) true 25 v d p):Calls a4 3 #[v,w] W fun e w'=>e=.returned (.bool true)/\Below W.heap.size W w':=by
 obtain⟨cs,rfl⟩:=ar;obtain⟨n,rfl⟩:=hw;obtain⟨iO,fk⟩:=h1;have fk:DataW.trod enc a4 W 0 (fun _=>true) true iO 25 cs.toList=some (d,p):=fk;have gv:∃(b:Nat) (c:Array Value) (ty:TypeId) (du:Nat×Nat),W.heap[b]?=some (.cells c ty du):=by
  obtain⟨cs,e⟩:=GY aA (g:=0) (by rw[Bt];decide) fq;exact⟨0,cs,_,_,e⟩
 obtain⟨hZ,aB,JN,x,cB,bU,bC,b0,cM,fr,f0⟩:=avt gv iO _ _ eS av fk (aoe au aA);obtain⟨bg,ws,e4,Y,S,Z,D,rfl,ir,ah⟩:=aCx f0;exact aJA (aHJ.mono bU) cB.rel cB.vx (Za bC (aoe au aA).ok aKD) ir ah n (.cons (.agg b0 cM) (.cons (.int .i64 n) .nil))
end
end Go.ao
