/- A part of the proof that ProofForms holds for every input. -/
import Derived.Test.YtphcmfmpbndkbaaGreatDoorQ18
set_option maxRecDepth 100000
set_option maxHeartbeats 4000000
set_option linter.all false
noncomputable section
namespace Go.ao
section
open Form
open cE (lt ix b1)
variable {J:Prog}[ak J]{a:H}
theorem aJc{ty es bytes:Nat}{h aa:H}{a b v:V}(e: pt h ty es bytes a b=some (v,aa)){g:P}(r:ik v g):ik a g\/aH h.next<=aH g:=by
 obtain⟨_,_,_,_,_,rfl⟩:=r;unfold pt append FY FX at e
 repeat' (split at e)
 all_goals first
  |(cases e;exact .inr (a1 _))
  |(cases e;exact .inl ⟨_,_,_,_,_,rfl⟩)
  |cases e
theorem bD.akZ{ty es b:Nat}{h aa:H}{v x:V}{l:List (List V)}(o:bD ty es b h v l)[k:aK h](q:∀g,aH g<aH h.next->¬ik x g->aa.get g=h.get g)(ap:∀g,ik v g->¬ik x g):bD ty es b aa v l:=by
 rcases o with a|⟨f,aZ,off,cap,rfl,ah,o⟩
 ·exact .inl a
 ·exact .inr ⟨f,aZ,off,cap,rfl,ah,o.wi (q f (o.lt k.ok) (ap f ⟨_,_,_,_,_,rfl⟩))⟩
theorem Yr{ty es bytes fb:Nat}{h:H}{a b:V}{l m:List (List V)}[k:aK h](bN:bD ty es fb h a l)(ah:bB h b es m)(rJ:fb<=aH h.next)(hz:l.length+m.length<=1099511627776)(j6:(l.length+m.length)*bytes<=1099511627776):
  ∃v aa,pt h ty es bytes a b=some (v,aa)/\bD ty es fb aa v (l++m)/\vz fb h aa/\(∀R:H->Prop,gH ty R->R h->R aa)/\(∀g,aH g<aH h.next->¬ik a g->aa.get g=h.get g)/\∀g,ik v g->ik a g\/aH h.next<=aH g:=by
 obtain⟨v,aa,e,o,et,st⟩:=ui (bytes:=bytes) bN ah rJ hz j6;obtain⟨v2,ae,bd,_,_,_,q⟩:=Pl (bytes:=bytes) bN ah k.ok rJ hz j6;rw[e]at bd;cases bd;exact⟨v,aa,e,o,et,st,q,fun g r=>aJc e r⟩
def ua(m:Int)(K:List Int)(b:Bool):List (List b1):=K.map (fun i=>[(m,b),(i,!b)])++[(m,!b)::K.map fun i=>(i,b)]
theorem aj4{w:V}{K:List Int}[bP:aK a](s:bB a w 1 (dH K))(j0:K.length<1000000)(m:Int)(b:Bool):cJ J a 250 [.ad m,w,.bool b] (fun z h=>pn h z (ua m K b)):=by
 refine cJ.bE ak.ahp rfl fun h ca g=>?_;have c6:=s.a2;rw[c7]at c6;have pf:aj h (h.new (.af [.ad m,.bool (!b)] 62)):=an;have kQ:bD 62 2 (aH h.next) (h.new (.af [.ad m,.bool (!b)] 62)) (.ag h.next 0 0 1 2 (some 1)) (dv [(m,!b)]):=BM (l:=dv [(m,!b)]) (LQ _) (some 1) (fun n e=>by cases e;rfl);simp only[aho,go_sem,seval,KY,j7];refine dK K.length (fun i t=>∃I h1 o e1 Y,t=⟨I,[],h1⟩/\aj h h1/\bD 43 1 (aH h.next) h1 o (cI (dT Y i))/\bD 62 2 (aH h.next) h1 e1 (dv ((m,!b)::(K.take i).map fun x=>(x,b)))/\(∀j x,j<i->K[j]?=some x->bD 62 2 (aH h.next) h1 (Y j) (dv [(m,b),(x,!b)])/\∀g,ik (Y j) g->¬ik e1 g)/\
  I.gt 0=.ad m/\I.gt 1=w/\I.gt 2=.bool b/\I.gt 7=o/\I.gt 8=e1/\I.gt 9=.ad (i:Nat)) ?_ ?_ (dk _) ⟨_,_,.al,_,fun _=>.fO,rfl,pf,.nil _ _ _ _,kQ,fun _ _ h=>absurd h (nV _),?_,?_,?_,?_,?_,?_⟩
 ·rintro i t ai ⟨I,h1,o,e1,Y,rfl,aB,dt,FR,jX,bq,f1,cq,cH,cQ,dm⟩;have bW:=aB.bx;have dx:aj a h1:=g.aG aB;obtain⟨x,ab⟩:=bI ai;have ay:((i:Int)<(K.length:Int)):=by omega
  have bJ:=s.addr (i:=i) (by rw[c7];exact ai);have cY:=s.bM (gn ab);have iO:=aB.g.next
  obtain⟨eb,ff⟩:∃H:H,H=h1.new (.af [.ad m,.bool b,.ad x,.bool (!b)] 62):=⟨_,rfl⟩;have c3:aK eb:=by rw[ff];exact an
  have aY:aj h1 eb:=by rw[ff];exact an
  have ey:aj h eb:=aB.aG aY;have iP:aH eb.next=aH h1.next+1:=by rw[ff,fF,gu]
  have Q4:bD 62 2 (aH h1.next) eb (.ag h1.next 0 0 2 2 (some 2)) (dv [(m,b),(x,!b)]):=by rw[ff];exact BM (l:=dv [(m,b),(x,!b)]) (LQ _) (some 2) (fun n e=>by cases e;rfl)
  have e0:aj eb (eb.new (.af [.ag h1.next 0 0 2 2 (some 2)] 43)):=an;obtain⟨eU,az,bO,iH,A2,n9,_,_⟩:=Yr (bytes:=24) (dt.aO (aY.aG e0)) (wI (h:=eb) (c:=[.ag h1.next 0 0 2 2 (some 2)]) (es:=1) (ty:=43) rfl) (by rw[fF,gu];omega) (by simp only[dL,d4,eG,eJ];omega) (by simp only[dL,d4,eG,eJ];omega);have fo:=A2.ok;have b4:aj h az:=A2.aO h (a1 _);have pk:aj a az:=g.aG b4;have ER:=A2.next
  rw[fF,gu]at ER;have azd:=n9 _ (bD.fR (by decide)) (FR.aO (aY.aG e0));have at2:=n9 _ (bD.fR (by decide)) (Q4.aO e0);have qb:aj az (az.new (.af [.ad x,.bool b] 62)):=an;have Mq:aH (az.new (.af [.ad x,.bool b] 62)).next=aH az.next+1:=by rw[fF,gu]
  obtain⟨lg,cb,eY,g9,JM,aze,dn,nz⟩:=Yr (bytes:=16) (azd.aO qb) (wI (h:=az) (c:=[.ad x,.bool b]) (es:=2) (ty:=62) rfl) (by rw[Mq];omega) (by simp only[c9,eG,eQ,el,eJ];omega) (by simp only[c9,eG,eQ,el,eJ];omega);have lX:=JM.ok;have eg:aj h cb:=JM.aO h (a1 _);have at3:=FR.y6;simp only[go_sem,seval,bq,f1,cq,cH,cQ,dm,c6,ay,bJ,cY,KY,j7,lJ,l5];simp only[<-ff];simp only[go_sem,seval,bO,bq,f1,cq,cH,cQ,dm,bJ,cY,KY,j7,eY,cG (show i<9223372036854775807 by omega)];refine⟨_,cb,eU,lg,upd Y i (.ag h1.next 0 0 2 2 (some 2)),rfl,eg,?_,?_,fun j y a5 ax=>?_,?_,?_,?_,?_,?_,?_⟩
  ·rw[<-Ly];exact aze _ (bD.fR (by decide)) (iH.aO qb)
  ·have e:dv ((m,!b)::(K.take (i+1)).map fun x=>(x,b))=dv ((m,!b)::(K.take i).map fun x=>(x,b))++[[.ad x,.bool b]]:=by
    rw[nq ab];simp[dv]
   rw[e];exact g9
  ·by_cases ib:j=i
   ·subst ib;rw[ab]at ax;cases ax;rw[kf];have ap:∀g,ik (.ag h1.next 0 0 2 2 (some 2)) g->¬ik e1 g:=by
     rintro g ⟨_,_,_,_,_,e⟩ q;cases e;have:=at3.root q;omega
    refine⟨((at2.aO qb).mono iO).akZ dn ap,fun g r q=>?_⟩
    rcases nz g q with q|q
    ·exact ap g r q
    ·obtain⟨_,_,_,_,_,e⟩:=r;cases e;omega
   ·rw[iN _ _ ib];obtain⟨EU,aab⟩:=jX j y (by omega) ax;have at4:=n9 _ (bD.fR (by decide)) (EU.aO (aY.aG e0));refine⟨(at4.aO qb).akZ dn aab,fun g r q=>?_⟩;rcases nz g q with q|q
    ·exact aab g r q
    ·have:=EU.y6.root r;omega
  all_goals simp only[go_sem,seval,bq,f1,cq]
 ·rintro t ⟨I,h1,o,e1,Y,rfl,aB,dt,FR,jX,bq,f1,cq,cH,cQ,dm⟩;have bW:=aB.bx;have iO:=aB.g.next
  have ay:¬((K.length:Int)<(K.length:Int)):=by omega
  rw[g5]at FR;have e0:aj h1 (h1.new (.af [e1] 43)):=an;obtain⟨eU,az,bO,iH,A2,n9,_,_⟩:=Yr (bytes:=24) (dt.aO e0) (wI (h:=h1) (c:=[e1]) (es:=1) (ty:=43) rfl) (by rw[fF,gu];omega) (by simp only[dL,d4,eG,eJ];omega) (by simp only[dL,d4,eG,eJ];omega);have fo:=A2.ok;have b4:aj h az:=A2.aO h (a1 _);have E8:=FR.ag.cell;have TN:g6 43 1 1 [.al] [(0,1,e1)]=some (.af [e1] 43,fun f=>.ag f 0 0 1 1 (some 1)):=by simp only[g6,oU,E8];rfl
  simp only[go_sem,seval,f1,cH,cQ,dm,c6,ay,TN,bO];have hlen:(ua m K b).length=K.length+1:=by simp[ua]
  rw[Ly]at iH;refine⟨upd Y K.length e1,by rw[hlen];exact iH.ag,fun i c U=>?_⟩;unfold ua at U;rcases Qi U with⟨ai,U⟩|⟨ai,rfl⟩
  ·rw[eQ]at ai;rw[iN _ _ (by omega)];rw[ij]at U;cases aM:K[i]? with
   |none=>rw[aM]at U;cases U
   |some x=>
    rw[aM]at U;cases U;exact(n9 _ (bD.fR (by decide)) ((jX i x ai aM).1.aO e0)).ag
  ·rw[eQ]at ai;subst ai;rw[kf];exact(n9 _ (bD.fR (by decide)) (FR.aO e0)).ag
 all_goals simp only[go_sem,seval]
def pD(p:jh)(a:Nat):List (List b1):=
 let f:=(p.atoms[a]?).getD []
 let k:=(ku f).map fun t=>mc p.atoms t 0
 if mR f=6 then ua a k true else if mR f=7 then ua a k false else candidates p a
theorem ak0{h:H}: pn h .al []:=⟨fun _=>.fO,⟨fun e he=>by simp[cI,dT]at he,.inl ⟨rfl,by simp[cI,dT]⟩⟩,fun i c U=>by simp at U⟩
theorem azf[bP:aK a]{p:Form.jh}{bg aF:V}{Y:Nat->V}{S W:Nat->Nat->V}(r:sO a p.atoms bg Y S W)(au: p.atoms.length<1000000)(oN:∀t∈p.atoms,t.length<1000000/\r4 t)(y8:∀t∈p.atoms,hQ t=0){m:Nat}(hm:m<p.atoms.length):
  cJ J a 116 [.agg [bg,aF],.ad (m:Nat)] (fun w h=>pn h w (pD p m)):=by
 refine cJ.bE ak.af9 rfl fun h ca g=>?_;obtain⟨t,bp⟩:=bI hm;obtain⟨kk,xH⟩:=oN t (c0 bp);have Ju:=y8 t (c0 bp);have R:=yg Ju;have aU:=r.row m t bp;obtain⟨n,aq⟩:=bI (l:=t) (i:=t.length-1) (by have:=R.ne;omega);have tX:i1 t=n.kids:=by unfold i1;rw[aq];rfl
 have iV:mR t=n.op:=by unfold mR q8;rw[Ld,aq];rfl
 have rZ:=(R.ok (t.length-1)).hJ aq;have kc:=R.shape aq;have aE:(p.atoms[m]?).getD []=t:=by rw[bp];rfl
 have lk:m<(cI (dT Y p.atoms.length)).length:=by rw[dL,d4];exact hm
 have cl:=JI (J:=J) aU kk aq;obtain⟨bU,e8⟩:∃b:P,b=h.next:=⟨_,rfl⟩
 obtain⟨fr,p8⟩:∃b:P,b=(cg cl (h.new (.af [bg,aF] 25)) an).next:=⟨_,rfl⟩
 obtain⟨H1,cR⟩:∃H:H,H=(cg cl (h.new (.af [bg,aF] 25)) an).new (.af [.ad n.op,.str n.sort,.str n.name,S m (t.length-1),W m (t.length-1)] 90):=⟨_,rfl⟩;have bW:aK H1:=by rw[cR];exact an
 have aB:aj h H1:=by rw[cR];exact an
 have dx:aj a H1:=g.aG aB;have a8:H1.get bU=some (.af [bg,aF] 25):=by rw[cR,e8];simp only[go_sem,seval,bQ]
 have dQ:H1.get fr=some (.af [.ad n.op,.str n.sort,.str n.name,S m (t.length-1),W m (t.length-1)] 90):=by rw[cR,p8];exact ef
 have dD:=aP a8;have qM:=aP dQ;have uG:=ay9 (J:=J) aU kk Ju;simp only[af8,go_sem,seval,l9,ma,r.ag.addr lk,r.ag.bM (jc (kx Y hm)),cl.cl,eW,mq];simp only[<-e8,<-p8];simp only[<-cR];refine uG.run fun pW ae aY c3 dX=>?_;obtain⟨Co,aMS,aMT,vG⟩:=dX;have ey:aj h ae:=aB.aG aY;have iW:aj a ae:=dx.aG aY;have kC:=aY.dW;have cO:=(aY.gt bU).trans a8;have HT:=(aY.gt fr).trans dQ;have dX:=r.aO bP.ok iW;obtain⟨K,mG⟩:∃K:List Int,K=(ku t).map fun u=>mc p.atoms u 0:=⟨_,rfl⟩;have tB:(ku t).length=n.kids.length:=by rw[an5,tX]
 have Nz:K.length=n.kids.length:=by rw[mG,eQ,tB]
 have Jv:n.kids.length<1000000:=(aU.row _ n aq).ki;have Rx:=vG.ag.a2;rw[dL,d4,tB,<-Nz]at Rx;simp only[go_sem,seval];refine dK K.length (fun i s=>∃I az w,s=⟨I,[],az⟩/\aj ae az/\bD 3 1 (aH ae.next) az w (dH (K.take i))/\I.gt 1=.ad (m:Nat)/\I.gt 2=.ptr bU 0 0 2/\I.gt 6=.ptr fr 0 0 5/\I.gt 7=w/\I.gt 8=pW/\I.gt 9=.ad (i:Nat)) ?_ ?_ (dk _) ⟨_,ae,.al,rfl,an,.nil _ _ _ _,?_,?_,?_,?_,?_,?_⟩
 ·rintro i s ai ⟨I,az,w,rfl,b4,dt,f1,cq,cj,cH,cQ,dm⟩;have fo:=b4.bx;have l3:aj h az:=ey.aG b4;have vC:=b4.dW;have at5:=(b4.gt bU).trans cO;have ER:=b4.g.next
  have TO:i<(ku t).length:=by rw[tB,<-Nz];exact ai
  obtain⟨u,hu⟩:=bI TO;have ab:K[i]?=some (mc p.atoms u 0):=by rw[mG,ij,hu];rfl
  have ay:((i:Int)<(K.length:Int)):=by omega
  have bJ:=vG.ag.addr (i:=i) (by rw[dL,d4];exact TO);have cY:=vG.ag.bM (jc (kx Co TO));have uE:=azb (J:=J) (aF:=aF) dX (vG.row i u hu) au (fun u hu=>(oN u hu).1);obtain⟨e6,jD⟩:∃H:H,H=cg uE az an:=⟨_,rfl⟩;have mE:aK e6:=by rw[jD];exact an
  have qb:aj az e6:=by rw[jD];exact an
  have y7:aj h e6:=l3.aG qb;have NN:aj ae e6:=b4.aG qb;have e0:aj e6 (e6.new (.af [.ad (mc p.atoms u 0)] 3)):=an;have Mq:=NN.g.next
  obtain⟨lg,cb,eY,g9,JM⟩:=uh (bytes:=8) (dt.aO (qb.aG e0)) (wI (h:=e6) (c:=[.ad (mc p.atoms u 0)]) (es:=1) (ty:=3) rfl) (by rw[fF,gu];omega) (by simp only[c7,el,eG,eJ];omega) (by simp only[c7,el,eG,eJ];omega);have lX:=JM.ok;have ND:aj ae cb:=JM.aO ae (a1 _);have eg:aj h cb:=ey.aG ND;have bs:∀x:Int,g6 3 1 1 [.ad 0] [(0,1,.ad x)]=some (.af [.ad x] 3,fun f=>.ag f 0 0 1 1 (some 1)):=fun _=>rfl;simp only[go_sem,seval,f1,cq,cj,cH,cQ,dm,Rx,ay,at5,mr,bJ,cY,uE.bL,bs];simp only[<-jD];simp only[go_sem,seval,eY,f1,cq,cj,cH,cQ,dm,cG (show i<9223372036854775807 by omega)];refine⟨_,cb,lg,rfl,ND,?_,?_,?_,?_,?_,?_,?_⟩
  ·have e:dH (K.take (i+1))=dH (K.take i)++[[.ad (mc p.atoms u 0)]]:=by rw[nq ab];simp[dH]
   rw[e];exact g9
  all_goals simp only[go_sem,seval,f1,cq,cj,cQ]
 ·rintro s ⟨I,az,ny,rfl,b4,dt,f1,cq,cj,cH,cQ,dm⟩;have fo:=b4.bx;have l3:aj h az:=ey.aG b4;have pk:aj a az:=iW.aG b4;have vC:=b4.dW;have ap9:=(b4.gt fr).trans HT;have ay:¬((K.length:Int)<(K.length:Int)):=by omega
  rw[g5]at dt;have ic:=dt.ag;have eL:=fun x:Int=>aj0 (J:=J) (a:=az) x;have ep:=fun x:Int=>aj1 (J:=J) (a:=az) x;have fin:∀{aX:H} {f:P} {aF:List V} {cs:List (List b1)} {k:Nat},aX.get f=some (.af aF 43) ->aF.length=k->cs.length=k->(∀(i:Nat) (v:V) (x:List b1),aF[i]?=some v->cs[i]?=some x->bB aX v 2 (dv x)) ->pD p m=cs->pn aX (.ag f 0 0 k 1 (some k)) (pD p m):=fun e h1 ae az bo=>by rw[bo];exact Wi e h1 ae _ az
  have ce:n.op≠6->n.op≠7->pD p m=candidates p m:=fun oA qJ=>by
   unfold pD;simp only[aE,iV];rw[bf oA,bf qJ]
  simp only[go_sem,seval,f1,cq,cj,cH,cQ,dm,Rx,ay,ap9,g2,g1];by_cases oE:n.op=0
  ·simp(config:={maxSteps:=2000000}) only[go_sem,seval,f1,cH,cQ,(eL _).cl,(ep _).cl,(eL _).bL,(ep _).bL,bQ,ls,j7,lJ,l4,l5,mu,mv,l6,oE];refine fin (cs:=[[((m:Int),false)]]) (by simp only[go_sem,seval,bQ];rfl) rfl rfl ?_ ?_
   ·rintro i v c ar U
    match i,ar,U with
    |0,ar,U=>cases ar;cases U;exact iY (ty:=62) (by simp only[go_sem,seval,bQ];rfl) rfl _
    |i+1,ar,U=>simp at ar
   ·rw[ce (by omega) (by omega)];unfold candidates;simp only[aE,iV,oE,<-mG,hC];simp
  by_cases i2:n.op=1
  ·simp(config:={maxSteps:=2000000}) only[go_sem,seval,f1,cH,cQ,(eL _).cl,(ep _).cl,(eL _).bL,(ep _).bL,bQ,ls,j7,lJ,l4,l5,mu,mv,l6,oE,i2];refine fin (cs:=[[((m:Int),true)]]) (by simp only[go_sem,seval,bQ];rfl) rfl rfl ?_ ?_
   ·rintro i v c ar U
    match i,ar,U with
    |0,ar,U=>cases ar;cases U;exact iY (ty:=62) (by simp only[go_sem,seval,bQ];rfl) rfl _
    |i+1,ar,U=>simp at ar
   ·rw[ce (by omega) (by omega)];unfold candidates;simp only[aE,iV,i2,<-mG,hC];simp
  by_cases gY:n.op=5
  ·have hk:n.kids.length=1:=by unfold Form.shape at kc;rw[gY]at kc;simpa using kc
   obtain⟨x,ab⟩:=bI (l:=K) (i:=0) (by omega);have qc:jP 1 ny (.ad 0)=_:=ic.addr (i:=0) (by rw[c7];omega);have qd:=ic.bM (gn ab);simp(config:={maxSteps:=2000000}) only[go_sem,seval,f1,cH,cQ,(eL _).cl,(ep _).cl,(eL _).bL,(ep _).bL,bQ,ls,j7,lJ,l4,l5,mu,mv,l6,qc,qd,oE,i2,gY];refine fin (cs:=[[((m:Int),false),(x,false)],[((m:Int),true),(x,true)]]) (by simp only[go_sem,seval,bQ];rfl) rfl rfl ?_ ?_
   ·rintro i v c ar U
    match i,ar,U with
    |0,ar,U=>cases ar;cases U;exact iY (ty:=62) (by simp only[go_sem,seval,bQ];rfl) rfl _
    |1,ar,U=>cases ar;cases U;exact iY (ty:=62) (by simp only[go_sem,seval,bQ];rfl) rfl _
    |i+2,ar,U=>simp at ar
   ·rw[ce (by omega) (by omega)];unfold candidates;simp only[aE,iV,gY,<-mG,ab,hC];simp
  by_cases oA:n.op=6
  ·have lb:=aj4 (J:=J) ic (by omega) (m:Int) true;simp only[go_sem,seval,f1,cH,oE,i2,gY,oA];refine lb.run fun Cp cb eg lX nz=>?_;have oP:aj h cb:=l3.aG eg;simp only[go_sem,seval];have e: pD p m=ua m K true:=by
    unfold pD;simp only[aE,iV,<-mG];rw[bl oA]
   rw[e];exact nz
  by_cases qJ:n.op=7
  ·have lb:=aj4 (J:=J) ic (by omega) (m:Int) false;simp only[go_sem,seval,f1,cH,oE,i2,gY,oA,qJ];refine lb.run fun Cp cb eg lX nz=>?_;have oP:aj h cb:=l3.aG eg;simp only[go_sem,seval];have e: pD p m=ua m K false:=by
    unfold pD;simp only[aE,iV,<-mG];rw[bf oA,bl qJ]
   rw[e];exact nz
  by_cases hs:n.op=8
  ·have hk:n.kids.length=2:=by unfold Form.shape at kc;rw[hs]at kc;simpa using kc
   obtain⟨x,ab⟩:=bI (l:=K) (i:=0) (by omega);have qc:jP 1 ny (.ad 0)=_:=ic.addr (i:=0) (by rw[c7];omega);have qd:=ic.bM (gn ab);obtain⟨y,ax⟩:=bI (l:=K) (i:=1) (by omega);have tZ:jP 1 ny (.ad 1)=_:=ic.addr (i:=1) (by rw[c7];omega);have ld1:=ic.bM (gn ax);simp(config:={maxSteps:=2000000}) only[go_sem,seval,f1,cH,cQ,(eL _).cl,(ep _).cl,(eL _).bL,(ep _).bL,bQ,ls,j7,lJ,l4,l5,mu,mv,l6,qc,qd,tZ,ld1,oE,i2,gY,oA,qJ,hs];refine fin (cs:=[[((m:Int),false),(x,false)],[((m:Int),false),(y,true)],[((m:Int),true),(x,true),(y,false)]]) (by simp only[go_sem,seval,bQ];rfl) rfl rfl ?_ ?_
   ·rintro i v c ar U
    match i,ar,U with
    |0,ar,U=>cases ar;cases U;exact iY (ty:=62) (by simp only[go_sem,seval,bQ];rfl) rfl _
    |1,ar,U=>cases ar;cases U;exact iY (ty:=62) (by simp only[go_sem,seval,bQ];rfl) rfl _
    |2,ar,U=>cases ar;cases U;exact iY (ty:=62) (by simp only[go_sem,seval,bQ];rfl) rfl _
    |i+3,ar,U=>simp at ar
   ·rw[ce (by omega) (by omega)];unfold candidates;simp only[aE,iV,hs,<-mG,ab,ax,hC];simp
  by_cases hI:n.op=9
  ·have hk:n.kids.length=2:=by unfold Form.shape at kc;rw[hI]at kc;simpa using kc
   have h3:=aj2 (J:=J) ic (by omega) (m:Int);simp only[go_sem,seval,f1,cH,oE,i2,gY,oA,qJ,hs,hI];refine h3.run fun Cp cb eg lX nz=>?_;have oP:aj h cb:=aj.aG (b:=_) an eg;simp only[go_sem,seval];have e: pD p m=both m K:=by
    rw[ce (by omega) (by omega)];unfold candidates;simp only[aE,iV,hI,<-mG];simp
   rw[e];exact nz
  by_cases xC:n.op=11
  ·have hk:n.kids.length=2:=by unfold Form.shape at kc;rw[xC]at kc;simpa using kc
   have h3:=aj2 (J:=J) ic (by omega) (m:Int);obtain⟨u,hu⟩:=bI (l:=ku t) (i:=0) (by omega);have xc:=(vG.row 0 u hu).aO c3.ok b4;have kq:u.length<1000000/\0<u.length:=by
    obtain⟨fa,tY⟩:=bI (l:=i1 t) (i:=0) (by rw[tX];omega);have ayh:=rZ fa (by rw[<-tX];exact c0 tY);rw[ku,ij,tY]at hu;cases hu;show(lM t fa.toNat).length<1000000/\0<(lM t fa.toNat).length;have rG:=anc (t:=t) (k:=fa.toNat) (by omega);refine⟨by omega,?_⟩;rw[G9,eQ,el,jG];have:=En t fa.toNat;omega
   obtain⟨gq,kn⟩:=bI (l:=u) (i:=u.length-1) (by omega);have JA:=JI (J:=J) xc kq.1 kn;have yz:jP 1 pW (.ad 0)=_:=vG.ag.addr (i:=0) (by rw[dL,d4,tB];omega);have qF:=vG.ag.bM (jc (kx Co (n:=(ku t).length) (i:=0) (by omega)));have KZ:sj (((ku t)[0]?).getD [])=gq.sort:=by
    rw[hu];unfold sj;rw[hC,kn];rfl
   by_cases zr:gq.sort=[66,111,111,108]
   ·have Db:sj (((ku t)[0]?).getD [])=mb:=by rw[KZ,zr];rfl
    simp only[go_sem,seval,f1,cH,cQ,oE,i2,gY,oA,qJ,hs,hI,xC,yz,qF,JA.cl,eW,zr];refine h3.run fun Cp cb eg lX nz=>?_;have oP:aj h cb:=aj.aG (b:=_) an eg;simp only[go_sem,seval];have e: pD p m=both m K:=by
     rw[ce (by omega) (by omega)];unfold candidates;simp only[aE,iV,xC,<-mG];simp[Db]
    rw[e];exact nz
   ·have Db:¬sj (((ku t)[0]?).getD [])=mb:=by rw[KZ];exact zr
    simp only[go_sem,seval,f1,cH,cQ,oE,i2,gY,oA,qJ,hs,hI,xC,yz,qF,JA.cl,eW,zr];have j8: pD p m=[]:=by
     rw[ce (by omega) (by omega)];unfold candidates;simp only[aE,iV,xC];simp[Db]
    rw[j8];exact ak0
  by_cases AK:n.op=10
  ·have hk:n.kids.length=3:=by unfold Form.shape at kc;rw[AK]at kc;simpa using kc
   obtain⟨x,ab⟩:=bI (l:=K) (i:=0) (by omega);have qc:jP 1 ny (.ad 0)=_:=ic.addr (i:=0) (by rw[c7];omega);have qd:=ic.bM (gn ab);obtain⟨y,ax⟩:=bI (l:=K) (i:=1) (by omega);have tZ:jP 1 ny (.ad 1)=_:=ic.addr (i:=1) (by rw[c7];omega);have ld1:=ic.bM (gn ax);obtain⟨z,aX⟩:=bI (l:=K) (i:=2) (by omega);have To:jP 1 ny (.ad 2)=_:=ic.addr (i:=2) (by rw[c7];omega);have Tp:=ic.bM (gn aX);simp(config:={maxSteps:=2000000}) only[go_sem,seval,f1,cH,cQ,(eL _).cl,(ep _).cl,(eL _).bL,(ep _).bL,bQ,ls,j7,lJ,l4,l5,mu,mv,l6,qc,qd,tZ,ld1,To,Tp,oE,i2,gY,oA,qJ,hs,hI,xC,AK];refine fin (cs:=[[((m:Int),true),(x,true),(y,false)],[((m:Int),true),(x,false),(z,false)],[((m:Int),false),(x,true),(y,true)],[((m:Int),false),(x,false),(z,true)]]) (by simp only[go_sem,seval,bQ];rfl) rfl rfl ?_ ?_
   ·rintro i v c ar U
    match i,ar,U with
    |0,ar,U=>cases ar;cases U;exact iY (ty:=62) (by simp only[go_sem,seval,bQ];rfl) rfl _
    |1,ar,U=>cases ar;cases U;exact iY (ty:=62) (by simp only[go_sem,seval,bQ];rfl) rfl _
    |2,ar,U=>cases ar;cases U;exact iY (ty:=62) (by simp only[go_sem,seval,bQ];rfl) rfl _
    |3,ar,U=>cases ar;cases U;exact iY (ty:=62) (by simp only[go_sem,seval,bQ];rfl) rfl _
    |i+4,ar,U=>simp at ar
   ·rw[ce (by omega) (by omega)];unfold candidates;simp only[aE,iV,AK,<-mG,ab,ax,aX,hC];simp
  simp only[go_sem,seval,oE,i2,gY,oA,qJ,hs,hI,xC,AK];have j8: pD p m=[]:=by
   rw[ce oA qJ];unfold candidates;simp only[aE,iV,oE,i2,gY,oA,qJ,hs,hI,xC,AK,qu]
  rw[j8];exact ak0
 all_goals simp only[go_sem,seval]
theorem an7(m:Int)(K:List Int)(b:Bool):(ua m K b).map cE.hY=(K.map (fun i=>[(m,b),(i,!b)])++[K.map (fun i=>(i,b))++[(m,!b)]]).map cE.hY:=by
 unfold ua;rw[wW,wW,List.map_singleton,List.map_singleton];congr 2;refine cE.uO.eq (cE.ZC _) (cE.ZC _) fun z=>?_;rw[cE.L7,cE.L7,lT,Lp,Qf];exact Or.comm
theorem aKk(p:jh)(m:Nat):(pD p m).map cE.hY=(candidates p m).map cE.hY:=by
 unfold pD;simp only[];by_cases dM:mR ((p.atoms[m]?).getD [])=6
 ·rw[bl dM,an7];unfold candidates;simp only[dM];simp
 ·rw[bf dM];by_cases jf:mR ((p.atoms[m]?).getD [])=7
  ·rw[bl jf,an7];unfold candidates;simp only[jf];simp
  ·rw[bf jf]
theorem aLy(p:jh)(m:Nat){t:List bb}(bp: p.atoms[m]?=some t):Ie (i1 t).length (pD p m):=by
 have ah:=Zr p m bp;unfold pD;simp only[bp,hC];have hk:((ku t).map fun u=>mc p.atoms u 0).length=(i1 t).length:=by simp[ku]
 generalize ((ku t).map fun u=>mc p.atoms u 0)=k at hk
 rw[<-hk]at ah⊢;have hm:∀(x:Int) (b:Bool),Ie k.length (ua x k b):=fun x b=>by
  refine⟨by simp[ua],fun c U=>?_⟩;simp only[ua,Lp,Ek,Qf]at U;rcases U with⟨i,_,rfl⟩|rfl<;>simp
 split
 ·exact hm _ _
 ·split
  ·exact hm _ _
  ·exact ah
theorem ZK:∀(cs ds:List (List b1)) (out:List (List b1)),cs.map cE.hY=ds.map cE.hY->oX out cs=oX out ds
 |[],[],_,_=>rfl
 |[],_::_,_,h=>by simp at h
 |_::_,[],_,h=>by simp at h
 |c::cs,d::ds,out,h=>by
  rw[nQ,nQ]at h;injection h with h1 ae
  rw[L8,L8,h1,ZK cs ds out ae,ZK cs ds _ ae]
theorem aKl(l:List (List b1))(k:Nat){x c:List b1}(ab:l[k]?=some x):(decide (c∈l.take k)||decide (x=c))=decide (c∈l.take (k+1)):=by
 rw[mU,ab];by_cases h1:c∈l.take k
 ·simp[h1]
 ·by_cases ae:x=c
  ·subst ae;simp[h1]
  ·have:¬c=x:=fun e=>ae e.symm;simp[h1,ae,this]
theorem at6[bP:aK a]{p:Form.jh}{bg aF:V}{Y:Nat->V}{S W:Nat->Nat->V}(r:sO a p.atoms bg Y S W)(au: p.atoms.length<1000000)(oN:∀t∈p.atoms,t.length<1000000/\r4 t)(y8:∀t∈p.atoms,hQ t=0){m:Nat}(hm:m<p.atoms.length):
  cJ J a 43 [.agg [bg,aF],.ad (m:Nat)] (fun w h=>pn h w (oX [] (candidates p m))):=by
 refine cJ.bE ak.abr rfl fun h ca g=>?_;obtain⟨t,bp⟩:=bI hm;have R:=yg (y8 t (c0 bp));have Sv:(i1 t).length<1000000:=by
  obtain⟨n,aq⟩:=bI (l:=t) (i:=t.length-1) (by have:=R.ne;omega);have:i1 t=n.kids:=by unfold i1;rw[aq];rfl
  rw[this];exact((r.row m t bp).row _ n aq).ki
 obtain⟨h5,hA⟩:=aLy p m bp;have fx:=azf (J:=J) r au oN y8 hm (aF:=aF);rw[<-ZK _ _ [] (aKk p m)];generalize hK: pD p m=cs at*;simp only[abq,go_sem,seval,mr];refine fx.run fun yy ae aY c3 dX=>?_;obtain⟨Rr,z9,Ts⟩:=dX;have ey:aj h ae:=aj.aG (b:=_) an aY;have v6:=z9.a2;rw[dL,d4]at v6;simp only[go_sem,seval];refine dK cs.length (fun i t=>∃I h1 n2 out mH,t=⟨I,[],h1⟩/\aj ae h1/\oX [] cs=oX out (cs.drop i)/\out.length<=i/\bD 43 1 (aH ae.next) h1 n2 (cI (dT mH out.length))/\(∀j c,out[j]?=some c->bD 62 2 (aH ae.next) h1 (mH j) (dv c)/\c.length<1000000000)/\
  I.gt 5=n2/\I.gt 6=yy/\I.gt 7=.ad (i:Nat)) ?_ ?_ (dk _) ⟨_,ae,.al,[],fun _=>.fO,rfl,an,rfl,a1 _,.nil _ _ _ _,fun j c e=>by simp at e,?_,?_,?_⟩
 ·rintro i t ai ⟨I,h1,n2,out,mH,rfl,aB,iQ,a6,dt,nI,bu,cj,cH⟩;have bW:=aB.bx;have lF:aj h h1:=ey.aG aB;obtain⟨c,U⟩:=bI ai;have kp:=hA c (c0 U);have ay:((i:Int)<(cs.length:Int)):=by omega
  have lh:=(Ts i c U).aO c3.ok aB;have bJ:=z9.addr (i:=i) (by rw[dL,d4];exact ai);have d1:=z9.bM (jc (kx Rr ai));rw[en U,L8,aoS]at iQ;have co:=ayZ (J:=J) lh (by omega);cases zt:c.any (fun x=>decide (x.1<0))with
  |true=>
   rw[zt,uk,bl rfl]at iQ;rw[zt]at co;have bA:(!true)=false:=rfl;rw[bA]at co;simp only[go_sem,seval,bu,cj,cH,v6,ay,bJ,d1,co.cl,cG (show i<9223372036854775807 by omega)];refine⟨_,_,n2,out,mH,rfl,an,iQ,by omega,dt.aO an,fun j c a5=>⟨(nI j c a5).1.aO an,(nI j c a5).2⟩,?_,?_,?_⟩
   all_goals simp only[go_sem,seval,bu,cj]
  |false=>
   rw[zt,sf]at iQ;rw[zt]at co;have bA:(!false)=true:=rfl;rw[bA]at co;have gD:=azc (J:=J) lh (by omega);simp only[go_sem,seval,bu,cj,cH,v6,ay,bJ,d1,co.cl];refine gD.run fun pW az b4 fo vD=>?_;have oO:aj h1 az:=aj.aG (b:=_) an b4;have xM:aj ae az:=aB.aG oO;have l3:aj h az:=ey.aG xM;have iH:=dt.aO oO;have lg:=iH.ag.a2;rw[dL,d4]at lg;have NC:(cE.hY c).length<1000000000:=by have:=cE.QU c;omega
   have K0:=vD.ag.cell;simp only[go_sem,seval];refine dK out.length (fun k t=>∃I bo,t=⟨I,[],bo⟩/\aj az bo/\I.gt 5=n2/\I.gt 6=yy/\I.gt 7=.ad (i:Nat)/\I.gt 8=pW/\I.gt 9=.bool (decide (cE.hY c∈out.take k))/\I.gt 10=.ad (k:Nat)) ?_ ?_ (dk _) ⟨_,az,rfl,an,?_,?_,?_,?_,?_,?_⟩
   ·rintro k t hk ⟨I,bo,rfl,eE,bu,cj,cH,cQ,dm,ew⟩;have mE:=eE.bx;have y7:aj h bo:=l3.aG eE;obtain⟨o,iE⟩:=bI hk;have Fl:((k:Int)<(out.length:Int)):=by omega
    have NO:=aKl out k (c:=cE.hY c) iE;have sw:=iH.ag.addr (i:=k) (by rw[dL,d4];exact hk);have ur:=iH.ag.bM (jc (kx mH hk));cases ev:decide (cE.hY c∈out.take k)with
    |true=>
     rw[ev]at dm;rw[ev,uk]at NO;simp only[go_sem,seval,bu,cj,cH,cQ,dm,ew,lg,Fl,cG (show k<9223372036854775807 by omega)];refine⟨_,_,rfl,an,?_,?_,?_,?_,?_,?_⟩
     all_goals simp only[go_sem,seval,bu,cj,cH,cQ,<-NO]
    |false=>
     rw[ev]at dm;rw[ev,sf]at NO;have cf:=adz (J:=J) ((nI k o iE).1.aO oO).ag vD.ag (nI k o iE).2
     rw[NO]at cf;simp only[go_sem,seval,bu,cj,cH,cQ,dm,ew,lg,Fl,sw,ur,cf.cl,cG (show k<9223372036854775807 by omega)];refine⟨_,_,rfl,an,?_,?_,?_,?_,?_,?_⟩
     all_goals simp only[go_sem,seval,bu,cj,cH,cQ]
   ·rintro t ⟨I,bo,rfl,eE,bu,cj,cH,cQ,dm,ew⟩;have mE:=eE.bx;have y7:aj h bo:=l3.aG eE;have NN:aj ae bo:=xM.aG eE;have rO:aj h1 bo:=oO.aG eE;have Fl:¬((out.length:Int)<(out.length:Int)):=by omega
    rw[g5]at dm;have Mq:=NN.g.next
    cases ev:decide (cE.hY c∈out)with
    |true=>
     rw[ev]at dm;rw[ev,bl rfl]at iQ;simp only[go_sem,seval,bu,cj,cH,cQ,dm,ew,lg,Fl,cG (show i<9223372036854775807 by omega)];refine⟨_,_,n2,out,mH,rfl,NN,iQ,by omega,dt.aO rO,fun j c a5=>⟨(nI j c a5).1.aO rO,(nI j c a5).2⟩,?_,?_,?_⟩
     all_goals simp only[go_sem,seval,bu,cj]
    |false=>
     rw[ev]at dm;rw[ev,bf (by decide)]at iQ;have e0:aj bo (bo.new (.af [pW] 43)):=an;have TN:g6 43 1 1 [.al] [(0,1,pW)]=some (.af [pW] 43,fun f=>.ag f 0 0 1 1 (some 1)):=by simp only[g6,oU,K0];rfl
     obtain⟨Cp,lA,oF,zb,v5,v7⟩:=ui (bytes:=24) (dt.aO (rO.aG e0)) (wI (h:=bo) (c:=[pW]) (es:=1) (ty:=43) rfl) (by rw[fF,gu];omega) (by simp only[dL,d4,eG,eJ];omega) (by simp only[dL,d4,eG,eJ];omega);have EM:=v5.ok;have Tt:aj ae lA:=v5.aO ae (a1 _);rw[Ly]at zb;simp only[go_sem,seval,bu,cj,cH,cQ,dm,ew,lg,Fl,TN,oF,cG (show i<9223372036854775807 by omega)];refine⟨_,lA,Cp,out++[cE.hY c],upd mH out.length pW,rfl,Tt,iQ,by rw[fi];simp;omega,by rw[fi];exact zb,fun j fT a5=>?_,?_,?_,?_⟩
     ·rcases Qi a5 with⟨ai,a5⟩|⟨rfl,rfl⟩
      ·rw[iN _ _ (by omega)];exact⟨v7 _ (bD.fR (by decide)) ((nI j fT a5).1.aO (rO.aG e0)),(nI j fT a5).2⟩
      ·rw[kf];exact⟨v7 _ (bD.fR (by decide)) ((vD.mono aB.g.next).aO (eE.aG e0)),NC⟩
     all_goals simp only[go_sem,seval,cj]
   all_goals simp only[go_sem,seval,bu,cj,cH]
   rfl
 ·rintro t ⟨I,h1,n2,out,mH,rfl,aB,iQ,a6,dt,nI,bu,cj,cH⟩;have bW:=aB.bx;have lF:aj h h1:=ey.aG aB;have ay:¬((cs.length:Int)<(cs.length:Int)):=by omega
  rw[fp]at iQ;have iQ:oX [] cs=out:=iQ;simp only[go_sem,seval,bu,cj,cH,v6,ay];rw[iQ];exact⟨mH,dt.ag,fun j c a5=>(nI j c a5).1.ag⟩
 all_goals simp only[go_sem,seval]
end
section
open Form
variable {J:Prog}[ak J]{a:H}
theorem at7[bP:aK a]{p:Form.jh}{bg aF:V}{Y:Nat->V}{S W:Nat->Nat->V}{D:Nat->j4}(r:xK a p bg aF Y S W D)(b:FM p)(m:Int):
  cJ J a 12 [.agg [bg,aF],.ad m] (fun w h=>∃w',w=.bk [w',.ad (yk p m).2]/\pn h w' (yk p m).1):=by
 refine cJ.bE ak.kW rfl fun h ca g=>?_;have be:=adB (J:=J) r b;have af:=fun(b:Bool) (e:Int)=>AY (J:=J) (a:=h) b e;have au:=r.at'.ag.a2;rw[dL,d4]at au;unfold yk;by_cases he:(qB p).2=0
 ·rw[bf (by simp[he])];rw[he]at be;by_cases av:m<0
  ·rw[bl (.inl av)];simp only[vS,go_sem,seval,mr,ma,l9,be.cl,he,av,(af _ _).cl,bQ,BY,cd,cm];exact⟨_,rfl,.nil _⟩
  ·by_cases h1:(p.atoms.length:Int)<=m
   ·rw[bl (.inr h1)];simp only[vS,go_sem,seval,mr,ma,l9,be.cl,he,av,h1,au,(af _ _).cl,bQ,BY,cd,cm];exact⟨_,rfl,.nil _⟩
   ·rw[bf (by omega)];obtain⟨n,rfl⟩:∃n:Nat,m=n:=⟨m.toNat,by omega⟩;have aq:n<p.atoms.length:=by omega
    simp only[vS,go_sem,seval,mr,ma,l9,be.cl,he,av,h1,au,(af _ _).cl,bQ,BY,cd,cm];refine(at6 (J:=J) r.at' b.at' b.dZ (QV he) aq (aF:=aF)).run fun w ae aY c3 dX=>?_;have b4:aj h ae:=aj.aG (b:=_) an aY;simp only[go_sem,seval];exact⟨_,rfl,dX⟩
 ·rw[bl he];have aE:∀x,cm [(qB p).2,x]=(qB p).2:=fun x=>by simp[cm,he]
  by_cases av:m<0
  ·simp only[vS,go_sem,seval,mr,ma,l9,be.cl,av,(af _ _).cl,bQ,BY,aE,he];exact⟨_,rfl,.nil _⟩
  ·simp only[vS,go_sem,seval,mr,ma,l9,be.cl,av,au,(af _ _).cl,bQ,BY,aE,he];exact⟨_,rfl,.nil _⟩
def ub(s:b9):Nat->Nat
 |0=>0
 |i+1=>if(s.drop i).take 4=[77,97,112,60]then ub s i+1 else ub s i
theorem ank(s:b9):∀i,ub s i<=i
 |0=>a1 _
 |i+1=>by
  have:=ank s i;unfold ub;split<;>omega
def calm(s:b9):Bool:=decide (ub s (s.length-3)<=4)
theorem adL(s:b9)(aA:s.length<1000000):aS J a 86 [.str s] (.bool (calm s)):=by
 refine aS.bE ak.CN rfl fun h _ _=>?_;simp only[abA,go_sem,seval];refine dK (s.length-3) (fun i t=>∃I,t=⟨I,[],h⟩/\I.gt 0=.str s/\I.gt 3=.ad (ub s i:Nat)/\I.gt 4=.ad (i:Nat)) ?_ ?_ (dk _) ⟨_,rfl,?_,?_,?_⟩
 ·rintro i t ai ⟨I,rfl,bq,aR,bZ⟩;have U:=ank s i;have iq:b8 .i64 ((i:Int)+4)=((i+4:Nat):Int):=by rw[gz (by omega) (by omega)];omega
  have ay:(((i+4:Nat):Int)<=(s.length:Int)):=by omega
  have yC:=aGs s (n:=i) (m:=i+4) (by omega) (by omega);rw[show i+4-i=4 by omega]at yC;have aac:=cG (show i<9223372036854775807 by omega);have aqa:=cG (show ub s i<9223372036854775807 by omega);by_cases aM:(s.drop i).take 4=[77,97,112,60]
  ·have e:ub s (i+1)=ub s i+1:=bl aM;simp only[go_sem,seval,bq,aR,bZ,gS,iq,ay,yC,aM,aac,aqa];refine⟨_,rfl,?_,?_,?_⟩
   all_goals simp only[go_sem,seval,bq,e]
  ·have e:ub s (i+1)=ub s i:=bf aM;simp only[go_sem,seval,bq,aR,bZ,gS,iq,ay,yC,aM,aac];refine⟨_,rfl,?_,?_,?_⟩
   all_goals simp only[go_sem,seval,bq,aR,e]
 ·rintro t ⟨I,rfl,bq,aR,bZ⟩;have iq:b8 .i64 (((s.length-3:Nat):Int)+4)=((s.length-3+4:Nat):Int):=by rw[gz (by omega) (by omega)];omega
  have ay:¬(((s.length-3+4:Nat):Int)<=(s.length:Int)):=by omega
  have e:decide (((ub s (s.length-3):Nat):Int)<=4)=calm s:=by unfold calm;rw[ov];omega
  simp only[go_sem,seval,bq,aR,bZ,gS,iq,ay,e]
 all_goals simp only[go_sem,seval,ub]
def xX(b:b9×b9):Bool:=decide (b.1.length<=200)&&(decide (b.2.length<=200)&&calm b.2)
def GB(l:List (b9×b9)):Bool:=l.all xX&&decide (l.length<=8)
theorem aua{v:V}{l:List (b9×b9)}[bP:aK a](s:bB a v 2 (hi l))(au:l.length<9223372036854775808):aS J a 87 [v] (.bool (GB l)):=by
 refine aS.bE ak.Fj rfl fun h _ g=>?_;have c6:=s.a2;rw[jd]at c6;obtain⟨E,bX⟩:∃E:Bool,E=GB l:=⟨_,rfl⟩;rw[<-bX];unfold GB at bX;simp only[abB,go_sem,seval];refine dK l.length (fun i t=>∃I h1,t=⟨I,[],h1⟩/\aj h h1/\l.all xX=(l.drop i).all xX/\I.gt 0=v/\I.gt 3=.ad (i:Nat)) ?_ ?_ (dk _) ⟨_,h,rfl,an,rfl,?_,?_⟩
 ·rintro i t ai ⟨I,h1,rfl,aB,e,bq,aR⟩;have bW:=aB.bx;have dx:aj a h1:=g.aG aB;obtain⟨x,ab⟩:=bI ai;have ay:((i:Int)<(l.length:Int)):=by omega
  have ck:i<(hi l).length:=by rw[jd];exact ai
  rw[en ab,ye]at e;have aE:xX x=false->E=false:=fun z=>by rw[bX,e,z];rfl
  by_cases c1:(200:Int)<(x.1.length:Int)
  ·have:=aE (by unfold xX;rw[jS (by omega)];rfl);subst this;simp only[go_sem,seval,bq,aR,c6,ay,s.addr ck,s.er ck,s.hn (nX ab),gS,c1]
  ·by_cases c2:(200:Int)<(x.2.length:Int)
   ·have:=aE (by unfold xX;rw[jS (show¬x.2.length<=200 by omega),mg,Qe]);subst this;simp only[go_sem,seval,bq,aR,c6,ay,s.addr ck,s.er ck,s.hn (nX ab),gS,c1,c2]
   ·have fx:=adL (J:=J) (a:=h1) x.2 (by omega);cases U:calm x.2 with
    |false=>
     rw[U]at fx;have:=aE (by unfold xX;rw[U,Qe,Qe]);subst this;simp only[go_sem,seval,bq,aR,c6,ay,s.addr ck,s.er ck,s.hn (nX ab),gS,c1,c2,fx.cl]
    |true=>
     rw[U]at fx;have ah:xX x=true:=by unfold xX;rw[U,ke (by omega),ke (by omega)];rfl
     rw[ah,ju]at e;simp only[go_sem,seval,bq,aR,c6,ay,s.addr ck,s.er ck,s.hn (nX ab),gS,c1,c2,fx.cl,cG (show i<9223372036854775807 by omega)];refine⟨_,_,rfl,an,e,?_,?_⟩
     all_goals simp only[go_sem,seval,bq]
 ·rintro t ⟨I,h1,rfl,aB,e,bq,aR⟩;have bW:=aB.bx;have dx:aj a h1:=g.aG aB;have ay:¬((l.length:Int)<(l.length:Int)):=by omega
  rw[fp]at e;have gL:decide ((l.length:Int)<=8)=E:=by
   rw[bX,e];show _=(true&&_);rw[ju,ov];omega
  simp only[go_sem,seval,bq,aR,c6,ay,gL]
 all_goals simp only[go_sem,seval]
def DY(l:List b9):Bool:=l.all (fun x=>decide (x.length<=200))&&decide (l.length<=40)
theorem aub{v:V}{l:List b9}[bP:aK a](s:bB a v 1 (qk l))(au:l.length<9223372036854775808):aS J a 85 [v] (.bool (DY l)):=by
 refine aS.bE ak.AE rfl fun h _ g=>?_;have c6:=s.a2;rw[ow]at c6;obtain⟨E,bX⟩:∃E:Bool,E=DY l:=⟨_,rfl⟩;rw[<-bX];unfold DY at bX;simp only[abz,go_sem,seval];refine dK l.length (fun i t=>∃I h1,t=⟨I,[],h1⟩/\aj h h1/\l.all (fun x=>decide (x.length<=200))=(l.drop i).all (fun x=>decide (x.length<=200))/\I.gt 0=v/\I.gt 3=.ad (i:Nat)) ?_ ?_ (dk _) ⟨_,h,rfl,an,rfl,?_,?_⟩
 ·rintro i t ai ⟨I,h1,rfl,aB,e,bq,aR⟩;have bW:=aB.bx;have dx:aj a h1:=g.aG aB;obtain⟨x,ab⟩:=bI ai;have ay:((i:Int)<(l.length:Int)):=by omega
  have ck:i<(qk l).length:=by rw[ow];exact ai
  rw[en ab,ye]at e;by_cases c1:(200:Int)<(x.length:Int)
  ·have:E=false:=by rw[bX,e,jS (by omega)];rfl
   subst this;simp only[go_sem,seval,bq,aR,c6,ay,s.addr ck,s.bM (Em ab),gS,c1]
  ·rw[ke (by omega),ju]at e;simp only[go_sem,seval,bq,aR,c6,ay,s.addr ck,s.bM (Em ab),gS,c1,cG (show i<9223372036854775807 by omega)];refine⟨_,_,rfl,an,e,?_,?_⟩
   all_goals simp only[go_sem,seval,bq]
 ·rintro t ⟨I,h1,rfl,aB,e,bq,aR⟩;have bW:=aB.bx;have dx:aj a h1:=g.aG aB;have ay:¬((l.length:Int)<(l.length:Int)):=by omega
  rw[fp]at e;have gL:decide ((l.length:Int)<=40)=E:=by
   rw[bX,e];show _=(true&&_);rw[ju,ov];omega
  simp only[go_sem,seval,bq,aR,c6,ay,gL]
 all_goals simp only[go_sem,seval]
structure KB(h:H)(n:bb)(s w:V):Prop where
 vars:bB h s 2 (hi n.vars)
 Ge:om s
 kids:bB h w 1 (dH n.kids)
 OH:om w
 hF:n.vars.length<9223372036854775808
 ki:n.kids.length<9223372036854775808
structure xP(h:H)(v:V)(t:List bb)(S W:Nat->V):Prop where
 ag:bB h v 5 (ed S W 0 t)
 cap:om v
 len:t.length<9223372036854775808
 row:∀i n,t[i]?=some n->KB h n (S i) (W i)
theorem KB.aO{h aa:H}{n:bb}{s w:V}(r:KB h n s w)(k:h.ok)(g:aj h aa):KB aa n s w:=⟨r.vars.aO k g,r.Ge,r.kids.aO k g,r.OH,r.hF,r.ki⟩
theorem xP.aO{h aa:H}{v:V}{t:List bb}{S W:Nat->V}(r:xP h v t S W)(k:h.ok)(g:aj h aa):xP aa v t S W:=⟨r.ag.aO k g,r.cap,r.len,fun i n e=>(r.row i n e).aO k g⟩
theorem xP.aU{h:H}{v:V}{t:List bb}{S W:Nat->V}(r:xP h v t S W)(b:q0 t):fc h v t S W:=⟨r.ag,r.cap,fun i n e=>⟨(r.row i n e).vars,(r.row i n e).Ge,(r.row i n e).kids,(r.row i n e).OH,(b n (c0 e)).1,(b n (c0 e)).2⟩⟩
def x3(n:bb):Bool:=decide (n.name.length<=200)&&(decide (n.sort.length<=200)&&(calm n.name&&(calm n.sort&&(decide (n.kids.length<=12)&&GB n.vars))))
def s5(t:List bb):Bool:=(decide (t.length<=120)||decide (t.length=2001))&&t.all x3
theorem adM{v:V}{t:List bb}{S W:Nat->V}[bP:aK a](aU:xP a v t S W){aJ:H}[ca:aK aJ][eZ:aj a aJ]{I:Fr}{k:c4}(bq:I.gt 0=v)(aR:I.gt 3=.ad 0)
  (eu:∀aQ aa,aj aJ aa->t.all x3=true->k.run J (.exit 0 ⟨aQ,[],aa⟩)) (ht:∀aQ aa,aj aJ aa->t.all x3=false->aQ.gt 2=.bool false->k.run J (.ret ⟨aQ,[],aa⟩)):dA J akK ⟨I,[],aJ⟩ k:=by
 have c6:=aU.ag.a2;rw[gj]at c6;have len:=aU.len;unfold akK;refine dK t.length (fun i s=>∃I h1,s=⟨I,[],h1⟩/\aj aJ h1/\t.all x3=(t.drop i).all x3/\I.gt 0=v/\I.gt 3=.ad (i:Nat)) ?_ ?_ (dk _) ⟨_,aJ,rfl,an,rfl,bq,aR⟩
 ·rintro i s ai ⟨I,h1,rfl,aB,e,bq,aR⟩;have bW:=aB.bx;have dx:aj a h1:=eZ.aG aB;obtain⟨x,ab⟩:=bI ai;have ay:((i:Int)<(t.length:Int)):=by omega
  have ck:i<(ed S W 0 t).length:=by rw[gj];exact ai
  have Ah:=GS S W 0 t i x ab;rw[eH]at Ah;have R:=aU.row i x ab;have pP:=R.kids.a2;rw[c7]at pP;have h3:=aua (J:=J) R.vars R.hF;have fx:=fun(s:b9) (h:s.length<1000000)=>adL (J:=J) (a:=aJ) s h;rw[en ab,ye]at e;have aE:x3 x=false->t.all x3=false:=fun z=>by rw[e,z,mg]
  have aq:x3 x=(decide (x.name.length<=200)&&(decide (x.sort.length<=200)&&(calm x.name&&(calm x.sort&&(decide (x.kids.length<=12)&&GB x.vars))))):=rfl;by_cases c1:(200:Int)<(x.name.length:Int)
  ·simp only[go_sem,seval,bq,aR,c6,ay,aU.ag.addr ck,aU.ag.er ck,aU.ag.hn Ah,gS,c1];exact ht _ _ an (aE (by rw[aq,jS (by omega),mg])) (by simp only[go_sem,seval])
  rw[ke (show x.name.length<=200 by omega),ju]at aq;by_cases c2:(200:Int)<(x.sort.length:Int)
  ·simp only[go_sem,seval,bq,aR,c6,ay,aU.ag.addr ck,aU.ag.er ck,aU.ag.hn Ah,gS,c1,c2];exact ht _ _ an (aE (by rw[aq,jS (by omega),mg])) (by simp only[go_sem,seval])
  rw[ke (show x.sort.length<=200 by omega),ju]at aq;have ep:=fx x.name (by omega);have cs:=fx x.sort (by omega);cases nt:calm x.name with
  |false=>
   rw[nt]at ep;simp only[go_sem,seval,bq,aR,c6,ay,aU.ag.addr ck,aU.ag.er ck,aU.ag.hn Ah,gS,c1,c2,ep.cl];exact ht _ _ an (aE (by rw[aq,nt,mg])) (by simp only[go_sem,seval])
  |true=>
  rw[nt,ju]at aq;rw[nt]at ep;cases oy:calm x.sort with
  |false=>
   rw[oy]at cs;simp only[go_sem,seval,bq,aR,c6,ay,aU.ag.addr ck,aU.ag.er ck,aU.ag.hn Ah,gS,c1,c2,ep.cl,cs.cl];exact ht _ _ an (aE (by rw[aq,oy,mg])) (by simp only[go_sem,seval])
  |true=>
  rw[oy,ju]at aq;rw[oy]at cs;by_cases jY:(12:Int)<(x.kids.length:Int)
  ·simp only[go_sem,seval,bq,aR,c6,ay,aU.ag.addr ck,aU.ag.er ck,aU.ag.hn Ah,gS,c1,c2,ep.cl,cs.cl,pP,jY];exact ht _ _ an (aE (by rw[aq,jS (by omega),mg])) (by simp only[go_sem,seval])
  rw[ke (show x.kids.length<=12 by omega),ju]at aq;rw[<-aq]at h3;cases qF:x3 x with
  |false=>
   rw[qF]at h3;simp only[go_sem,seval,bq,aR,c6,ay,aU.ag.addr ck,aU.ag.er ck,aU.ag.hn Ah,gS,c1,c2,ep.cl,cs.cl,pP,jY,h3.cl];exact ht _ _ an (aE qF) (by simp only[go_sem,seval])
  |true=>
   rw[qF]at h3;rw[qF,ju]at e;simp only[go_sem,seval,bq,aR,c6,ay,aU.ag.addr ck,aU.ag.er ck,aU.ag.hn Ah,gS,c1,c2,ep.cl,cs.cl,pP,jY,h3.cl,cG (show i<9223372036854775807 by omega)];refine⟨_,_,rfl,an,e,?_,?_⟩
   all_goals simp only[go_sem,seval,bq]
 ·rintro s ⟨I,h1,rfl,aB,e,bq,aR⟩;have bW:=aB.bx;have ay:¬((t.length:Int)<(t.length:Int)):=by omega
  rw[fp]at e;simp only[go_sem,seval,bq,aR,c6,ay];exact eu _ _ an e
theorem TP{v:V}{t:List bb}{S W:Nat->V}[bP:aK a](aU:xP a v t S W):aS J a 27 [v] (.bool (s5 t)):=by
 refine aS.bE ak.Sj rfl fun h _ g=>?_;have c6:=aU.ag.a2;rw[gj]at c6;obtain⟨E,bX⟩:∃E:Bool,E=s5 t:=⟨_,rfl⟩;rw[<-bX];unfold s5 at bX;simp only[Si,go_sem,seval];by_cases h1:(120:Int)<(t.length:Int)
 ·by_cases ae:(t.length:Int)=2001
  ·rw[ke (show t.length=2001 by omega),Bool.or_true,ju]at bX;simp only[go_sem,seval,c6,h1,ae];refine adM (a:=a) aU (by simp only[go_sem,seval]) (by simp only[go_sem,seval]) (fun aQ aa bR e=>?_) (fun aQ aa bR e cq=>?_)
   ·have ch:=bR.bx;rw[e]at bX;subst bX;simp only[go_sem,seval]
   ·have ch:=bR.bx;rw[e]at bX;subst bX;simp only[go_sem,seval,cq]
  ·rw[jS (show¬t.length<=120 by omega),jS (show¬t.length=2001 by omega),Lc,mg]at bX;subst bX;simp only[go_sem,seval,c6,h1,ae]
 ·rw[ke (show t.length<=120 by omega),uk,ju]at bX;simp only[go_sem,seval,c6,h1];refine adM (a:=a) aU (by simp only[go_sem,seval]) (by simp only[go_sem,seval]) (fun aQ aa bR e=>?_) (fun aQ aa bR e cq=>?_)
  ·have ch:=bR.bx;rw[e]at bX;subst bX;simp only[go_sem,seval]
  ·have ch:=bR.bx;rw[e]at bX;subst bX;simp only[go_sem,seval,cq]
structure DO(h:H)(l:List (List bb))(v:V)(Y:Nat->V)(S W:Nat->Nat->V):Prop where
 ag:bB h v 1 (cI (dT Y l.length))
 len:l.length<9223372036854775808
 row:∀i t,l[i]?=some t->xP h (Y i) t (S i) (W i)
theorem DO.aO{h aa:H}{l:List (List bb)}{v:V}{Y:Nat->V}{S W:Nat->Nat->V}(r:DO h l v Y S W)(k:h.ok)(g:aj h aa):DO aa l v Y S W:=⟨r.ag.aO k g,r.len,fun i t e=>(r.row i t e).aO k g⟩
structure KC(h:H)(s:Form.eX)(cS cC bg cK cv:V)(Y:Nat->V)(S W:Nat->Nat->V):Prop where
 cl:bB h cS 2 (dv s.clause)
 fl:bB h cC 1 (dH s.cn)
 i3:bB h bg 1 (dH s.args)
 hx:bB h cK 1 (qk s.dC)
 Mr:s.dC.length<9223372036854775808
 eA:DO h s.cp cv Y S W
theorem KC.aO{h aa:H}{s:Form.eX}{cS cC bg cK cv:V}{Y:Nat->V}{S W:Nat->Nat->V}(r:KC h s cS cC bg cK cv Y S W)(k:h.ok)(g:aj h aa):KC aa s cS cC bg cK cv Y S W:=⟨r.cl.aO k g,r.fl.aO k g,r.i3.aO k g,r.hx.aO k g,r.Mr,r.eA.aO k g⟩
structure u4(h:H)(p:Form.jh)(bg aF:V)(Y:Nat->V)(S W:Nat->Nat->V)(D:Nat->j4):Prop where
 at':DO h p.atoms bg Y S W
 st:bB h aF 6 (lH D 0 p.steps)
 len: p.steps.length<9223372036854775808
 row:∀i s,p.steps[i]?=some s->KC h s (D i).cS (D i).cC (D i).bg (D i).cK (D i).cv (D i).Y (D i).S (D i).W
theorem u4.aO{h aa:H}{p:Form.jh}{bg aF:V}{Y:Nat->V}{S W:Nat->Nat->V}{D:Nat->j4}(r:u4 h p bg aF Y S W D)(k:h.ok)(g:aj h aa):u4 aa p bg aF Y S W D:=⟨r.at'.aO k g,r.st.aO k g,r.len,fun i t e=>(r.row i t e).aO k g⟩
def Dg(l:List (List bb)):Bool:=l.all s5&&decide (l.length<=20)
def u9(s:Form.eX):Bool:=decide (s.clause.length<=40)&&(decide (s.cn.length<=40)&&(decide (s.args.length<=40)&&(DY s.dC&&Dg s.cp)))
def Ei(p:Form.jh):Bool:=decide (p.atoms.length<=60)&&(decide (p.steps.length<=200)&&(p.atoms.all s5&&p.steps.all u9))
theorem adN{v:V}{l:List (List bb)}{Y:Nat->V}{S W:Nat->Nat->V}[bP:aK a](r:DO a l v Y S W):aS J a 28 [v] (.bool (Dg l)):=by
 refine aS.bE ak.AB rfl fun h _ g=>?_;have c6:=r.ag.a2;rw[dL,d4]at c6;have au:=r.len;obtain⟨E,bX⟩:∃E:Bool,E=Dg l:=⟨_,rfl⟩;rw[<-bX];unfold Dg at bX;simp only[abd,go_sem,seval];refine dK l.length (fun i t=>∃I h1,t=⟨I,[],h1⟩/\aj h h1/\l.all s5=(l.drop i).all s5/\I.gt 0=v/\I.gt 3=.ad (i:Nat)) ?_ ?_ (dk _) ⟨_,h,rfl,an,rfl,?_,?_⟩
 ·rintro i t ai ⟨I,h1,rfl,aB,e,bq,aR⟩;have bW:=aB.bx;have dx:aj a h1:=g.aG aB;obtain⟨x,ab⟩:=bI ai;have ay:((i:Int)<(l.length:Int)):=by omega
  have ck:i<(cI (dT Y l.length)).length:=by rw[dL,d4];exact ai
  have cs:=TP (J:=J) (r.row i x ab);rw[en ab,ye]at e;cases aA:s5 x with
  |false=>
   rw[aA]at cs;have:E=false:=by rw[bX,e,aA];rfl
   subst this;simp only[go_sem,seval,bq,aR,c6,ay,r.ag.addr ck,r.ag.bM (jc (kx Y ai)),cs.cl]
  |true=>
   rw[aA]at cs;rw[aA,ju]at e;simp only[go_sem,seval,bq,aR,c6,ay,r.ag.addr ck,r.ag.bM (jc (kx Y ai)),cs.cl,cG (show i<9223372036854775807 by omega)];refine⟨_,_,rfl,an,e,?_,?_⟩
   all_goals simp only[go_sem,seval,bq]
 ·rintro t ⟨I,h1,rfl,aB,e,bq,aR⟩;have bW:=aB.bx;have dx:aj a h1:=g.aG aB;have ay:¬((l.length:Int)<(l.length:Int)):=by omega
  rw[fp]at e;have gL:decide ((l.length:Int)<=20)=E:=by
   rw[bX,e];show _=(true&&_);rw[ju,ov];omega
  simp only[go_sem,seval,bq,aR,c6,ay,gL]
 all_goals simp only[go_sem,seval]
theorem xx(h:H)(f:P)(c:List V)(U:c.length=6):fz (some (.af [.ad 0,.al,.al,.al,.al,.al] 64)) h f 6 0 0 6 (.agg c)=some (.bk [],h.set f (.af c 64)):=pL _ _ _ _ 6 6 (a1 _) (.agg c) U rfl
theorem azg[bP:aK a]{p:Form.jh}{bg aF:V}{Y:Nat->V}{S W:Nat->Nat->V}{D:Nat->j4}(r:u4 a p bg aF Y S W D){aJ:H}[ca:aK aJ][eZ:aj a aJ]{cB:P}{I:Fr}{k:c4}(aN:aJ.get cB=some (.af [bg,aF] 25))(f1:I.gt 1=.ptr cB 0 0 2)(bZ:I.gt 4=.ad 0)
  (eu:∀aQ aa,aj aJ aa->p.steps.all u9=true->k.run J (.exit 2 ⟨aQ,[],aa⟩)) (ht:∀aQ aa,aj aJ aa->p.steps.all u9=false->aQ.gt 2=.bool false->k.run J (.ret ⟨aQ,[],aa⟩)):dA J akJ ⟨I,[],aJ⟩ k:=by
 have fZ:=aP aN;have ag:=r.st.a2;rw[rq]at ag;have hlen:=r.len;unfold akJ;refine dK p.steps.length (fun i s=>∃I h1,s=⟨I,[],h1⟩/\aj aJ h1/\p.steps.all u9=(p.steps.drop i).all u9/\I.gt 1=.ptr cB 0 0 2/\I.gt 4=.ad (i:Nat)) ?_ ?_ (dk _) ⟨_,aJ,rfl,an,rfl,f1,bZ⟩
 ·rintro i s ai ⟨I,h1,rfl,aB,e,f1,bZ⟩;have bW:=aB.bx;have dx:aj a h1:=eZ.aG aB;have ry:=aB.dW;have e5:=(aB.gt cB).trans aN;obtain⟨x,ab⟩:=bI ai;have ay:((i:Int)<(p.steps.length:Int)):=by omega
  have ck:i<(lH D 0 p.steps).length:=by rw[rq];exact ai
  have dU:=Eg D 0 p.steps i x ab;rw[eH]at dU;have R:=r.row i x ab;have lc:=R.cl.a2;have dG:=R.fl.a2;have cZ:=R.i3.a2;rw[c9]at lc;rw[c7]at dG cZ;have cs:=aub (J:=J) R.hx R.Mr;have gO:=adN (J:=J) R.eA;obtain⟨cM,hB⟩:∃b:P,b=h1.next:=⟨_,rfl⟩
  obtain⟨eb,ff⟩:∃H:H,H=h1.new (.af [.ad x.cz,(D i).cS,(D i).cC,(D i).bg,(D i).cK,(D i).cv] 64):=⟨_,rfl⟩;have c3:aK eb:=by rw[ff];exact an
  have aY:aj h1 eb:=by rw[ff];exact an
  have adO:aj aJ eb:=aB.aG aY;have iW:aj a eb:=dx.aG aY;have dn:eb.get cM=some (.af [.ad x.cz,(D i).cS,(D i).cC,(D i).bg,(D i).cK,(D i).cv] 64):=by rw[ff,hB];exact ef
  have g9:=aP dn;rw[en ab,ye]at e;have aE:u9 x=false->p.steps.all u9=false:=fun z=>by rw[e,z,mg]
  have aq:u9 x=(decide (x.clause.length<=40)&&(decide (x.cn.length<=40)&&(decide (x.args.length<=40)&&(DY x.dC&&Dg x.cp)))):=rfl;simp only[go_sem,seval,f1,bZ,e5,xO,wa,ag,ay,r.st.addr ck,r.st.bM dU,xx];simp only[<-ff];simp only[<-hB];by_cases c1:(40:Int)<(x.clause.length:Int)
  ·simp only[go_sem,seval,dn,eO,ez,lc,c1];exact ht _ _ an (aE (by rw[aq,jS (by omega),mg])) (by simp only[go_sem,seval])
  rw[ke (show x.clause.length<=40 by omega),ju]at aq;by_cases c2:(40:Int)<(x.cn.length:Int)
  ·simp only[go_sem,seval,dn,eO,ez,fD,ft,lc,dG,c1,c2];exact ht _ _ an (aE (by rw[aq,jS (by omega),mg])) (by simp only[go_sem,seval])
  rw[ke (show x.cn.length<=40 by omega),ju]at aq;by_cases dF:(40:Int)<(x.args.length:Int)
  ·simp only[go_sem,seval,dn,eO,ez,fD,ft,fg,ee,lc,dG,cZ,c1,c2,dF];exact ht _ _ an (aE (by rw[aq,jS (by omega),mg])) (by simp only[go_sem,seval])
  rw[ke (show x.args.length<=40 by omega),ju]at aq;cases oy:DY x.dC with
  |false=>
   rw[oy]at cs;simp only[go_sem,seval,dn,eO,ez,fD,ft,fg,ee,f3,fX,lc,dG,cZ,c1,c2,dF,cs.cl];exact ht _ _ an (aE (by rw[aq,oy,mg])) (by simp only[go_sem,seval])
  |true=>
  rw[oy,ju]at aq;rw[oy]at cs;rw[<-aq]at gO;cases ur:u9 x with
  |false=>
   rw[ur]at gO;simp only[go_sem,seval,dn,eO,ez,fD,ft,fg,ee,f3,fX,fS,fC,lc,dG,cZ,c1,c2,dF,cs.cl,bQ,gO.cl];exact ht _ _ an (aE ur) (by simp only[go_sem,seval])
  |true=>
   rw[ur]at gO;rw[ur,ju]at e;simp only[go_sem,seval,dn,eO,ez,fD,ft,fg,ee,f3,fX,fS,fC,lc,dG,cZ,c1,c2,dF,cs.cl,bQ,gO.cl,bZ,cG (show i<9223372036854775807 by omega)];refine⟨_,_,rfl,an,e,?_,?_⟩
   all_goals simp only[go_sem,seval,f1]
 ·rintro s ⟨I,h1,rfl,aB,e,f1,bZ⟩;have bW:=aB.bx;have ry:=aB.dW;have e5:=(aB.gt cB).trans aN;have ay:¬((p.steps.length:Int)<(p.steps.length:Int)):=by omega
  rw[fp]at e;simp only[go_sem,seval,f1,bZ,e5,xO,wa,ag,ay];exact eu _ _ an e
theorem auc[bP:aK a]{p:Form.jh}{bg aF:V}{Y:Nat->V}{S W:Nat->Nat->V}{D:Nat->j4}(r:u4 a p bg aF Y S W D):aS J a 26 [.agg [bg,aF]] (.bool (Ei p)):=by
 refine aS.bE ak.Sh rfl fun h ca g=>?_;obtain⟨cB,mN⟩:∃b:P,b=h.next:=⟨_,rfl⟩
 obtain⟨H1,cR⟩:∃H:H,H=h.new (.af [bg,aF] 25):=⟨_,rfl⟩;have bW:aK H1:=by rw[cR];exact an
 have aB:aj h H1:=by rw[cR];exact an
 have dx:aj a H1:=g.aG aB;have bj:H1.get cB=some (.af [bg,aF] 25):=by rw[cR,mN];exact ef
 have fZ:=aP bj;have c6:=r.at'.ag.a2;rw[dL,d4]at c6;have ag:=r.st.a2;rw[rq]at ag;obtain⟨E,bX⟩:∃E:Bool,E=Ei p:=⟨_,rfl⟩;rw[<-bX];unfold Ei at bX;simp only[Sg,go_sem,seval];simp only[<-mN];simp only[<-cR];by_cases c1:(60:Int)<(p.atoms.length:Int)
 ·rw[jS (by omega),mg]at bX;subst bX;simp only[go_sem,seval,bj,l9,ma,c6,c1]
 rw[ke (show p.atoms.length<=60 by omega),ju]at bX;by_cases c2:(200:Int)<(p.steps.length:Int)
 ·rw[jS (by omega),mg]at bX;subst bX;simp only[go_sem,seval,bj,l9,ma,xO,wa,c6,ag,c1,c2]
 rw[ke (show p.steps.length<=200 by omega),ju]at bX;simp only[go_sem,seval,bj,l9,ma,xO,wa,c6,ag,c1,c2];refine dK p.atoms.length (fun i t=>∃I ae,t=⟨I,[],ae⟩/\aj H1 ae/\p.atoms.all s5=(p.atoms.drop i).all s5/\I.gt 1=.ptr cB 0 0 2/\I.gt 3=.ad (i:Nat)) ?_ ?_ (dk _) ⟨_,H1,rfl,an,rfl,?_,?_⟩
 ·rintro i t ai ⟨I,ae,rfl,aY,e,f1,aR⟩;have c3:=aY.bx;have ey:aj h ae:=aB.aG aY;have iW:aj a ae:=dx.aG aY;have kC:=aY.dW;have cO:=(aY.gt cB).trans bj;obtain⟨x,ab⟩:=bI ai;have ay:((i:Int)<(p.atoms.length:Int)):=by omega
  have ck:i<(cI (dT Y p.atoms.length)).length:=by rw[dL,d4];exact ai
  have cs:=TP (J:=J) (r.at'.row i x ab);rw[en ab,ye]at e;cases aA:s5 x with
  |false=>
   rw[aA]at cs;have:E=false:=by rw[bX,e,aA];rfl
   subst this;simp only[go_sem,seval,f1,aR,cO,l9,ma,c6,ay,r.at'.ag.addr ck,r.at'.ag.bM (jc (kx Y ai)),cs.cl]
  |true=>
   rw[aA]at cs;rw[aA,ju]at e;simp only[go_sem,seval,f1,aR,cO,l9,ma,c6,ay,r.at'.ag.addr ck,r.at'.ag.bM (jc (kx Y ai)),cs.cl,cG (show i<9223372036854775807 by omega)];refine⟨_,_,rfl,an,e,?_,?_⟩
   all_goals simp only[go_sem,seval,f1]
 ·rintro t ⟨I,ae,rfl,aY,e,f1,aR⟩;have c3:=aY.bx;have ey:aj h ae:=aB.aG aY;have iW:aj a ae:=dx.aG aY;have kC:=aY.dW;have cO:=(aY.gt cB).trans bj;have ay:¬((p.atoms.length:Int)<(p.atoms.length:Int)):=by omega
  rw[fp]at e;have e: p.atoms.all s5=true:=e;rw[e,ju]at bX;simp only[go_sem,seval,f1,aR,cO,l9,ma,c6,ay];refine azg (a:=a) r cO (by simp only[go_sem,seval,f1]) (by simp only[go_sem,seval]) (fun aQ aa bR e=>?_) (fun aQ aa bR e cq=>?_)
  ·have ch:=bR.bx;have xy:aj h aa:=ey.aG bR;rw[e]at bX;subst bX;simp only[go_sem,seval]
  ·have ch:=bR.bx;have xy:aj h aa:=ey.aG bR;rw[e]at bX;subst bX;simp only[go_sem,seval,cq]
 all_goals simp only[go_sem,seval]
end
end Go.ao
