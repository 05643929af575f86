/- A part of the proof that ProofForms holds for every input. -/
import Derived.Test.YtphcmfmpbndkbaaGreatDoorQ19
set_option maxRecDepth 100000
set_option maxHeartbeats 4000000
set_option linter.all false
noncomputable section
namespace Go.ao
section
open Form
variable {J:Prog}[ak J]{a:H}
def GV(p:Form.jh):Bool:=Ei p&&p.atoms.all fun t=>decide (t.length<=60)
structure aBF(s:Form.eX):Prop where
 cl:s.clause.length<=40
 fl:s.cn.length<=40
 i3:s.args.length<=40
 hx:s.dC.length<=40
 Jq:∀x∈s.dC,x.length<=200
 eA:Dg s.cp=true
theorem amt{s:Form.eX}(h:u9 s=true):aBF s:=by
 unfold u9 DY at h;simp only[dJ,kL,zO]at h;obtain⟨h1,ae,az,⟨bo,cb⟩,dM⟩:=h;exact⟨h1,ae,az,cb,bo,dM⟩
theorem aud[bP:aK a]{p:Form.jh}{bg aF:V}{Y:Nat->V}{S W:Nat->Nat->V}{D:Nat->j4}(r:u4 a p bg aF Y S W D)(aA: p.steps.all u9=true){aJ:H}[ca:aK aJ][eZ:aj a aJ]{I:Fr}{k:c4}(oM:I.gt 29=aF)(qW:I.gt 30=.ad (p.steps.length:Nat))(m6:I.gt 31=.ad 0)
  (eu:∀aQ aa,aj aJ aa->k.run J (.exit 2 ⟨aQ,[],aa⟩)):dA J afL ⟨I,[],aJ⟩ k:=by
 have hlen:=r.len;unfold afL;refine dK p.steps.length (fun i s=>∃I h1,s=⟨I,[],h1⟩/\aj aJ h1/\I.gt 29=aF/\I.gt 30=.ad (p.steps.length:Nat)/\I.gt 31=.ad (i:Nat)) ?_ ?_ (dk _) ⟨_,aJ,rfl,an,oM,qW,m6⟩
 ·rintro i s ai ⟨I,h1,rfl,aB,oM,qW,m6⟩;have bW:=aB.bx;have dx:aj a h1:=eZ.aG aB;obtain⟨x,ab⟩:=bI ai;have ay:((i:Int)<(p.steps.length:Int)):=by omega
  have ck:i<(lH D 0 p.steps).length:=by rw[rq];exact ai
  have dU:=Eg D 0 p.steps i x ab;rw[eH]at dU;have R:=r.row i x ab;have B:=amt (List.all_eq_true.1 aA x (c0 ab));have lc:=R.cl.a2;have dG:=R.fl.a2;have cZ:=R.i3.a2;have eV:=R.hx.a2;rw[c9]at lc;rw[c7]at dG cZ;rw[ow]at eV;have c1:¬(101:Int)<(x.clause.length:Int):=by have:=B.cl;omega
  have c2:¬(101:Int)<(x.cn.length:Int):=by have:=B.fl;omega
  have dF:¬(101:Int)<(x.args.length:Int):=by have:=B.i3;omega
  have fs:¬(101:Int)<(x.dC.length:Int):=by have:=B.hx;omega
  have fN:=B.hx;have gO:=adN (J:=J) R.eA;rw[B.eA]at gO;obtain⟨fr,p8⟩:∃b:P,b=h1.next:=⟨_,rfl⟩
  obtain⟨eb,ff⟩:∃H:H,H=h1.new (.af [.ad x.cz,(D i).cS,(D i).cC,(D i).bg,(D i).cK,(D i).cv] 64):=⟨_,rfl⟩;have c3:aK eb:=by rw[ff];exact an
  have aY:aj h1 eb:=by rw[ff];exact an
  have adO:aj aJ eb:=aB.aG aY;have iW:aj a eb:=dx.aG aY;have dQ:eb.get fr=some (.af [.ad x.cz,(D i).cS,(D i).cC,(D i).bg,(D i).cK,(D i).cv] 64):=by rw[ff,p8];exact ef
  have qM:=aP dQ;simp only[go_sem,seval,oM,qW,m6,ay,r.st.addr ck,r.st.bM dU,xx];simp only[<-ff];simp only[<-p8];simp only[go_sem,seval,dQ,eO,ez,fD,ft,fg,ee,f3,fX,fS,fC,lc,dG,cZ,eV,c1,c2,dF,fs,gO.cl,bQ];refine dK x.dC.length (fun j s=>∃I az,s=⟨I,[],az⟩/\aj eb az/\I.gt 29=aF/\I.gt 30=.ad (p.steps.length:Nat)/\I.gt 31=.ad (i:Nat)/\I.gt 64=(D i).cK/\I.gt 65=.ad (x.dC.length:Nat)/\I.gt 66=.ad (j:Nat)) ?_ ?_ (dk _) ⟨_,_,rfl,an,?_,?_,?_,?_,?_,?_⟩
  ·rintro j s a5 ⟨I,az,rfl,b4,oM,qW,m6,f64,FL,TQ⟩;have fo:=b4.bx;have pk:aj a az:=iW.aG b4;obtain⟨y,ax⟩:=bI a5;have nC:((j:Int)<(x.dC.length:Int)):=by omega
   have jY:¬(250:Int)<(y.length:Int):=by have:=B.Jq y (c0 ax);omega
   simp only[go_sem,seval,oM,qW,m6,f64,FL,TQ,nC,R.hx.addr (i:=j) (by rw[ow];exact a5),R.hx.bM (Em ax),gS,jY,cG (show j<9223372036854775807 by omega)];refine⟨_,_,rfl,an,?_,?_,?_,?_,?_,?_⟩
   all_goals simp only[go_sem,seval,oM,qW,m6,f64,FL]
  ·rintro s ⟨I,az,rfl,b4,oM,qW,m6,f64,FL,TQ⟩;have fo:=b4.bx;have atm:aj aJ az:=adO.aG b4;have nC:¬((x.dC.length:Int)<(x.dC.length:Int)):=by omega
   simp only[go_sem,seval,oM,qW,m6,FL,TQ,nC,cG (show i<9223372036854775807 by omega)];refine⟨_,_,rfl,an,?_,?_,?_⟩
   all_goals simp only[go_sem,seval,oM,qW]
  all_goals simp only[go_sem,seval,oM,qW,m6]
 ·rintro s ⟨I,h1,rfl,aB,oM,qW,m6⟩;have bW:=aB.bx;have ay:¬((p.steps.length:Int)<(p.steps.length:Int)):=by omega
  simp only[go_sem,seval,qW,m6,ay];exact eu _ _ an
theorem jY[bP:aK a]{p:Form.jh}{bg aF:V}{Y:Nat->V}{S W:Nat->Nat->V}{D:Nat->j4}(r:u4 a p bg aF Y S W D):aS J a 5 [.agg [bg,aF]] (.bool (GV p)):=by
 refine aS.bE ak.bu rfl fun h ca g=>?_;obtain⟨cB,mN⟩:∃b:P,b=h.next:=⟨_,rfl⟩
 obtain⟨H1,cR⟩:∃H:H,H=h.new (.af [bg,aF] 25):=⟨_,rfl⟩;have bW:aK H1:=by rw[cR];exact an
 have aB:aj h H1:=by rw[cR];exact an
 have dx:aj a H1:=g.aG aB;have bj:H1.get cB=some (.af [bg,aF] 25):=by rw[cR,mN];exact ef
 have fZ:=aP bj;have c6:=r.at'.ag.a2;rw[dL,d4]at c6;have ag:=r.st.a2;rw[rq]at ag;have iD:=auc (J:=J) r;obtain⟨E,bX⟩:∃E:Bool,E=GV p:=⟨_,rfl⟩;rw[<-bX];unfold GV at bX;simp only[Ca,go_sem,seval];simp only[<-mN];simp only[<-cR];cases bh:Ei p with
 |false=>
  rw[bh]at iD;rw[bh,mg]at bX;subst bX;simp only[go_sem,seval,bj,mr,iD.cl]
 |true=>
 rw[bh]at iD;rw[bh,ju]at bX;have hP:=bh;unfold Ei at hP;simp only[dJ,kL]at hP;obtain⟨e5,cO,c5,fw⟩:=hP;obtain⟨eb,ff⟩:∃H:H,H=cg iD H1 an:=⟨_,rfl⟩;have c3:aK eb:=by rw[ff];exact an
 have aY:aj H1 eb:=by rw[ff];exact an
 have kC:=aY.dW;have a8:=(aY.gt cB).trans bj;simp only[go_sem,seval,bj,mr,iD.cl];simp only[<-ff];simp only[go_sem,seval,a8,l9,ma,c6];refine dK p.atoms.length (fun i t=>∃I ae,t=⟨I,[],ae⟩/\aj eb ae/\p.atoms.all (fun t=>decide (t.length<=60))=(p.atoms.drop i).all (fun t=>decide (t.length<=60))/\I.gt 1=.ptr cB 0 0 2/\I.gt 13=bg/\I.gt 14=.ad (p.atoms.length:Nat)/\I.gt 15=.ad (i:Nat)) ?_ ?_ (dk _) ⟨_,eb,rfl,an,rfl,?_,?_,?_,?_⟩
 ·rintro i t ai ⟨I,ae,rfl,b4,e,f1,h9,qg,qa⟩;have fo:=b4.bx;have ey:aj h ae:=(aB.aG aY).aG b4;have iW:aj a ae:=g.aG ey;obtain⟨x,ab⟩:=bI ai;have ay:((i:Int)<(p.atoms.length:Int)):=by omega
  have ck:i<(cI (dT Y p.atoms.length)).length:=by rw[dL,d4];exact ai
  have T:=r.at'.row i x ab;have cs:=TP (J:=J) T;rw[List.all_eq_true.1 c5 x (c0 ab)]at cs;have n4:=T.ag.a2;rw[gj]at n4;rw[en ab,ye]at e;by_cases c1:(60:Int)<(x.length:Int)
  ·have:E=false:=by rw[bX,e,jS (by omega)];rfl
   subst this;simp only[go_sem,seval,h9,qg,qa,ay,r.at'.ag.addr ck,r.at'.ag.bM (jc (kx Y ai)),n4,c1]
  ·rw[ke (by omega),ju]at e;simp only[go_sem,seval,h9,qg,qa,ay,r.at'.ag.addr ck,r.at'.ag.bM (jc (kx Y ai)),n4,c1,cs.cl,cG (show i<9223372036854775807 by omega)];refine⟨_,_,rfl,an,e,?_,?_,?_,?_⟩
   all_goals simp only[go_sem,seval,f1,h9,qg]
 ·rintro t ⟨I,ae,rfl,b4,e,f1,h9,qg,qa⟩;have fo:=b4.bx;have ey:aj h ae:=(aB.aG aY).aG b4;have iW:aj a ae:=g.aG ey;have vC:=b4.dW;have cc:=(b4.gt cB).trans a8;have ay:¬((p.atoms.length:Int)<(p.atoms.length:Int)):=by omega
  rw[fp]at e;have bX:E=true:=by rw[bX,e];rfl
  subst bX;simp only[go_sem,seval,f1,h9,qg,qa,ay,cc,xO,wa,ag];refine aud (a:=a) r fw (by simp only[go_sem,seval]) (by simp only[go_sem,seval]) (by simp only[go_sem,seval]) (fun aQ aa bR=>?_);have ch:=bR.bx;have xy:aj h aa:=ey.aG bR;simp only[go_sem,seval]
 all_goals simp only[go_sem,seval]
theorem TR{v:V}{l:List Int}[bP:aK a](s:bB a v 1 (dH l))(au:l.length<1000000):cJ J a 97 [v] (fun w h=>bD 3 1 (aH a.next) h w (dH l)):=by
 refine cJ.bE ak.abQ rfl fun h ca g=>?_;obtain⟨w,ae,e,o,aY⟩:=Hc (ty:=3) (bytes:=8) (s.aO bP.ok g) (by rw[c7];omega) (by rw[c7];omega);have c3:=aY.bx;simp only[abP,go_sem,seval,e];exact o.mono g.g.next
theorem azh{v:V}{l:List (b9×b9)}[bP:aK a](s:bB a v 2 (hi l))(au:l.length<1000000):cJ J a 223 [v] (fun w h=>bD 232 2 (aH a.next) h w (hi l)):=by
 refine cJ.bE ak.agP rfl fun h ca g=>?_;obtain⟨w,ae,e,o,aY⟩:=Hc (ty:=232) (bytes:=32) (s.aO bP.ok g) (by rw[jd];omega) (by rw[jd];omega);have c3:=aY.bx;simp only[agO,go_sem,seval,e];exact o.mono g.g.next
theorem aue{v:V}{l:List b9}[bP:aK a](s:bB a v 1 (qk l))(au:l.length<1000000):cJ J a 98 [v] (fun w h=>bD 9 1 (aH a.next) h w (qk l)):=by
 refine cJ.bE ak.abS rfl fun h ca g=>?_;obtain⟨w,ae,e,o,aY⟩:=Hc (ty:=9) (bytes:=16) (s.aO bP.ok g) (by rw[ow];omega) (by rw[ow];omega);have c3:=aY.bx;simp only[abR,go_sem,seval,e];exact o.mono g.g.next
theorem auf{v:V}{t:List bb}{S W:Nat->V}[bP:aK a](aU:fc a v t S W)(au:t.length<1000000):cJ J a 96 [v] (fun w h=>∃cP cy,kl (aH a.next) h w t cP cy):=by
 refine cJ.bE ak.abO rfl fun h ca g=>?_;have c6:=aU.ag.a2;rw[gj]at c6;simp only[abN,go_sem,seval];refine dK t.length (fun i s=>∃I h1 w cP cy,s=⟨I,[],h1⟩/\aj h h1/\kl (aH h.next) h1 w (t.take i) cP cy/\I.gt 0=v/\I.gt 3=w/\I.gt 4=.ad (i:Nat)) ?_ ?_ (dk _) ⟨_,h,.al,S,W,rfl,an,kl.nil _ _ _ _,?_,?_,?_⟩
 ·rintro i s ai ⟨I,h1,w,cP,cy,rfl,aB,wb,bq,aR,bZ⟩;have bW:=aB.bx;have dx:aj a h1:=g.aG aB;obtain⟨n,aq⟩:=bI ai;have ay:((i:Int)<(t.length:Int)):=by omega
  have bJ:=aU.ag.addr (aU.lt ai);obtain⟨cM,hB⟩:∃b:P,b=h1.next:=⟨_,rfl⟩
  obtain⟨eb,ff⟩:∃H:H,H=h1.new (.af [.ad n.op,.str n.sort,.str n.name,S i,W i] 90):=⟨_,rfl⟩;have c3:aK eb:=by rw[ff];exact an
  have aY:aj h1 eb:=by rw[ff];exact an
  have a8:eb.get cM=some (.af [.ad n.op,.str n.sort,.str n.name,S i,W i] 90):=by rw[ff,hB];exact ef
  have dD:=aP a8;have Cc:eC cM h1:=⟨by rw[hB];exact a1 _⟩;have azi:aj a eb:=dx.aG aY;have R:=(aU.aO bP.ok azi).row i n aq;have hF:=R.hF;have ki:=R.ki;have Ik:=fK R.kids;have h3:=azh (J:=J) R.vars (by omega);simp only[go_sem,seval,bq,aR,bZ,c6,ay,bJ,aU.ag.bM (aU.at aq),mq];simp only[<-ff];simp only[<-hB];refine h3.oR fun v1 az b4 fo iH=>?_;have oO:aj h1 az:=aY.aG b4;have cc:=(b4.gt cM).trans a8;have gx:=aP cc;have aqb:=R.aO c3.ok b4;have ci:=TR (J:=J) aqb.kids (by omega);simp only[go_sem,seval,cc,l7,Ik];refine ci.oR fun v2 cb eg lX t0=>?_;have v9:aj h1 cb:=oO.aG eg;have dn:=(eg.gt cM).trans cc;have g9:=aP dn;obtain⟨j3,nG⟩:∃H:H,H=(cb.set cM (.af [.ad n.op,.str n.sort,.str n.name,v1,W i] 90)).set cM (.af [.ad n.op,.str n.sort,.str n.name,v1,v2] 90):=⟨_,rfl⟩;have ss:aK j3:=by rw[nG];exact an
  have t1:aj h1 j3:=by rw[nG];exact an
  have dQ:j3.get cM=some (.af [.ad n.op,.str n.sort,.str n.name,v1,v2] 90):=by rw[nG];exact jt
  have qM:=aP dQ;have CZ:bD 232 2 (aH eb.next) j3 v1 (hi n.vars):=by rw[nG];exact((iH.aO eg).Bl dD.lt _).Bl dD.lt _
  have JK:bD 3 1 (aH az.next) j3 v2 (dH n.kids):=by rw[nG];exact(t0.Bl gx.lt _).Bl gx.lt _
  have AN:aj h j3:=aB.aG t1;have iO:=aB.g.next
  have at0:=aY.g.next
  have n13:=oO.g.next
  have at1:=t1.g.next
  have kk:(t.take i).length=i:=by rw[el];omega
  have e0:aj j3 (j3.new (.af [.ad n.op,.str n.sort,.str n.name,v1,v2] 90)):=an;obtain⟨w',fU,gL,at8,et⟩:=kl.snoc (wb.aO (t1.aG e0)) ((JK.aO e0).mono (show aH h.next<=aH az.next by omega)) ((CZ.aO e0).mono (show aH h.next<=aH eb.next by omega)) (fun j bR a5 bj a8=>by
   rw[kk]at a5;obtain⟨m,hm⟩:=bI (l:=t.take i) (i:=j) (by rw[kk];exact a5);have rL:=(wb.hJ j m hm).y6.root bj;have p9:=JK.rt.root a8;omega) (wI (h:=j3) (ty:=90) (es:=5) rfl) (by rw[fF,gu];omega) (by rw[kk];omega)
  rw[kk]at at8;simp only[go_sem,seval,dn,q2,l8,adC _ _ _ _ _ _ _ _ _ iH.ag.cell,adD _ _ _ _ _ _ _ _ _ t0.ag.cell];simp only[<-nG];simp only[go_sem,seval,dQ,adE,adF,aR,bZ,gL,cG (show i<9223372036854775807 by omega)];refine⟨_,fU,w',upd cP i v1,upd cy i v2,rfl,et.aO h (a1 _),?_,?_,?_,?_⟩
  ·rw[mU,aq];exact at8
  all_goals simp only[go_sem,seval,bq]
 ·rintro s ⟨I,h1,w,cP,cy,rfl,aB,wb,bq,aR,bZ⟩;have bW:=aB.bx;have ay:¬((t.length:Int)<(t.length:Int)):=by omega
  rw[g5]at wb;simp only[go_sem,seval,bq,aR,bZ,c6,ay];exact⟨cP,cy,wb.mono g.g.next⟩
 all_goals simp only[go_sem,seval]
end
section
open Form
open cE (b1)
variable {J:Prog}[ak J]{a:H}
structure q3(b:Nat)(h:H)(v:V)(l:List (List bb))(Y:Nat->V)(S W:Nat->Nat->V):Prop where
 ag:bD 52 1 b h v (cI (dT Y l.length))
 row:∀i t,l[i]?=some t->kl b h (Y i) t (S i) (W i)
theorem q3.aO{b:Nat}{h aa:H}{v:V}{l:List (List bb)}{Y:Nat->V}{S W:Nat->Nat->V}(r:q3 b h v l Y S W)[k:aK h](g:aj h aa):q3 b aa v l Y S W:=⟨r.ag.aO g,fun i t e=>(r.row i t e).aO g⟩
theorem q3.mono{b b3:Nat}{h:H}{v:V}{l:List (List bb)}{Y:Nat->V}{S W:Nat->Nat->V}(r:q3 b h v l Y S W)(ah:b3<=b):q3 b3 h v l Y S W:=⟨r.ag.mono ah,fun i t e=>(r.row i t e).mono ah⟩
theorem q3.fR{T:TypeId}{b:Nat}{v:V}{l:List (List bb)}{Y:Nat->V}{S W:Nat->Nat->V}(av:52≠T)(h1:90≠T)(ae:3≠T)(az:232≠T):gH T (fun h=>q3 b h v l Y S W):=
 ⟨fun h aa k g o=>o.aO g,fun h aa g xs aZ dead k e u o=>⟨(bD.fR av).up h aa g xs aZ dead k e u o.ag,fun i t q=>(kl.fR h1 ae az).up h aa g xs aZ dead k e u (o.row i t q)⟩⟩
theorem q3.ts{b:Nat}{h:H}{v:V}{l:List (List bb)}{Y:Nat->V}{S W:Nat->Nat->V}(r:q3 b h v l Y S W)(ah:∀t∈l,q0 t):sO h l v Y S W:=⟨r.ag.ag,fun i t e=>(r.row i t e).aU (ah t (c0 e))⟩
theorem adP{v:V}{l:List (List bb)}{Y:Nat->V}{S W:Nat->Nat->V}[bP:aK a](r:sO a l v Y S W)(au:l.length<1000000)(oN:∀t∈l,t.length<1000000):cJ J a 33 [v] (fun w h=>∃sA cP cy,q3 (aH a.next) h w l sA cP cy):=by
 refine cJ.bE ak.yU rfl fun h ca g=>?_;have c6:=r.ag.a2;rw[dL,d4]at c6;simp only[abg,go_sem,seval];refine dK l.length (fun i s=>∃I h1 w sA cP cy,s=⟨I,[],h1⟩/\aj h h1/\bD 52 1 (aH h.next) h1 w (cI (dT sA i))/\(∀j t,j<i->l[j]?=some t->kl (aH a.next) h1 (sA j) t (cP j) (cy j))/\I.gt 0=v/\I.gt 3=w/\I.gt 4=.ad (i:Nat)) ?_ ?_ (dk _) ⟨_,h,.al,Y,S,W,rfl,an,.nil _ _ _ _,fun _ _ h=>absurd h (nV _),?_,?_,?_⟩
 ·rintro i s ai ⟨I,h1,w,sA,cP,cy,rfl,aB,dt,jX,bq,aR,bZ⟩;have bW:=aB.bx;have dx:aj a h1:=g.aG aB;obtain⟨x,ab⟩:=bI ai;have ay:((i:Int)<(l.length:Int)):=by omega
  have ck:i<(cI (dT Y l.length)).length:=by rw[dL,d4];exact ai
  have co:=auf (J:=J) (r.row i x ab) (oN x (c0 ab));simp only[go_sem,seval,bq,aR,bZ,c6,ay,r.ag.addr ck,r.ag.bM (jc (kx Y ai))];refine co.run fun y ae aY c3 dX=>?_;obtain⟨Cr,Mp,dD⟩:=dX;have eL:=dD.nodes.ag.cell;have ey:aj h ae:=aB.aG aY;have e0:aj ae (ae.new (.af [y] 52)):=an;obtain⟨eU,az,bO,iH,et,st⟩:=ui (bytes:=24) (dt.aO (aY.aG e0)) (wI (h:=ae) (c:=[y]) (es:=1) (ty:=52) rfl) (by have:=ey.g.next;rw[fF,gu];omega) (by simp only[dL,d4,eG,eJ];omega) (by simp only[dL,d4,eG,eJ];omega);simp only[go_sem,seval,aR,bZ,adG y eL,bO,cG (show i<9223372036854775807 by omega)];refine⟨_,az,eU,upd sA i y,fun j=>if j=i then Cr else cP j,fun j=>if j=i then Mp else cy j,rfl,et.aO h (a1 _),?_,?_,?_,?_,?_⟩
  ·rw[<-Ly];exact iH
  ·intro j t a5 bp;have T:=fun(v:V) (t:List bb) (S W:Nat->V)=>kl.fR (b:=aH a.next) (v:=v) (t:=t) (S:=S) (W:=W) (T:=52) (by decide) (by decide) (by decide);by_cases ib:j=i
   ·subst ib;rw[ab]at bp;cases bp;rw[kf];dsimp only;rw[bl rfl,bl rfl];exact st _ (T _ _ _ _) (dD.aO e0)
   ·rw[iN _ _ ib];dsimp only;rw[bf ib,bf ib];exact st _ (T _ _ _ _) ((jX j t (by omega) bp).aO (aY.aG e0))
  all_goals simp only[go_sem,seval,bq]
 ·rintro s ⟨I,h1,w,sA,cP,cy,rfl,aB,dt,jX,bq,aR,bZ⟩;have bW:=aB.bx;have ay:¬((l.length:Int)<(l.length:Int)):=by omega
  simp only[go_sem,seval,bq,aR,bZ,c6,ay];exact⟨sA,cP,cy,dt.mono g.g.next,fun i t e=>jX i t (DX e) e⟩
 all_goals simp only[go_sem,seval]
structure r6(b:Nat)(h:H)(s:Form.eX)(d:j4):Prop where
 cl:bD 62 2 b h d.cS (dv s.clause)
 fl:bD 3 1 b h d.cC (dH s.cn)
 i3:bD 3 1 b h d.bg (dH s.args)
 hx:bD 9 1 b h d.cK (qk s.dC)
 eA:q3 b h d.cv s.cp d.Y d.S d.W
theorem r6.aO{b:Nat}{h aa:H}{s:Form.eX}{d:j4}(r:r6 b h s d)[k:aK h](g:aj h aa):r6 b aa s d:=⟨r.cl.aO g,r.fl.aO g,r.i3.aO g,r.hx.aO g,r.eA.aO g⟩
theorem r6.fR{b:Nat}{s:Form.eX}{d:j4}:gH 64 (fun h=>r6 b h s d):=
 ⟨fun h aa k g o=>o.aO g,fun h aa g xs aZ dead k e u o=>⟨(bD.fR (by decide)).up h aa g xs aZ dead k e u o.cl,(bD.fR (by decide)).up h aa g xs aZ dead k e u o.fl,(bD.fR (by decide)).up h aa g xs aZ dead k e u o.i3,(bD.fR (by decide)).up h aa g xs aZ dead k e u o.hx,(q3.fR (by decide) (by decide) (by decide) (by decide)).up h aa g xs aZ dead k e u o.eA⟩⟩
theorem anl(D:Nat->j4)(s:Form.eX):∀(l:List Form.eX) (k:Nat),lH D k (l++[s])=lH D k l++[[.ad s.cz,(D (k+l.length)).cS,(D (k+l.length)).cC,(D (k+l.length)).bg,(D (k+l.length)).cK,(D (k+l.length)).cv]]
 |[],k=>rfl
 |m::t,k=>by
  show[V.ad m.cz,(D k).cS,(D k).cC,(D k).bg,(D k).cK,(D k).cv]::lH D (k+1) (t++[s])=_;rw[anl D s t (k+1),show k+1+t.length=k+(m::t).length by simp;omega];rfl
theorem an8{D nA:Nat->j4}:∀(l:List Form.eX) (k:Nat),(∀j,k<=j->j<k+l.length->D j=nA j) ->lH D k l=lH nA k l
 |[],_,_=>rfl
 |n::t,k,h=>by
  have h1:=h k (a1 _) (by simp);have ae:=an8 t (k+1) fun j a5 au=>h j (by omega) (by simp at au⊢;omega);show[V.ad n.cz,(D k).cS,(D k).cC,(D k).bg,(D k).cK,(D k).cv]::lH D (k+1) t=_;rw[h1,ae];rfl
theorem aug(x y z s w u:V):g6 64 6 1 [.ad 0,.al,.al,.al,.al,.al] [(0,6,.agg [x,y,z,s,w,u])]=some (.af [x,y,z,s,w,u] 64,fun f=>.ag f 0 0 1 6 (some 1)):=rfl
theorem auh(r:Int)(c p q n t:V)(ty:TypeId)(h:H)(f:P)(v:V)(ar:v.cells=[v]):fz (some (.af [.ad r,c,p,q,n,t] ty)) h f 1 0 1 1 v=some (.bk [],h.set f (.af [.ad r,v,p,q,n,t] ty)):=zD _ _ _ _ 1 (by simp) v ar
theorem aui(r:Int)(c p q n t:V)(ty:TypeId)(h:H)(f:P)(v:V)(ar:v.cells=[v]):fz (some (.af [.ad r,c,p,q,n,t] ty)) h f 1 0 2 1 v=some (.bk [],h.set f (.af [.ad r,c,v,q,n,t] ty)):=zD _ _ _ _ 2 (by simp) v ar
theorem auj(r:Int)(c p q n t:V)(ty:TypeId)(h:H)(f:P)(v:V)(ar:v.cells=[v]):fz (some (.af [.ad r,c,p,q,n,t] ty)) h f 1 0 3 1 v=some (.bk [],h.set f (.af [.ad r,c,p,v,n,t] ty)):=zD _ _ _ _ 3 (by simp) v ar
theorem auk(r:Int)(c p q n t:V)(ty:TypeId)(h:H)(f:P)(v:V)(ar:v.cells=[v]):fz (some (.af [.ad r,c,p,q,n,t] ty)) h f 1 0 4 1 v=some (.bk [],h.set f (.af [.ad r,c,p,q,v,t] ty)):=zD _ _ _ _ 4 (by simp) v ar
theorem aul(r:Int)(c p q n t:V)(ty:TypeId)(h:H)(f:P)(v:V)(ar:v.cells=[v]):fz (some (.af [.ad r,c,p,q,n,t] ty)) h f 1 0 5 1 v=some (.bk [],h.set f (.af [.ad r,c,p,q,n,v] ty)):=zD _ _ _ _ 5 (by simp) v ar
theorem aum{v:V}{l:List Form.eX}{D:Nat->j4}[bP:aK a](s:bB a v 6 (lH D 0 l))(au:l.length<1000000)(aI:∀i s,l[i]?=some s->ks a s (D i).cS (D i).cC (D i).bg (D i).cK (D i).cv (D i).Y (D i).S (D i).W)(ah:∀s∈l,nH s):
  cJ J a 34 [v] (fun w h=>∃nA,bD 64 6 (aH a.next) h w (lH nA 0 l)/\∀i s,l[i]?=some s->r6 (aH a.next) h s (nA i)):=by
 refine cJ.bE ak.AD rfl fun h ca g=>?_;have c6:=s.a2;rw[rq]at c6;simp only[abh,go_sem,seval];refine dK l.length (fun i t=>∃I h1 w nA,t=⟨I,[],h1⟩/\aj h h1/\bD 64 6 (aH h.next) h1 w (lH nA 0 (l.take i))/\(∀j s,j<i->l[j]?=some s->r6 (aH a.next) h1 s (nA j))/\I.gt 0=v/\I.gt 3=w/\I.gt 4=.ad (i:Nat)) ?_ ?_ (dk _) ⟨_,h,.al,D,rfl,an,.nil _ _ _ _,fun _ _ h=>absurd h (nV _),?_,?_,?_⟩
 ·rintro i t ai ⟨I,h1,w,nA,rfl,aB,dt,gC,bq,aR,bZ⟩;have bW:=aB.bx;have dx:aj a h1:=g.aG aB;have iO:=aB.g.next
  have xa:=g.g.next
  obtain⟨x,ab⟩:=bI ai;have B:=ah x (c0 ab);have n3:=B.cl;have ay:((i:Int)<(l.length:Int)):=by omega
  have ck:i<(lH D 0 l).length:=by rw[rq];exact ai
  have dU:=Eg D 0 l i x ab;rw[eH]at dU;obtain⟨cM,hB⟩:∃b:P,b=h1.next:=⟨_,rfl⟩
  obtain⟨eb,ff⟩:∃H:H,H=h1.new (.af [.ad x.cz,(D i).cS,(D i).cC,(D i).bg,(D i).cK,(D i).cv] 64):=⟨_,rfl⟩;have c3:aK eb:=by rw[ff];exact an
  have aY:aj h1 eb:=by rw[ff];exact an
  have iP:=aY.g.next
  have a8:eb.get cM=some (.af [.ad x.cz,(D i).cS,(D i).cC,(D i).bg,(D i).cK,(D i).cv] 64):=by rw[ff,hB];exact ef
  have dD:=aP a8;have Cc:eC cM h1:=⟨by rw[hB];exact a1 _⟩;have aqc:=(aI i x ab).aO bP.ok (dx.aG aY);obtain⟨v1,az,bO,adQ,b4⟩:=Hc (ty:=62) (bytes:=16) aqc.cl (by rw[c9];omega) (by rw[c9];omega);have fo:=b4.bx;have cc:=(b4.gt cM).trans a8;have gx:=aP cc;have oO:aj h1 az:=aY.aG b4;obtain⟨e6,jD⟩:∃H:H,H=az.set cM (.af [.ad x.cz,v1,(D i).cC,(D i).bg,(D i).cK,(D i).cv] 64):=⟨_,rfl⟩;have mE:aK e6:=by rw[jD];exact an
  have rO:aj h1 e6:=by rw[jD];exact an
  have Mq:=rO.g.next
  have dc:e6.get cM=some (.af [.ad x.cz,v1,(D i).cC,(D i).bg,(D i).cK,(D i).cv] 64):=by rw[jD];exact jt
  have hT:=aP dc;have azj:bD 62 2 (aH eb.next) e6 v1 (dv x.clause):=by rw[jD];exact adQ.Bl dD.lt _
  have Cq:=(aI i x ab).aO bP.ok (dx.aG rO);have pT:=fK Cq.i3;have pS:=fK Cq.hx;have st:=fK Cq.eA;have c1:=TR (J:=J) Cq.fl B.fl;simp only[go_sem,seval,bq,aR,bZ,c6,ay,s.addr ck,s.bM dU,xx];simp only[<-ff];simp only[<-hB];simp only[go_sem,seval,a8,eO,ez,bO,cc,auh _ _ _ _ _ _ _ _ _ _ adQ.ag.cell];simp only[<-jD];refine c1.oR fun v2 cb eg lX Nl=>?_;have dn:=(eg.gt cM).trans dc;have g9:=aP dn;have aad:=Cq.aO mE.ok eg;have c2:=TR (J:=J) aad.i3 B.i3;have v9:aj h1 cb:=rO.aG eg;simp only[go_sem,seval,dn,fD,ee,fX,fC,pT,pS,st];refine c2.oR fun eU dM f4 ss iH=>?_;have dQ:=(f4.gt cM).trans dn;have qM:=aP dQ;have aae:=aad.aO lX.ok f4;have dF:=aue (J:=J) aae.hx B.hx;have t1:aj h1 dM:=v9.aG f4;simp only[go_sem,seval,dQ,fX,fC,pS,st];refine dF.oR fun v4 jf lY z7 NK=>?_;have fH:=(lY.gt cM).trans dQ;have z6:=aP fH;have aaf:=aae.aO ss.ok lY;have fs:=adP (J:=J) (l:=x.cp) ⟨aaf.eA,aaf.row⟩ B.eA (fun t bp=>(B.Tc t bp).1);have adR:aj h1 jf:=t1.aG lY;simp only[go_sem,seval,fH,fC,st];refine fs.oR fun lg fU sv Cg HW=>?_;obtain⟨Ms,Mt,Mu,t0⟩:=HW;have gX:=(sv.gt cM).trans fH;have vD:=aP gX;have aOt:aj h1 fU:=adR.aG sv;obtain⟨kP,rN⟩:∃H:H,H=(((fU.set cM (.af [.ad x.cz,v1,v2,(D i).bg,(D i).cK,(D i).cv] 64)).set cM (.af [.ad x.cz,v1,v2,eU,(D i).cK,(D i).cv] 64)).set cM (.af [.ad x.cz,v1,v2,eU,v4,(D i).cv] 64)).set cM (.af [.ad x.cz,v1,v2,eU,v4,lg] 64):=⟨_,rfl⟩
  have EM:aK kP:=by rw[rN];exact an
  have NP:aj h1 kP:=by rw[rN];exact an
  have jM:kP.get cM=some (.af [.ad x.cz,v1,v2,eU,v4,lg] 64):=by rw[rN];exact jt
  have apJ:=aP jM;have adg:aj h kP:=aB.aG NP;have tw:=NP.g.next
  have Ia:jZ cM fU kP:=by rw[rN];exact an
  have aqd:r6 (aH a.next) kP x ⟨v1,v2,eU,v4,lg,Ms,Mt,Mu⟩:=by
   have aqe:r6 (aH a.next) fU x ⟨v1,v2,eU,v4,lg,Ms,Mt,Mu⟩:=⟨((azj.aO (((eg.aG f4).aG lY).aG sv)).mono (by omega)),(Nl.aO ((f4.aG lY).aG sv)).mono (by omega),(iH.aO (lY.aG sv)).mono (by have:=v9.g.next;omega),(NK.aO sv).mono (by have:=t1.g.next;omega),t0.mono (by have:=adR.g.next;omega)⟩
   exact r6.fR.up fU kP cM _ _ _ Cg gX Ia.u aqe
  have kk:(l.take i).length=i:=by rw[el];omega
  have e0:aj kP (kP.new (.af [.ad x.cz,v1,v2,eU,v4,lg] 64)):=an;obtain⟨w',bN,EN,aun,et,MM⟩:=ui (bytes:=128) (dt.aO (NP.aG e0)) (wI (h:=kP) (c:=[.ad x.cz,v1,v2,eU,v4,lg]) (es:=6) (ty:=64) rfl) (by rw[fF,gu];omega) (by rw[rq,kk];simp;omega) (by rw[rq,kk];simp;omega);simp only[go_sem,seval,gX,fD,fg,f3,fS,aui _ _ _ _ _ _ _ _ _ _ Nl.ag.cell,auj _ _ _ _ _ _ _ _ _ _ iH.ag.cell,auk _ _ _ _ _ _ _ _ _ _ NK.ag.cell,aul _ _ _ _ _ _ _ _ _ _ t0.ag.ag.cell];simp only[<-rN];simp only[go_sem,seval,jM,od,aug,aR,bZ,EN,cG (show i<9223372036854775807 by omega)];refine⟨_,bN,w',fun j=>if j=i then⟨v1,v2,eU,v4,lg,Ms,Mt,Mu⟩else nA j,rfl,et.aO h (a1 _),?_,fun j s a5 aA=>?_,?_,?_,?_⟩
  ·have aN:lH (fun j=>if j=i then⟨v1,v2,eU,v4,lg,Ms,Mt,Mu⟩else nA j) 0 (l.take i)=lH nA 0 (l.take i):=an8 _ 0 fun j _ a5=>bf (by omega);rw[nq ab,anl,aN,kk,eH];simp only[qt];exact aun
  ·by_cases ib:j=i
   ·subst ib;rw[ab]at aA;cases aA;dsimp only;rw[bl rfl];exact MM _ r6.fR (aqd.aO e0)
   ·dsimp only;rw[bf ib];exact MM _ r6.fR ((gC j s (by omega) aA).aO (NP.aG e0))
  all_goals simp only[go_sem,seval,bq]
 ·rintro t ⟨I,h1,w,nA,rfl,aB,dt,gC,bq,aR,bZ⟩;have bW:=aB.bx;have ay:¬((l.length:Int)<(l.length:Int)):=by omega
  rw[g5]at dt;simp only[go_sem,seval,bq,aR,bZ,c6,ay];exact⟨nA,dt.mono g.g.next,fun i s e=>gC i s (DX e) e⟩
 all_goals simp only[go_sem,seval]
end
section
open Form
variable {J:Prog}[ak J]{a:H}
theorem SG{x y:V}(ab:x.cells=[x])(ax:y.cells=[y]):jQ [.al,.al] [(0,1,x),(1,1,y)]=some (.agg [x,y]):=by
 simp only[jQ,oU,ab,ax];rfl
theorem r6.Cl{b:Nat}{h:H}{s:Form.eX}{d:j4}(r:r6 b h s d)(ah:∀t∈s.cp,q0 t):ks h s d.cS d.cC d.bg d.cK d.cv d.Y d.S d.W:=
 ⟨r.cl.ag,r.fl.ag,r.i3.ag,r.hx.ag,r.eA.ag.ag,(r.eA.ts ah).row⟩
theorem aag[bP:aK a]{p:Form.jh}{bg aF:V}{Y:Nat->V}{S W:Nat->Nat->V}{D:Nat->j4}(r:xK a p bg aF Y S W D)(b:FM p):
  cJ J a 9 [.agg [bg,aF]] (fun w h=>∃Jk vN sA cP cy nA,w=.agg [Jk,vN]/\xK h p Jk vN sA cP cy nA):=by
 refine cJ.bE ak.dm rfl fun h ca g=>?_;obtain⟨cB,mN⟩:∃b:P,b=h.next:=⟨_,rfl⟩
 obtain⟨bU,e8⟩:∃b:P,b=(h.new (.af [bg,aF] 25)).next:=⟨_,rfl⟩
 obtain⟨H1,cR⟩:∃H:H,H=(h.new (.af [bg,aF] 25)).new (.af [.al,.al] 25):=⟨_,rfl⟩;have bW:aK H1:=by rw[cR];exact an
 have aB:aj h H1:=by rw[cR];exact an
 have dx:aj a H1:=g.aG aB;have bj:H1.get cB=some (.af [bg,aF] 25):=by rw[cR,mN];simp only[go_sem,seval]
 have a8:H1.get bU=some (.af [.al,.al] 25):=by rw[cR,e8];exact ef
 have fZ:=aP bj;have dD:=aP a8;have o5:eC bU h:=⟨by rw[e8,fF,gu];omega⟩;have je:=r.aO bP.ok dx;have kO:=fK r.st;have HF:∀t∈p.atoms,q0 t:=fun t bp=>by
  obtain⟨i,ai⟩:=List.mem_iff_getElem?.1 bp;exact(r.at'.row i t ai).b
 have aqf:∀(i:Nat) (s:Form.eX),p.steps[i]?=some s->∀t∈s.cp,q0 t:=fun i s aA t bp=>by
  obtain⟨j,a5⟩:=List.mem_iff_getElem?.1 bp;exact((r.row i s aA).row j t a5).b
 have c1:=adP (J:=J) je.at' b.at' (fun t bp=>(b.dZ t bp).1);simp only[ZR,go_sem,seval];simp only[<-mN,<-e8];simp only[<-cR];refine c1.oR fun v1 ae aY c3 hq=>?_;obtain⟨sA,cP,cy,auo⟩:=hq;have e5:=(aY.gt cB).trans bj;have cO:=(aY.gt bU).trans a8;have arh:=aP e5;have acW:=aP cO;have ey:aj h ae:=aB.aG aY;have dX:=je.aO bW.ok aY;have c2:=aum (J:=J) dX.st b.st dX.row b.Te;simp only[go_sem,seval,e5,wa,kO];refine c2.oR fun v2 az b4 fo aD=>?_;obtain⟨nA,n0,gC⟩:=aD;have adS:=auo.aO b4;have k8:=(b4.gt bU).trans cO;have aOu:=aP k8;have l3:aj h az:=ey.aG b4;have st2:∀(h:H) (f:P) (x y:V),fz (some (.af [.al,.al] 25)) h f 2 0 0 2 (.agg [x,y])=some (.bk [],h.set f (.af [x,y] 25)):=fun h f x y=>pL _ _ _ _ 2 2 (a1 _) (.agg [x,y]) rfl rfl;obtain⟨e6,jD⟩:∃H:H,H=az.set bU (.af [v1,v2] 25):=⟨_,rfl⟩;have pN:jZ bU az e6:=by rw[jD];exact an
 have mE:aK e6:=pN.bx;have y7:aj h e6:=by rw[jD];exact an
 have dc:e6.get bU=some (.af [v1,v2] 25):=by rw[jD];exact jt
 have hT:=aP dc;have aup:q3 (aH H1.next) e6 v1 p.atoms sA cP cy:=(q3.fR (T:=25) (by decide) (by decide) (by decide) (by decide)).up az e6 bU _ _ _ fo k8 pN.u adS;have auq:∀(i:Nat) (s:Form.eX),p.steps[i]?=some s->r6 (aH ae.next) e6 s (nA i):=fun i s e=>by
  have:=gC i s e;exact⟨(bD.fR (T:=25) (by decide)).up az e6 bU _ _ _ fo k8 pN.u this.cl,(bD.fR (T:=25) (by decide)).up az e6 bU _ _ _ fo k8 pN.u this.fl,(bD.fR (T:=25) (by decide)).up az e6 bU _ _ _ fo k8 pN.u this.i3,(bD.fR (T:=25) (by decide)).up az e6 bU _ _ _ fo k8 pN.u this.hx,(q3.fR (T:=25) (by decide) (by decide) (by decide) (by decide)).up az e6 bU _ _ _ fo k8 pN.u this.eA⟩
 have sx:bB e6 v2 6 (lH nA 0 p.steps):=((bD.fR (T:=25) (by decide)).up az e6 bU _ _ _ fo k8 pN.u n0).ag
 simp only[go_sem,seval,k8,SG adS.ag.ag.cell n0.ag.cell,st2,mr];simp only[<-jD];exact⟨v1,v2,sA,cP,cy,nA,rfl,aup.ts HF,sx,fun i s e=>(auq i s e).Cl (aqf i s e)⟩
end
section
open Form
open cE (b1)
theorem Za{h aa:H}(g:iI h aa)(hk:h.ok):∀{u:fm},oQ h u=true->oQ aa u=true
 |[],_=>rfl
 |(f,o)::u,au=>by
  have eB:(match h.get f with
   |some fZ=>match O.same fZ o with
    |true=>oQ h u
    |false=>false
   |none=>false)=true:=au
  show(match aa.get f with
   |some fZ=>match O.same fZ o with
    |true=>oQ aa u
    |false=>false
   |none=>false)=true
  cases aC:h.get f with
  |none=>rw[aC]at eB;cases eB
  |some fZ=>
   rw[aC]at eB;rw[g.wi hk aC];simp only at eB⊢;split at eB
   ·rename_i aA;exact Za g hk eB
   ·cases eB
theorem pn.aO{h aa:H}{w:V}{cs:List (List b1)}(r: pn h w cs)(k:h.ok)(g:aj h aa): pn aa w cs:=let⟨Y,s,q⟩:=r;⟨Y,s.aO k g,fun i c e=>(q i c e).aO k g⟩
theorem Bf.aO{h aa:H}(s:Bf h)[k:aK h](g:aj h aa):Bf aa:=let⟨md,ty,e⟩:=s;⟨md,ty,g.at e⟩
structure Dh(t:List bb):Prop where
 eT:∀n∈t,(∀b∈n.name,b<256)/\∀v∈n.vars,∀b∈v.1,b<256
structure NQ(p:jh):Prop where
 at':∀t∈p.atoms,Dh t
 hx:∀s∈p.steps,∀x∈s.dC,∀b∈x,b<256
 eA:∀s∈p.steps,∀t∈s.cp,Dh t
theorem Qj{t:List bb}(h:s5 t=true)(ah:Dh t):t.length<1000000/\r4 t/\q0 t:=by
 unfold s5 at h;simp only[dJ,uf,kL,zO]at h;obtain⟨h1,ae⟩:=h;have aq:∀n∈t,n.name.length<=200/\n.kids.length<=12/\(∀v∈n.vars,v.1.length<=200)/\n.vars.length<=8:=fun n aq=>by
  have:=ae n aq;unfold x3 GB xX at this;simp only[dJ,kL,zO]at this;obtain⟨a,b,c,d,e,f,g⟩:=this;exact⟨a,e,fun v ar=>(f v ar).1,g⟩
 refine⟨by omega,fun i n e=>?_,fun n h=>?_⟩
 ·have hm:=c0 e;obtain⟨a,b,c,d⟩:=aq n hm;obtain⟨x,y⟩:=ah.eT n hm;exact⟨⟨by omega,x⟩,fun v ar=>⟨by have:=c v ar;omega,y v ar⟩⟩
 ·obtain⟨a,b,c,d⟩:=aq n h;exact⟨by omega,by omega⟩
theorem aJd{p:jh}(h:GV p=true)(ah:NQ p):FM p/\(∀t∈p.atoms,q0 t)/\∀s∈p.steps,∀t∈s.cp,q0 t:=by
 unfold GV Ei at h;simp only[dJ,kL,zO]at h;obtain⟨⟨h1,ae,az,bo⟩,_⟩:=h;have aA:∀s∈p.steps,nH s/\∀t∈s.cp,q0 t:=fun s aA=>by
  have B:=amt (bo s aA);have Ry:=B.eA;unfold Dg at Ry;simp only[dJ,kL,zO]at Ry;obtain⟨fk,k6⟩:=Ry;have cB:=B.cl;have bU:=B.fl;have bC:=B.i3;have b0:=B.hx;refine⟨⟨by omega,by omega,by omega,by omega,by omega,fun x ab=>⟨by have:=B.Jq x ab;omega,ah.hx s aA x ab⟩,fun t bp=>?_⟩,fun t bp=>(Qj (fk t bp) (ah.eA s aA t bp)).2.2⟩;have:=Qj (fk t bp) (ah.eA s aA t bp);exact⟨this.1,this.2.1⟩
 refine⟨⟨by omega,fun t bp=>?_,by omega,fun s h=>(aA s h).1⟩,fun t bp=>(Qj (az t bp) (ah.at' t bp)).2.2,fun s h=>(aA s h).2⟩;have:=Qj (az t bp) (ah.at' t bp);exact⟨this.1,this.2.1⟩
theorem u4.e4{h:H}{p:jh}{bg aF:V}{Y:Nat->V}{S W:Nat->Nat->V}{D:Nat->j4}(r:u4 h p bg aF Y S W D)(cB:∀t∈p.atoms,q0 t)(bU:∀s∈p.steps,∀t∈s.cp,q0 t):xK h p bg aF Y S W D:=
 ⟨⟨r.at'.ag,fun i t e=>(r.at'.row i t e).aU (cB t (c0 e))⟩,r.st,fun i s e=>⟨(r.row i s e).cl,(r.row i s e).fl,(r.row i s e).i3,(r.row i s e).hx,(r.row i s e).eA.ag,fun j t q=>((r.row i s e).eA.row j t q).aU (bU s (c0 e) t (c0 q))⟩⟩
theorem YQ{n:Nat}:∀(cs out:List (List b1)),(∀c∈out,c.length<=n) ->(∀c∈cs,c.length<=n) ->(∀c∈oX out cs,c.length<=n)/\(oX out cs).length<=out.length+cs.length
 |[],out,h,_=>⟨h,by simp[oX]⟩
 |c::cs,out,h,k=>by
  have d8:∀x∈cs,x.length<=n:=fun x ab=>k x (x9 _ ab);rw[L8];split
  ·have:=YQ cs out h d8;exact⟨this.1,by have:=this.2;simp;omega⟩
  ·have dP:=cE.QU c;have h1:=k c (zP ..);have:=YQ cs (out++[cE.hY c]) (fun x ab=>by
    rcases List.mem_append.1 ab with q|q
    ·exact h x q
    ·simp at q;subst q;omega) d8
   exact⟨this.1,by have:=this.2;simp at this⊢;omega⟩
theorem aEu{p:jh}{m:Int}(ah:∀t∈p.atoms,q0 t):(yk p m).1.length<=1000004/\∀c∈(yk p m).1,c.length<=1000004:=by
 unfold yk;split
 ·exact⟨by simp,by simp⟩
 ·rename_i he;split
  ·exact⟨by simp,by simp⟩
  ·rename_i hm;obtain⟨t,bp⟩:=bI (l:=p.atoms) (i:=m.toNat) (by omega);have C9:=c0 bp;have R:=yg (QV (by simpa using he) t C9);obtain⟨n,aq⟩:=bI (l:=t) (i:=t.length-1) (by have:=R.ne;omega);have w6:i1 t=n.kids:=by unfold i1;rw[aq];rfl
   have hk:=(ah t C9 n (c0 aq)).2;obtain⟨cB,bU⟩:=Zr p m.toNat bp;rw[w6]at cB bU;have:=YQ (n:=1000004) (candidates p m.toNat) [] (by simp) (fun c U=>by have:=bU c U;omega);exact⟨by have:=this.2;simp at this;dsimp only;omega,this.1⟩
end
section
open Form
open cE (b1)
variable {u:fm}{J:Prog}[ak J][uz J][vE J][ET J][Q9 u J]{a:H}
theorem fs(hu:oQ a u=true)[bP:aK a]:aS J a 4 [] (.bool true):=fun h i=>
 ⟨h,(rI.is (LJ (Q9.ZT (u:=u) h (Za i.g bP.ok hu)) ⟨rfl,rfl⟩)).val,.refl i.g.ok⟩
theorem dF[bP:aK a](hu:oQ a u=true)(sy:Bf a)(bT:u6 a){p:Form.jh}{bg aF:V}{Y:Nat->V}{S W:Nat->Nat->V}{D:Nat->j4}(ir:u4 a p bg aF Y S W D)(ah:NQ p)(n:Int):
  aS J a 3 [.agg [bg,aF],.ad n] (.bool true):=by
 refine aS.bE ak.aR rfl fun h ca g=>?_;have uE:=fs (J:=J) hu;have cs:=jY (J:=J) ir;obtain⟨bU,e8⟩:∃b:P,b=h.next:=⟨_,rfl⟩
 obtain⟨H1,cR⟩:∃H:H,H=h.new (.af [bg,aF] 25):=⟨_,rfl⟩;have bW:aK H1:=by rw[cR];exact an
 have aB:aj h H1:=by rw[cR];exact an
 have dx:aj a H1:=g.aG aB;have bj:H1.get bU=some (.af [bg,aF] 25):=by rw[cR,e8];exact ef
 have fZ:=aP bj;simp only[ZS,go_sem,seval];simp only[<-e8];simp only[<-cR];cases aA:GV p with
 |false=>
  rw[aA]at cs;simp only[go_sem,seval,uE.cl,bQ,bj,mr,cs.cl]
 |true=>
 rw[aA]at cs;obtain⟨b,adT,aur⟩:=aJd aA ah;have r:=ir.e4 adT aur;have aus:=qK (J:=J) (a:=a) n;have aut:=w4 (J:=J) (a:=a) n;have aqg:=aag (J:=J) r b;simp only[go_sem,seval,uE.cl,bQ,bj,mr,cs.cl,aus.cl,aut.cl];refine aqg.run fun w ae aY c3 Rz=>?_;obtain⟨Jk,vN,sA,cP,cy,nA,rfl,jH⟩:=Rz;have TS:aj H1 ae:=aj.aG (b:=_) an aY;have ey:aj h ae:=aB.aG TS;have iW:aj a ae:=g.aG ey;have kC:=TS.dW;have cO:=(TS.gt bU).trans bj;have dP:∀x:H,aj a x->aK x->s4 J x:=fun x jK eu s ok=>asP (J:=J) (bT.aO jK) s ok;have auu:=Z6 (J:=J) alO (dP ae iW c3) (sy.aO iW) jH b;have auv:=adB (J:=J) r b;have auw:=aag (J:=J) r b;simp only[go_sem,seval,auu.cl,cO,bQ,mr,auv.cl];refine auw.run fun w az b4 fo Rz=>?_;obtain⟨aOv,A3,RA,Cr,Mp,aMU,rfl,dX⟩:=Rz;have TT:aj ae az:=aj.aG (b:=_) an b4;have l3:aj h az:=ey.aG TT;have pk:aj a az:=g.aG l3;have vC:=TT.dW;have c5:=(TT.gt bU).trans cO;have auy:=atq (J:=J) alO (dP az pk fo) (sy.aO pk) dX b n;have auz:=at7 (J:=J) r b n;simp only[go_sem,seval];refine auy.run fun w bo eE mE rd=>?_;obtain⟨b5,rfl,cY⟩:=rd;have y7:aj h bo:=l3.aG eE;have Ni:aj a bo:=g.aG y7;have Z7:=eE.dW;have fw:=(eE.gt bU).trans c5;simp only[go_sem,seval,fw,mr];refine auz.run fun w cb eg lX rd=>?_;obtain⟨d7,rfl,k7⟩:=rd;have oP:aj h cb:=y7.aG eg;have cY:=cY.aO mE.ok eg;obtain⟨d1,d2⟩:=aEu (p:=p) (m:=n) adT;generalize (yk p n).1=cs at cY k7 d1 d2;obtain⟨EF,s1,Iz⟩:=cY;obtain⟨RA,s2,auA⟩:=k7;have v1:=s1.a2;have v2:=s2.a2;rw[dL,d4]at v1 v2;simp only[go_sem,seval,v1,v2];refine dK cs.length (fun i t=>∃I dM,t=⟨I,[],dM⟩/\aj cb dM/\I.gt 13=d7/\I.gt 85=b5/\I.gt 86=.ad (cs.length:Nat)/\I.gt 87=.ad (i:Nat)) ?_ ?_ (dk _) ⟨_,cb,rfl,an,?_,?_,?_,?_⟩
 ·rintro i t ai ⟨I,dM,rfl,f4,h9,AE,CN,Fj⟩;have ss:=f4.bx;have AN:aj h dM:=oP.aG f4;obtain⟨c,U⟩:=bI ai;have ay:((i:Int)<(cs.length:Int)):=by omega
  have ck:∀Y:Nat->V,i<(cI (dT Y cs.length)).length:=fun Y=>by rw[dL,d4];exact ai
  have fx:=adz (J:=J) (Iz i c U) (auA i c U) (by have:=d2 c (c0 U);omega);rw[ke rfl]at fx;simp only[go_sem,seval,h9,AE,CN,Fj,ay,s1.addr (ck EF),s1.bM (jc (kx EF ai)),s2.addr (ck RA),s2.bM (jc (kx RA ai)),fx.cl,cG (show i<9223372036854775807 by omega)];refine⟨_,_,rfl,an,?_,?_,?_,?_⟩
  all_goals simp only[go_sem,seval,h9,AE,CN]
 ·rintro t ⟨I,dM,rfl,f4,h9,AE,CN,Fj⟩;have ss:=f4.bx;have AN:aj h dM:=oP.aG f4;have ay:¬((cs.length:Int)<(cs.length:Int)):=by omega
  simp only[go_sem,seval,CN,Fj,ay]
 all_goals simp only[go_sem,seval]
end
end Go.ao
