/- A part of the proof that ProofForms holds for every input. -/
import Derived.Test.YtphcmfmpbndkbaaGreatDoorQ17
set_option maxRecDepth 100000
set_option maxHeartbeats 4000000
set_option linter.all false
noncomputable section
namespace Go.ao
section
open Form
variable {J:Prog}[ak J]{a:H}
structure kl(b:Nat)(h:H)(v:V)(t:List bb)(S W:Nat->V):Prop where
 nodes:bD 90 5 b h v (ed S W 0 t)
 hJ:∀i n,t[i]?=some n->bD 3 1 b h (W i) (dH n.kids)
 var:∀i n,t[i]?=some n->bD 232 2 b h (S i) (hi n.vars)
 ap:∀i j g,i<t.length->j<t.length->i≠j->ik (W i) g->¬ik (W j) g
theorem kl.aO{b:Nat}{h aa:H}{v:V}{t:List bb}{S W:Nat->V}(o:kl b h v t S W)[k:aK h](g:aj h aa):kl b aa v t S W:=⟨o.nodes.aO g,fun i n e=>(o.hJ i n e).aO g,fun i n e=>(o.var i n e).aO g,o.ap⟩
theorem kl.mono{b b3:Nat}{h:H}{v:V}{t:List bb}{S W:Nat->V}(o:kl b h v t S W)(ah:b3<=b):kl b3 h v t S W:=⟨o.nodes.mono ah,fun i n e=>(o.hJ i n e).mono ah,fun i n e=>(o.var i n e).mono ah,o.ap⟩
theorem kl.nil(b:Nat)(h:H)(S W:Nat->V):kl b h .al [] S W:=⟨.nil _ _ _ _,fun i n e=>by simp at e,fun i n e=>by simp at e,fun _ _ _ h=>absurd h (nV _)⟩
theorem kl.aU{b:Nat}{h:H}{v:V}{t:List bb}{S W:Nat->V}(o:kl b h v t S W)(ah:∀n∈t,n.vars.length<1000000/\n.kids.length<1000000):fc h v t S W:=
 ⟨o.nodes.ag,o.nodes.cap,fun i n e=>⟨(o.var i n e).ag,(o.var i n e).cap,(o.hJ i n e).ag,(o.hJ i n e).cap,(ah n (c0 e)).1,(ah n (c0 e)).2⟩⟩
theorem kl.fR{b:Nat}{v:V}{t:List bb}{S W:Nat->V}{T:TypeId}(h1:90≠T)(ae:3≠T)(az:232≠T):gH T (fun h=>kl b h v t S W):=by
 refine⟨fun h aa k g o=>o.aO g,fun h aa g xs aZ dead k e u o=>⟨(bD.fR h1).up h aa g xs aZ dead k e u o.nodes,fun i n q=>(bD.fR ae).up h aa g xs aZ dead k e u (o.hJ i n q),fun i n q=>(bD.fR az).up h aa g xs aZ dead k e u (o.var i n q),o.ap⟩⟩
theorem anj(S W:Nat->V)(n:bb):∀(t:List bb) (k:Nat),ed S W k (t++[n])=ed S W k t++[[.ad n.op,.str n.sort,.str n.name,S (k+t.length),W (k+t.length)]]
 |[],k=>rfl
 |m::t,k=>by
  show[V.ad m.op,.str m.sort,.str m.name,S k,W k]::ed S W (k+1) (t++[n])=_;rw[anj S W n t (k+1),show k+1+t.length=k+(m::t).length by simp;omega];rfl
theorem Qi{α:Type}{l:List α}{x y:α}{i:Nat}(h:(l++[x])[i]?=some y):(i<l.length/\l[i]?=some y)\/(i=l.length/\y=x):=by
 rcases Nat.lt_trichotomy i l.length with q|q|q
 ·rw[nP q]at h;exact .inl ⟨q,h⟩
 ·subst q;simp at h;exact .inr ⟨rfl,h.symm⟩
 ·rw[ei (by simp;omega)]at h;cases h
theorem kl.snoc{b:Nat}{h:H}[k:aK h]{v:V}{t:List bb}{S W:Nat->V}(o:kl b h v t S W){n:bb}{s w:V}(dt:bD 3 1 b h w (dH n.kids))(os:bD 232 2 b h s (hi n.vars))(I:∀j g,j<t.length->ik (W j) g->¬ik w g)
  {x:V} (ab:bB h x 5 [[.ad n.op,.str n.sort,.str n.name,s,w]]) (ah:b<=aH h.next) (au:t.length<1000000):
  ∃dg aa,pt h 90 5 88 v x=some (dg,aa)/\kl b aa dg (t++[n]) (upd S t.length s) (upd W t.length w)/\vz b h aa:=by
 obtain⟨dg,aa,e,cu,et,st⟩:=ui (bytes:=88) o.nodes ab ah (by rw[gj];simp;omega) (by rw[gj];simp;omega);refine⟨dg,aa,e,⟨?_,fun i m q=>?_,fun i m q=>?_,fun i j g ai a5 Av bj a8=>?_⟩,et⟩
 ·have bd:ed (upd S t.length s) (upd W t.length w) 0 t=ed S W 0 t:=QI t 0 fun j _ a5=>⟨iN _ _ (by omega),iN _ _ (by omega)⟩;rw[anj,bd,eH,kf,kf];exact cu
 ·rcases Qi q with⟨ai,q⟩|⟨rfl,rfl⟩
  ·rw[iN _ _ (by omega)];exact st _ (bD.fR (by decide)) (o.hJ i m q)
  ·rw[kf];exact st _ (bD.fR (by decide)) dt
 ·rcases Qi q with⟨ai,q⟩|⟨rfl,rfl⟩
  ·rw[iN _ _ (by omega)];exact st _ (bD.fR (by decide)) (o.var i m q)
  ·rw[kf];exact st _ (bD.fR (by decide)) os
 ·simp only[fi,eG,eJ]at ai a5;by_cases aN:i=t.length
  ·subst aN;rw[kf]at bj;rw[iN _ _ (by omega)]at a8;exact I j g (by omega) a8 bj
  ·rw[iN _ _ aN]at bj;by_cases bd:j=t.length
   ·subst bd;rw[kf]at a8;exact I i g (by omega) bj a8
   ·rw[iN _ _ bd]at a8;exact o.ap i j g (by omega) (by omega) Av bj a8
theorem adC(op:Int)(x y:b9)(s w:V)(ty:TypeId)(h:H)(f:P)(v:V)(ar:v.cells=[v]):fz (some (.af [.ad op,.str x,.str y,s,w] ty)) h f 1 0 3 1 v=some (.bk [],h.set f (.af [.ad op,.str x,.str y,v,w] ty)):=zD _ _ _ _ 3 (by simp) v ar
theorem adD(op:Int)(x y:b9)(s w:V)(ty:TypeId)(h:H)(f:P)(v:V)(ar:v.cells=[v]):fz (some (.af [.ad op,.str x,.str y,s,w] ty)) h f 1 0 4 1 v=some (.bk [],h.set f (.af [.ad op,.str x,.str y,s,v] ty)):=zD _ _ _ _ 4 (by simp) v ar
theorem adE(c:List V)(ty:TypeId)(U:c.length=5):ec (some (.af c ty)) true 5 0 0 5=some (.agg c):=by
 rw[um _ _ _ _ _ _ _ (a1 _),td (by omega),iL,kM (by omega)];rfl
theorem adF(x y z s w:V):g6 90 5 1 [.ad 0,.str [],.str [],.al,.al] [(0,5,.agg [x,y,z,s,w])]=some (.af [x,y,z,s,w] 90,fun f=>.ag f 0 0 1 5 (some 1)):=rfl
theorem wI{h:H}{c:List V}{es:Nat}{ty:TypeId}(U:c.length=es)[k:aK h]:bB (h.new (.af c ty)) (.ag h.next 0 0 1 es (some 1)) es [c]:=⟨fun e he=>by simp at he;subst he;exact U,.inr ⟨h.next,0,0,some 1,rfl,_,rm ef (a1 _) (a1 _),by simp,by simp⟩⟩
theorem Hc{ty es bytes:Nat}{h:H}{b:V}{m:List (List V)}[k:aK h](ah:bB h b es m)(hz:m.length<=1099511627776)(j6:m.length*bytes<=1099511627776):∃v aa,pt h ty es bytes .al b=some (v,aa)/\bD ty es (aH h.next) aa v m/\aj h aa:=by
 obtain⟨v,aa,e,o,et⟩:=uh (bytes:=bytes) (bD.nil ty es (aH h.next) h) ah (a1 _) (by simpa using hz) (by simpa using j6);exact⟨v,aa,e,o,et.aO h (a1 _)⟩
theorem bD.Bl{ty es b:Nat}{h:H}{v:V}{l:List (List V)}(o:bD ty es b h v l){g:P}(aC:aH g<b)(x:O):bD ty es b (h.set g x) v l:=o.iA aC x
theorem ay7{v:V}{t:List bb}{S W:Nat->V}[bP:aK a](aU:fc a v t S W)(au:t.length<1000000):cJ J a 442 [v] (fun w h=>∃cP cy,kl (aH a.next) h w t cP cy):=by
 refine cJ.bE ak.aiH rfl fun h ca g=>?_;have c6:=aU.ag.a2;rw[gj]at c6;simp only[aiG,go_sem,seval];refine dK t.length (fun i s=>∃I h1 w cP cy,s=⟨I,[],h1⟩/\aj h h1/\kl (aH h.next) h1 w (t.take i) cP cy/\I.gt 0=v/\I.gt 3=w/\I.gt 4=.ad (i:Nat)) ?_ ?_ (dk _) ⟨_,h,.al,S,W,rfl,an,kl.nil _ _ _ _,?_,?_,?_⟩
 ·rintro i s ai ⟨I,h1,w,cP,cy,rfl,aB,wb,bq,aR,bZ⟩;have bW:=aB.bx;have dx:aj a h1:=g.aG aB;obtain⟨n,aq⟩:=bI ai;have ay:((i:Int)<(t.length:Int)):=by omega
  have bJ:=aU.ag.addr (aU.lt ai);obtain⟨cM,hB⟩:∃b:P,b=h1.next:=⟨_,rfl⟩
  obtain⟨eb,ff⟩:∃H:H,H=h1.new (.af [.ad n.op,.str n.sort,.str n.name,S i,W i] 90):=⟨_,rfl⟩;have c3:aK eb:=by rw[ff];exact an
  have aY:aj h1 eb:=by rw[ff];exact an
  have a8:eb.get cM=some (.af [.ad n.op,.str n.sort,.str n.name,S i,W i] 90):=by rw[ff,hB];exact ef
  have dD:=aP a8;have Cc:eC cM h1:=⟨by rw[hB];exact a1 _⟩;have R:=(aU.aO bP.ok (dx.aG aY)).row i n aq;have hF:=R.hF;have ki:=R.ki;obtain⟨v1,az,bO,iH,b4⟩:=Hc (ty:=232) (bytes:=32) R.vars (by rw[jd];omega) (by rw[jd];omega);have fo:=b4.bx;have oO:aj h1 az:=aY.aG b4;have cc:=(b4.gt cM).trans a8;have gx:=aP cc;obtain⟨e6,jD⟩:∃H:H,H=az.set cM (.af [.ad n.op,.str n.sort,.str n.name,v1,W i] 90):=⟨_,rfl⟩;have mE:aK e6:=by rw[jD];exact an
  have rO:aj h1 e6:=by rw[jD];exact an
  have dc:e6.get cM=some (.af [.ad n.op,.str n.sort,.str n.name,v1,W i] 90):=by rw[jD];exact jt
  have hT:=aP dc;have NK:bD 232 2 (aH eb.next) e6 v1 (hi n.vars):=by rw[jD];exact iH.Bl dD.lt _
  have Cq:=(aU.aO bP.ok (dx.aG rO)).row i n aq;obtain⟨v2,cb,eY,t0,eg⟩:=Hc (ty:=3) (bytes:=8) Cq.kids (by rw[c7];omega) (by rw[c7];omega);have lX:=eg.bx;have v9:aj h1 cb:=rO.aG eg;have dn:=(eg.gt cM).trans dc;have g9:=aP dn;obtain⟨j3,nG⟩:∃H:H,H=cb.set cM (.af [.ad n.op,.str n.sort,.str n.name,v1,v2] 90):=⟨_,rfl⟩;have ss:aK j3:=by rw[nG];exact an
  have t1:aj h1 j3:=by rw[nG];exact an
  have dQ:j3.get cM=some (.af [.ad n.op,.str n.sort,.str n.name,v1,v2] 90):=by rw[nG];exact jt
  have qM:=aP dQ;have CZ:bD 232 2 (aH eb.next) j3 v1 (hi n.vars):=by rw[nG];exact(NK.aO eg).Bl dD.lt _
  have JK:bD 3 1 (aH e6.next) j3 v2 (dH n.kids):=by rw[nG];exact t0.Bl hT.lt _
  have AN:aj h j3:=aB.aG t1;have iO:=aB.g.next
  have at0:=aY.g.next
  have TK:=rO.g.next
  have at1:=t1.g.next
  have kk:(t.take i).length=i:=by rw[el];omega
  have e0:aj j3 (j3.new (.af [.ad n.op,.str n.sort,.str n.name,v1,v2] 90)):=an;obtain⟨w',fU,gL,at8,et⟩:=kl.snoc (wb.aO (t1.aG e0)) ((JK.aO e0).mono (show aH h.next<=aH e6.next by omega)) ((CZ.aO e0).mono (show aH h.next<=aH eb.next by omega)) (fun j bR a5 bj a8=>by
   rw[kk]at a5;obtain⟨m,hm⟩:=bI (l:=t.take i) (i:=j) (by rw[kk];exact a5);have rL:=(wb.hJ j m hm).y6.root bj;have p9:=JK.rt.root a8;omega) (wI (h:=j3) (ty:=90) (es:=5) rfl) (by rw[fF,gu];omega) (by rw[kk];omega)
  rw[kk]at at8;simp only[go_sem,seval,bq,aR,bZ,c6,ay,bJ,aU.ag.bM (aU.at aq),mq];simp only[<-ff];simp only[<-hB];simp only[go_sem,seval,a8,q2,rQ,bO,cc,adC _ _ _ _ _ _ _ _ _ iH.ag.cell];simp only[<-jD];simp only[go_sem,seval,dc,l8,l7,eY,dn,adD _ _ _ _ _ _ _ _ _ t0.ag.cell];simp only[<-nG];simp only[go_sem,seval,dQ,adE,adF,aR,bZ,gL,cG (show i<9223372036854775807 by omega)];refine⟨_,fU,w',upd cP i v1,upd cy i v2,rfl,et.aO h (a1 _),?_,?_,?_,?_⟩
  ·rw[mU,aq];exact at8
  all_goals simp only[go_sem,seval,bq]
 ·rintro s ⟨I,h1,w,cP,cy,rfl,aB,wb,bq,aR,bZ⟩;have bW:=aB.bx;have ay:¬((t.length:Int)<(t.length:Int)):=by omega
  rw[g5]at wb;simp only[go_sem,seval,bq,aR,bZ,c6,ay];exact⟨cP,cy,wb.mono g.g.next⟩
 all_goals simp only[go_sem,seval]
theorem fc.mid{h:H}{v:V}{t:List bb}{S W:Nat->V}(aU:fc h v t S W){F k:Nat}(dw:F<=k)(hk:k<t.length):fc h (DV v F (k+1)) ((t.drop F).take (k+1-F)) (fun i=>S (i+F)) (fun i=>W (i+F)):=by
 refine⟨?_,an2 aU.ag aU.cap (by omega) (by rw[gj];omega),fun i n e=>?_⟩
 ·have:=aU.ag.mid (br:=F) (ai:=k+1) (by omega) (by rw[gj];omega);rw[Yn,YN,eH,<-eH F,Y6 S W _ 0 F]at this;simpa only[eH]using this
 ·have ai:i<k+1-F:=by
   rcases dz i (k+1-F)with q|q
   ·exact q
   ·rw[ei (by rw[el];omega)]at e;cases e
  rw[qp ai,qq]at e;have:=aU.row (F+i) n e;rwa[D3 F i]at this
theorem aGU{ty:TypeId}{b:Nat}{h:H}{v:V}{l:List (List V)}{m:Nat}(o:bD ty 1 b h v l)[k:aK h](hm:m<l.length){x:V}(ab:x.cells.length=1):∃aa g,CK h 1 (uN v 1 m) x=some (.bk [],aa)/\bD ty 1 b aa v (l.set m x.cells)/\ik v g/\b<=aH g/\pw g h aa/\∀R:H->Prop,gH ty R->R h->R aa:=by
 rcases o with⟨rfl,rfl⟩|⟨f,aZ,off,cap,rfl,ah,o⟩
 ·simp at hm
 ·obtain⟨aa,e,cu,u⟩:=Zm o k.ok ab hm;obtain⟨_,xs,dead,h1,_⟩:=o;exact⟨aa,f,e,.inr ⟨f,aZ,off,cap,by rw[vm],ah,cu⟩,⟨_,_,_,_,_,rfl⟩,ah,u,fun R dP r=>dP.up h aa f xs aZ dead k h1 u r⟩
theorem DX{α:Type}{l:List α}{i:Nat}{n:α}(e:l[i]?=some n):i<l.length:=by
 rcases dz i l.length with q|q
 ·exact q
 ·rw[ei q]at e;cases e
theorem ay8{v:V}{t:List bb}{S W:Nat->V}[bP:aK a](aU:fc a v t S W)(au:t.length<1000000){k:Nat}(hk:k<t.length)(ok:∀j,j<=k->pI t j):
  cJ J a 352 [v,.ad (k:Nat)] (fun w h=>∃cP cy,kl (aH a.next) h w (lM t k) cP cy):=by
 refine cJ.bE ak.aib rfl fun h ca g=>?_;have kT:=adw (J:=J) (a:=a) aU au;have Cu:=En t k;have b5:b8 .i64 ((k:Int)+1)=((k+1:Nat):Int):=cG (by omega)
 simp only[aia,go_sem,seval];refine kT.run fun wf H1 v3 ac2 hp=>?_;obtain⟨vF,HV,Cm⟩:=hp;have Kw:aj a H1:=g.aG v3;obtain⟨F,dw⟩:=bI (l:=dN t []) (i:=k) (by omega);have ap6:lN t k=F:=by unfold lN;rw[dw];rfl
 rw[G9];rw[ap6]at Cu⊢;have bJ:=vF.addr (i:=k) (by rw[dy];omega);have cY:=vF.bM (jr (k:=.i64) dw);have yC:=aU.ag.alQ aU.cap (br:=F) (ai:=k+1) (by omega) (by rw[gj];omega);have uu:=(aU.aO bP.ok Kw).mid Cu hk;have rZ:∀(i:Nat) (n:bb),((t.drop F).take (k+1-F))[i]?=some n->n.kids.length<1000000/\∀x∈n.kids,(0:Int)<=x/\x<1000000:=fun i n e=>by
  refine⟨(uu.row i n e).ki,?_⟩;have ai:=DX e;rw[el]at ai;rw[qp (by omega),qq]at e;intro x ab;have:=(ok (F+i) (by omega)).hJ e x ab;omega
 have AQ:((t.drop F).take (k+1-F)).length<1000000:=by rw[el,jG];omega
 generalize (t.drop F).take (k+1-F)=T at uu rZ AQ;have fx:=ay7 (J:=J) uu AQ;simp only[go_sem,seval,bJ,cY,b5,yC];refine fx.run fun w ae aY c3 dX=>?_;obtain⟨cP,cy,dD⟩:=dX;have ey:aj h ae:=v3.aG aY;have ah:aH h.next<=aH H1.next:=v3.g.next
 have uU:aH a.next<=aH H1.next:=Kw.g.next
 have Im:∀i,(cy i).cells=[cy i]\/T.length<=i:=fun i=>by
  rcases dz i T.length with q|q
  ·obtain⟨n,aq⟩:=bI q;exact .inl (dD.hJ i n aq).ag.cell
  ·exact .inr q
 simp only[go_sem,seval];refine dK T.length (fun i s=>∃I az,s=⟨I,[],az⟩/\aj h az/\bD 90 5 (aH H1.next) az w (ed cP cy 0 T)/\
  (∀j n,T[j]?=some n->bD 3 1 (aH H1.next) az (cy j) (dH (if j<i then n.kids.map (fun x=>x-(F:Int))else n.kids)))/\(∀j n,T[j]?=some n->bD 232 2 (aH H1.next) az (cP j) (hi n.vars))/\
  I.gt 5=.ad (F:Nat)/\I.gt 6=w/\I.gt 7=.ad (i:Nat)) ?_ ?_ (dk _) ⟨_,ae,rfl,ey,dD.nodes,fun j n e=>by rw[bf (nV _)];exact dD.hJ j n e,fun j n e=>dD.var j n e,?_,?_,?_⟩
 ·rintro i s ai ⟨I,az,rfl,b4,Fp,j0,sz,bu,cj,cH⟩;have fo:=b4.bx;obtain⟨n,aq⟩:=bI ai;have c6:=Fp.ag.a2;rw[gj]at c6;have ay:((i:Int)<(T.length:Int)):=by omega
  obtain⟨tB,Ti⟩:=rZ i n aq;simp only[go_sem,seval,bu,cj,cH,c6,ay];refine dK n.kids.length (fun m s=>∃I bo,s=⟨I,[],bo⟩/\aj h bo/\bD 90 5 (aH H1.next) bo w (ed cP cy 0 T)/\
   (∀j n,j≠i->T[j]?=some n->bD 3 1 (aH H1.next) bo (cy j) (dH (if j<i then n.kids.map (fun x=>x-(F:Int))else n.kids)))/\bD 3 1 (aH H1.next) bo (cy i) (dH ((n.kids.take m).map (fun x=>x-(F:Int))++n.kids.drop m))/\(∀j n,T[j]?=some n->bD 232 2 (aH H1.next) bo (cP j) (hi n.vars))/\
   I.gt 5=.ad (F:Nat)/\I.gt 6=w/\I.gt 7=.ad (i:Nat)/\I.gt 8=.ad (m:Nat)) ?_ ?_ (dk _) ⟨_,az,rfl,b4,Fp,fun j n _ e=>j0 j n e,by have EP:=j0 i n aq;rw[bf (nW i)]at EP;simpa using EP,sz,?_,?_,?_,?_⟩
  ·rintro m s hm ⟨I,bo,rfl,eE,zf,C7,rP,C8,bu,cj,cH,cQ⟩;have mE:=eE.bx;obtain⟨x,ab⟩:=bI hm;obtain⟨jl,rF⟩:=Ti x (c0 ab);have DL:((m:Int)<(n.kids.length:Int)):=by omega
   have hlen:((n.kids.take m).map (fun x=>x-(F:Int))++n.kids.drop m).length=n.kids.length:=by simp;omega
   have dU:((n.kids.take m).map (fun x=>x-(F:Int))++n.kids.drop m)[m]?=some x:=by
    rw[en ab];exact PU (by simp;omega)
   have ko:m<(dH ((n.kids.take m).map (fun x=>x-(F:Int))++n.kids.drop m)).length:=by rw[c7,hlen];exact hm
   have uA:b8 .i64 (x-(F:Int))=x-(F:Int):=gz (by omega) (by omega);have Io:i<(ed cP cy 0 T).length:=by rw[gj];exact ai
   have JL:=GS cP cy 0 T i n aq;rw[eH]at JL;have ad:=rP.ag.a2;rw[c7,hlen]at ad;obtain⟨cb,kB,Tj,g9,aI,Tk,mV,ts⟩:=aGU rP ko (x:=.ad (x-(F:Int))) rfl;have eg:aj h cb:=eE.upto mV (by omega);simp only[go_sem,seval,bu,cj,cH,cQ,zf.ag.addr Io,zf.ag.er Io,zf.ag.hn JL,ad,DL,rP.ag.addr ko,rP.ag.bM (gn dU),uA,Tj,cG (show m<9223372036854775807 by omega)];refine⟨_,cb,rfl,eg,ts _ (bD.fR (by decide)) zf,fun j gN a5 e=>?_,?_,fun j gN e=>ts _ (bD.fR (by decide)) (C8 j gN e),by simp only[go_sem,seval,bu],by simp only[go_sem,seval,cj],by simp only[go_sem,seval,cH],by simp only[go_sem,seval]⟩
   ·exact(C7 j gN a5 e).upto mV (dD.ap i j kB ai (DX e) (fun e=>a5 e.symm) aI)
   ·have g9:bD 3 1 (aH H1.next) cb (cy i) ((dH ((n.kids.take m).map (fun x=>x-(F:Int))++n.kids.drop m)).set m [.ad (x-(F:Int))]):=g9
    rw[ana,en ab]at g9;have e:((n.kids.take m).map (fun x=>x-(F:Int))++x::n.kids.drop (m+1)).set m (x-(F:Int))=(n.kids.take (m+1)).map (fun x=>x-(F:Int))++n.kids.drop (m+1):=by
     rw[Lu (by simp;omega),mU,ab];simp
    rwa[e]at g9
  ·rintro s ⟨I,bo,rfl,eE,zf,C7,rP,C8,bu,cj,cH,cQ⟩;have mE:=eE.bx;have DL:¬((n.kids.length:Int)<(n.kids.length:Int)):=by omega
   rw[g5,fp,qy]at rP;have Io:i<(ed cP cy 0 T).length:=by rw[gj];exact ai
   have JL:=GS cP cy 0 T i n aq;rw[eH]at JL;have ad:=rP.ag.a2;rw[c7,eQ]at ad;simp only[go_sem,seval,bu,cj,cH,cQ,zf.ag.addr Io,zf.ag.er Io,zf.ag.hn JL,ad,DL,cG (show i<9223372036854775807 by omega)];refine⟨_,bo,rfl,eE,zf,fun j gN e=>?_,C8,by simp only[go_sem,seval,bu],by simp only[go_sem,seval,cj],by simp only[go_sem,seval]⟩;by_cases a5:j=i
   ·subst a5;rw[aq]at e;cases e;rw[bl (Nat.lt_succ_self _)];exact rP
   ·have:=C7 j gN a5 e;by_cases ib:j<i
    ·rw[bl ib]at this;rw[bl (by omega)];exact this
    ·rw[bf ib]at this;rw[bf (by omega)];exact this
  all_goals simp only[go_sem,seval,bu,cj,cH]
 ·rintro s ⟨I,az,rfl,b4,Fp,j0,sz,bu,cj,cH⟩;have fo:=b4.bx;have c6:=Fp.ag.a2;rw[gj]at c6;have ay:¬((T.length:Int)<(T.length:Int)):=by omega
  simp only[go_sem,seval,cj,cH,c6,ay];have back:∀(j:Nat) (n:bb),(T.map (Bg F))[j]?=some n->∃gN,T[j]?=some gN/\n=Bg F gN:=fun j n e=>by
   rw[ij]at e;cases yD:T[j]? with
   |none=>rw[yD]at e;cases e
   |some gN=>rw[yD]at e;cases e;exact⟨gN,rfl,rfl⟩
  refine⟨cP,cy,by rw[YO cP cy (Bg F) (fun n=>⟨rfl,rfl,rfl⟩)];exact Fp.mono uU,fun j n e=>?_,fun j n e=>?_,fun i j bR ai a5=>dD.ap i j bR (by simpa using ai) (by simpa using a5)⟩
  ·obtain⟨gN,cD,rfl⟩:=back j n e;have:=j0 j gN cD;rw[bl (DX cD)]at this;exact this.mono uU
  ·obtain⟨gN,cD,rfl⟩:=back j n e;exact(sz j gN cD).mono uU
 all_goals simp only[go_sem,seval]
theorem adG(y:V)(ax:y.cells=[y]):g6 52 1 1 [.al] [(0,1,y)]=some (.af [y] 52,fun f=>.ag f 0 0 1 1 (some 1)):=by simp only[g6,oU,ax];rfl
theorem Ly(Y:Nat->V)(i:Nat)(y:V):cI (dT Y i)++[[y]]=cI (dT (upd Y i y) (i+1)):=by
 unfold dT;rw[Ha,wW];have:(List.range i).map (upd Y i y)=(List.range i).map Y:=By fun j a5=>iN _ _ (by have:=List.mem_range.1 a5;omega);rw[this];simp[cI,kf]
theorem ay9{v:V}{t:List bb}{S W:Nat->V}[bP:aK a](aU:fc a v t S W)(au:t.length<1000000)(bp:hQ t=0):
  cJ J a 246 [v] (fun w h=>∃Y cP cy,sO h (ku t) w Y cP cy):=by
 refine cJ.bE ak.ahh rfl fun h ca g=>?_;have r:=yg bp;obtain⟨n,aq⟩:=bI (l:=t) (i:=t.length-1) (by have:=r.ne;omega);have e:i1 t=n.kids:=by unfold i1;rw[aq];rfl
 have cl:=JI (J:=J) aU au aq;have R:=aU.row (t.length-1) n aq;have c6:=R.kids.a2;rw[c7]at c6;have ki:=R.ki;have rZ:=(r.ok (t.length-1)).hJ aq;have Tl:=aU.b;simp only[ahg,go_sem,seval];refine dK n.kids.length (fun i s=>∃I h1 w Y cP cy,s=⟨I,[],h1⟩/\aj h h1/\bD 52 1 (aH h.next) h1 w (cI (dT Y i))/\(∀j k,j<i->n.kids[j]?=some k->kl (aH a.next) h1 (Y j) (lM t k.toNat) (cP j) (cy j))/\I.gt 0=v/\I.gt 3=w/\I.gt 4=.ad (i:Nat)) ?_ ?_ (dk _) ⟨_,h,.al,fun _=>.fO,fun _=>S,fun _=>W,rfl,an,.nil _ _ _ _,fun _ _ h=>absurd h (nV _),?_,?_,?_⟩
 ·rintro i s ai ⟨I,h1,w,Y,cP,cy,rfl,aB,dt,jX,bq,aR,bZ⟩;have bW:=aB.bx;have dx:aj a h1:=g.aG aB;obtain⟨k,hk⟩:=bI ai;obtain⟨fa,atd⟩:=rZ k (c0 hk);obtain⟨m,rfl⟩:∃m:Nat,k=m:=⟨k.toNat,by omega⟩;have ay:((i:Int)<(n.kids.length:Int)):=by omega
  have ck:i<(dH n.kids).length:=by rw[c7];exact ai
  have iD:=ay8 (J:=J) aU au (k:=m) (by omega) (fun j _=>r.ok j);simp only[go_sem,seval,bq,aR,bZ,cl.cl,eW,c6,ay,R.kids.addr ck,R.kids.bM (gn hk)];refine iD.run fun y ae aY c3 dX=>?_;obtain⟨Cr,Mp,dD⟩:=dX;have eL:=dD.nodes.ag.cell;have jK:aj h1 ae:=aj.aG (b:=_) an aY;have ey:aj h ae:=aB.aG jK;have e0:aj ae (ae.new (.af [y] 52)):=an;obtain⟨eU,az,bO,iH,et,st⟩:=ui (bytes:=24) (dt.aO (jK.aG e0)) (wI (h:=ae) (c:=[y]) (es:=1) (ty:=52) rfl) (by have:=ey.g.next;rw[fF,gu];omega) (by simp only[dL,d4,eG,eJ];omega) (by simp only[dL,d4,eG,eJ];omega);simp only[go_sem,seval,aR,bZ,adG y eL,bO,cG (show i<9223372036854775807 by omega)];refine⟨_,az,eU,upd Y i y,fun j=>if j=i then Cr else cP j,fun j=>if j=i then Mp else cy j,rfl,et.aO h (a1 _),?_,?_,?_,?_,?_⟩
  ·rw[<-Ly];exact iH
  ·intro j k a5 lE;have T:=fun(v:V) (t:List bb) (S W:Nat->V)=>kl.fR (b:=aH a.next) (v:=v) (t:=t) (S:=S) (W:=W) (T:=52) (by decide) (by decide) (by decide);by_cases ib:j=i
   ·subst ib;rw[hk]at lE;cases lE;rw[kf];dsimp only;rw[bl rfl,bl rfl];exact st _ (T _ _ _ _) (dD.aO e0)
   ·rw[iN _ _ ib];dsimp only;rw[bf ib,bf ib];exact st _ (T _ _ _ _) ((jX j k (by omega) lE).aO (jK.aG e0))
  all_goals simp only[go_sem,seval,bq]
 ·rintro s ⟨I,h1,w,Y,cP,cy,rfl,aB,dt,jX,bq,aR,bZ⟩;have bW:=aB.bx;have dx:aj a h1:=g.aG aB;have ay:¬((n.kids.length:Int)<(n.kids.length:Int)):=by omega
  simp only[go_sem,seval,bq,aR,bZ,cl.cl,eW,c6,ay];have jK:aj h1 (cg cl h1 dx):=an;refine⟨Y,cP,cy,?_,fun i u hu=>?_⟩
  ·rw[ku,eQ,e];exact dt.ag.aO bW.ok jK
  ·rw[ku,e,ij]at hu;cases aM:n.kids[i]? with
   |none=>rw[aM]at hu;cases hu
   |some k=>
    rw[aM]at hu;cases hu;exact((jX i k (DX aM) aM).aO jK).aU (Tl.sub _)
 all_goals simp only[go_sem,seval]
section
variable [bP:aK a]{x y:bb}{s w gk w' v u:V}{i:Nat}{aJ:H}[ca:aK aJ][eZ:aj a aJ]{fr f0:P}{I:Fr}{k:c4}
theorem aBD(rx:qY a x s w)(ek:qY a y gk w')(au:x.kids.length=y.kids.length)(eI:aJ.get fr=some (.af [.ad x.op,.str x.sort,.str x.name,s,w] 90))(gl:aJ.get f0=some (.af [.ad y.op,.str y.sort,.str y.name,gk,w'] 90))
  (bq:I.gt 0=v) (f1:I.gt 1=u) (bu:I.gt 5=.ad (i:Nat)) (cj:I.gt 6=.ptr fr 0 0 5) (cH:I.gt 7=.ptr f0 0 0 5) (cQ:I.gt 8=.ad 0)
  (eu:∀aQ,x.kids=y.kids->aQ.gt 0=v->aQ.gt 1=u->aQ.gt 5=.ad (i:Nat) ->aQ.gt 6=.ptr fr 0 0 5->aQ.gt 7=.ptr f0 0 0 5->k.run J (.exit 2 ⟨aQ,[],aJ⟩))
  (ht:∀aQ,¬x.kids=y.kids->aQ.gt 4=.bool false->k.run J (.ret ⟨aQ,[],aJ⟩)):dA J alE ⟨I,[],aJ⟩ k:=by
 have qM:=aP eI;have z6:=aP gl;have n4:=rx.kids.a2;rw[c7]at n4;have ap7:=rx.ki;unfold alE;refine dK x.kids.length (fun m t=>∃I,t=⟨I,[],aJ⟩/\x.kids.take m=y.kids.take m/\I.gt 0=v/\I.gt 1=u/\I.gt 5=.ad (i:Nat)/\I.gt 6=.ptr fr 0 0 5/\I.gt 7=.ptr f0 0 0 5/\I.gt 8=.ad (m:Nat)) ?_ ?_ (dk _) ⟨I,rfl,rfl,bq,f1,bu,cj,cH,cQ⟩
 ·rintro m t hm ⟨I,rfl,e,bq,f1,bu,cj,cH,cQ⟩;obtain⟨p,bh⟩:=bI hm;obtain⟨q,aM⟩:=bI (l:=y.kids) (i:=m) (by omega);have ay:((m:Int)<(x.kids.length:Int)):=by omega
  have bJ:=rx.kids.addr (i:=m) (by rw[c7];omega);have g8:=ek.kids.addr (i:=m) (by rw[c7];omega);by_cases A1: p=q
  ·simp only[go_sem,seval,cj,cH,cQ,eI,gl,l8,l7,n4,ay,bJ,g8,rx.kids.bM (gn bh),ek.kids.bM (gn aM),A1,cG (show m<9223372036854775807 by omega)];refine⟨_,rfl,by rw[mU,mU,bh,aM,e,A1],?_,?_,?_,?_,?_,?_⟩
   all_goals simp only[go_sem,seval,bq,f1,bu,cj,cH]
  ·have bV:¬x.kids=y.kids:=fun z=>by rw[z,aM]at bh;cases bh;exact A1 rfl
   simp only[go_sem,seval,cj,cH,cQ,eI,gl,l8,l7,n4,ay,bJ,g8,rx.kids.bM (gn bh),ek.kids.bM (gn aM),A1];exact ht _ bV (by simp only[go_sem,seval])
 ·rintro t ⟨I,rfl,e,bq,f1,bu,cj,cH,cQ⟩;have ay:¬((x.kids.length:Int)<(x.kids.length:Int)):=by omega
  rw[g5,au,g5]at e;simp only[go_sem,seval,cj,cQ,eI,l8,l7,n4,ay];refine eu _ e ?_ ?_ ?_ ?_ ?_
  all_goals simp only[go_sem,seval,bq,f1,bu,cj,cH]
theorem aBE(rx:qY a x s w)(ek:qY a y gk w')(au:x.vars.length=y.vars.length)(eI:aJ.get fr=some (.af [.ad x.op,.str x.sort,.str x.name,s,w] 90))(gl:aJ.get f0=some (.af [.ad y.op,.str y.sort,.str y.name,gk,w'] 90))
  (bq:I.gt 0=v) (f1:I.gt 1=u) (bu:I.gt 5=.ad (i:Nat)) (cj:I.gt 6=.ptr fr 0 0 5) (cH:I.gt 7=.ptr f0 0 0 5) (dm:I.gt 9=.ad 0)
  (eu:∀aQ,x.vars=y.vars->aQ.gt 0=v->aQ.gt 1=u->aQ.gt 5=.ad (i:Nat) ->k.run J (.exit 4 ⟨aQ,[],aJ⟩))
  (ht:∀aQ,¬x.vars=y.vars->aQ.gt 4=.bool false->k.run J (.ret ⟨aQ,[],aJ⟩)):dA J alD ⟨I,[],aJ⟩ k:=by
 have qM:=aP eI;have z6:=aP gl;have n4:=rx.vars.a2;rw[jd]at n4;have ap7:=rx.hF;unfold alD;refine dK x.vars.length (fun m t=>∃I,t=⟨I,[],aJ⟩/\x.vars.take m=y.vars.take m/\I.gt 0=v/\I.gt 1=u/\I.gt 5=.ad (i:Nat)/\I.gt 6=.ptr fr 0 0 5/\I.gt 7=.ptr f0 0 0 5/\I.gt 9=.ad (m:Nat)) ?_ ?_ (dk _) ⟨I,rfl,rfl,bq,f1,bu,cj,cH,dm⟩
 ·rintro m t hm ⟨I,rfl,e,bq,f1,bu,cj,cH,dm⟩;obtain⟨p,bh⟩:=bI hm;obtain⟨q,aM⟩:=bI (l:=y.vars) (i:=m) (by omega);have ay:((m:Int)<(x.vars.length:Int)):=by omega
  have bJ:=rx.vars.addr (i:=m) (by rw[jd];omega);have g8:=ek.vars.addr (i:=m) (by rw[jd];omega);by_cases A1: p=q
  ·subst A1;simp only[go_sem,seval,cj,cH,dm,eI,gl,q2,rQ,n4,ay,bJ,g8,rx.vars.bM (nX bh),ek.vars.bM (nX aM),PV,cG (show m<9223372036854775807 by omega)];refine⟨_,rfl,by rw[mU,mU,bh,aM,e],?_,?_,?_,?_,?_,?_⟩
   all_goals simp only[go_sem,seval,bq,f1,bu,cj,cH]
  ·have bV:¬x.vars=y.vars:=fun z=>by rw[z,aM]at bh;cases bh;exact A1 rfl
   simp only[go_sem,seval,cj,cH,dm,eI,gl,q2,rQ,n4,ay,bJ,g8,rx.vars.bM (nX bh),ek.vars.bM (nX aM),PV,A1];exact ht _ bV (by simp only[go_sem,seval])
 ·rintro t ⟨I,rfl,e,bq,f1,bu,cj,cH,dm⟩;have ay:¬((x.vars.length:Int)<(x.vars.length:Int)):=by omega
  rw[g5,au,g5]at e;simp only[go_sem,seval,cj,dm,eI,q2,rQ,n4,ay];refine eu _ e ?_ ?_ ?_
  all_goals simp only[go_sem,seval,bq,f1,bu]
end
theorem aJa{x y:bb}(h:x.op≠y.op\/x.sort≠y.sort\/x.name≠y.name\/x.kids≠y.kids\/x.vars≠y.vars):zJ x y=false:=by
 unfold zJ;rcases h with h|h|h|h|h<;>simp[h]
theorem aza[bP:aK a]{v u:V}{t r:List bb}{S W cP cy:Nat->V}(fk:fc a v t S W)(k6:fc a u r cP cy)(au:t.length<1000000000):aS J a 353 [v,u] (.bool (lR t r)):=by
 refine aS.bE ak.awd rfl fun h ca g=>?_;have v1:=fk.ag.a2;have v2:=k6.ag.a2;rw[gj]at v1 v2;have vU:((t.length:Int)=(r.length:Int))↔t.length=r.length:=by omega
 obtain⟨E,bX⟩:∃E:Bool,E=lR t r:=⟨_,rfl⟩;rw[<-bX];by_cases hlen:¬t.length=r.length
 ·have bV:lR t r=false:=by
   cases aM:lR t r with
   |false=>rfl
   |true=>exact absurd (Y5 aM) hlen
  rw[bV]at bX;subst bX;simp only[Ki,go_sem,seval,v1,v2,vU,hlen]
 rw[G8]at hlen;simp only[Ki,go_sem,seval,v1,v2,vU,hlen];refine dK t.length (fun i s=>∃I h1,s=⟨I,[],h1⟩/\aj h h1/\lR t r=lR (t.drop i) (r.drop i)/\I.gt 0=v/\I.gt 1=u/\I.gt 5=.ad (i:Nat)) ?_ ?_ (dk _) ⟨_,h,rfl,an,rfl,?_,?_,?_⟩
 ·rintro i s ai ⟨I,h1,rfl,aB,e,bq,f1,bu⟩;have bW:=aB.bx;have dx:aj a h1:=g.aG aB;obtain⟨x,ab⟩:=bI ai;obtain⟨y,ax⟩:=bI (l:=r) (i:=i) (by omega);have ay:((i:Int)<(r.length:Int)):=by omega
  have bJ:=fk.ag.addr (fk.lt ai);have g8:=k6.ag.addr (k6.lt (show i<r.length by omega));have rx:=fk.row i x ab;have ek:=k6.row i y ax;have s1:=fK rx.vars;have s2:=fK rx.kids;have n0:=fK ek.vars;have sx:=fK ek.kids;obtain⟨fr,p8⟩:∃b:P,b=h1.next:=⟨_,rfl⟩
  obtain⟨f0,xE⟩:∃b:P,b=(h1.new (.af [.ad 0,.str [],.str [],.al,.al] 90)).next:=⟨_,rfl⟩
  obtain⟨eb,ff⟩:∃H:H,H=(((h1.new (.af [.ad 0,.str [],.str [],.al,.al] 90)).new (.af [.ad 0,.str [],.str [],.al,.al] 90)).set h1.next (.af [.ad x.op,.str x.sort,.str x.name,S i,W i] 90)).set (h1.new (.af [.ad 0,.str [],.str [],.al,.al] 90)).next (.af [.ad y.op,.str y.sort,.str y.name,cP i,cy i] 90):=⟨_,rfl⟩
  have c3:aK eb:=by rw[ff];exact an
  have aY:aj h1 eb:=by rw[ff];exact an
  have iW:aj a eb:=dx.aG aY;have ey:aj h eb:=aB.aG aY;have dQ:eb.get fr=some (.af [.ad x.op,.str x.sort,.str x.name,S i,W i] 90):=by rw[ff,p8];simp only[go_sem,seval]
  have fH:eb.get f0=some (.af [.ad y.op,.str y.sort,.str y.name,cP i,cy i] 90):=by rw[ff,xE];simp only[go_sem,seval]
  have qM:=aP dQ;have z6:=aP fH;have NL:=rx.kids.a2;have NM:=ek.kids.a2;have TL:=rx.vars.a2;have TM:=ek.vars.a2;rw[c7]at NL NM;rw[jd]at TL TM;have Df:((x.kids.length:Int)=(y.kids.length:Int))↔x.kids.length=y.kids.length:=by omega
  have sL:((x.vars.length:Int)=(y.vars.length:Int))↔x.vars.length=y.vars.length:=by omega
  rw[en ab,en ax]at e;have e:lR t r=(zJ x y&&lR (t.drop (i+1)) (r.drop (i+1))):=e;have aE:x.op≠y.op\/x.sort≠y.sort\/x.name≠y.name\/x.kids≠y.kids\/x.vars≠y.vars->E=false:=fun z=>by rw[bX,e,aJa z,mg]
  simp only[go_sem,seval,bq,f1,bu,v1,hlen,ay,bJ,g8,fk.ag.bM (fk.at ab),k6.ag.bM (k6.at ax),mq,s1,s2,n0,sx];simp only[<-ff];simp only[<-p8,<-xE];by_cases c1:x.op=y.op
  ·by_cases c2:x.sort=y.sort
   ·by_cases dF:x.name=y.name
    ·by_cases fs:x.kids.length=y.kids.length
     ·by_cases jY:x.vars.length=y.vars.length
      ·simp only[go_sem,seval,dQ,fH,g2,sR,qf,q2,l8,g1,sQ,qe,rQ,l7,NL,NM,TL,TM,Df,sL,c1,c2,dF,fs,jY];refine aBD (a:=a) (v:=v) (u:=u) (i:=i) rx ek fs (fr:=fr) (f0:=f0) dQ fH (by simp only[go_sem,seval,bq]) (by simp only[go_sem,seval,f1]) (by simp only[go_sem,seval,bu]) (by simp only[go_sem,seval]) (by simp only[go_sem,seval]) (by simp only[go_sem,seval]) (fun aQ w6 bq f1 bu cj cH=>?_) (fun aQ w6 bZ=>?_)
       ·simp only[go_sem,seval];refine aBE (a:=a) (v:=v) (u:=u) (i:=i) rx ek jY (fr:=fr) (f0:=f0) dQ fH (by simp only[go_sem,seval,bq]) (by simp only[go_sem,seval,f1]) (by simp only[go_sem,seval,bu]) (by simp only[go_sem,seval,cj]) (by simp only[go_sem,seval,cH]) (by simp only[go_sem,seval]) (fun aQ a7 bq f1 bu=>?_) (fun aQ a7 bZ=>?_)
        ·simp only[go_sem,seval,bu,cG (show i<9223372036854775807 by omega)];refine⟨_,_,rfl,ey,?_,?_,?_,?_⟩
         ·rw[e];unfold zJ;simp only[c1,c2,dF,w6,a7,hX,nT,ju]
         all_goals simp only[go_sem,seval,bq,f1]
        ·have:=aE (.inr (.inr (.inr (.inr a7))));subst this;simp only[go_sem,seval,bZ]
       ·have:=aE (.inr (.inr (.inr (.inl w6))));subst this;simp only[go_sem,seval,bZ]
      ·have:=aE (.inr (.inr (.inr (.inr (fun z=>jY (by rw[z]))))));subst this;simp only[go_sem,seval,dQ,fH,g2,sR,qf,q2,l8,g1,sQ,qe,rQ,l7,NL,NM,TL,TM,Df,sL,c1,c2,dF,fs,jY]
     ·have:=aE (.inr (.inr (.inr (.inl (fun z=>fs (by rw[z]))))));subst this;simp only[go_sem,seval,dQ,fH,g2,sR,qf,l8,g1,sQ,qe,l7,NL,NM,Df,c1,c2,dF,fs]
    ·have:=aE (.inr (.inr (.inl dF)));subst this;simp only[go_sem,seval,dQ,fH,g2,sR,qf,g1,sQ,qe,c1,c2,dF]
   ·have:=aE (.inr (.inl c2));subst this;simp only[go_sem,seval,dQ,fH,g2,sR,g1,sQ,c1,c2]
  ·have:=aE (.inl c1);subst this;simp only[go_sem,seval,dQ,fH,g2,g1,c1]
 ·rintro s ⟨I,h1,rfl,aB,e,bq,f1,bu⟩;have bW:=aB.bx;have ay:¬((r.length:Int)<(r.length:Int)):=by omega
  rw[fp,hlen,fp]at e;rw[e]at bX;have bX:E=true:=bX;subst bX;simp only[go_sem,seval,bq,bu,v1,hlen,ay]
 all_goals simp only[go_sem,seval]
end
section
open Form
open cE (lt ix b1)
variable {J:Prog}[ak J]{a:H}
theorem azb{bg aF w:V}{l:List (List bb)}{u:List bb}{Y:Nat->V}{S W:Nat->Nat->V}{cP cy:Nat->V}[bP:aK a](r:sO a l bg Y S W)(xc:fc a w u cP cy)(au:l.length<1000000)(oN:∀t∈l,t.length<1000000):aS J a 247 [.agg [bg,aF],w] (.ad (mc l u 0)):=by
 refine aS.bE ak.ahj rfl fun h ca g=>?_;obtain⟨bU,e8⟩:∃b:P,b=h.next:=⟨_,rfl⟩
 obtain⟨H1,cR⟩:∃H:H,H=h.new (.af [bg,aF] 25):=⟨_,rfl⟩;have bW:aK H1:=by rw[cR];exact an
 have aB:aj h H1:=by rw[cR];exact an
 have bj:H1.get bU=some (.af [bg,aF] 25):=by rw[cR,e8];exact ef
 have fZ:=aP bj;have c6:=r.ag.a2;rw[dL,d4]at c6;obtain⟨E,bX⟩:∃E:Int,E=mc l u 0:=⟨_,rfl⟩;rw[<-bX];simp only[ahi,go_sem,seval];simp only[<-e8];simp only[<-cR];refine dK l.length (fun i t=>∃I ae,t=⟨I,[],ae⟩/\aj H1 ae/\mc l u 0=mc (l.drop i) u i/\I.gt 1=w/\I.gt 2=.ptr bU 0 0 2/\I.gt 5=.ad (i:Nat)) ?_ ?_ (dk _) ⟨_,H1,rfl,an,rfl,?_,?_,?_⟩
 ·rintro i t ai ⟨I,ae,rfl,aY,e,f1,cq,bu⟩;have c3:=aY.bx;have ey:aj h ae:=aB.aG aY;have iW:aj a ae:=g.aG ey;have kC:=aY.dW;have cO:=(aY.gt bU).trans bj;obtain⟨x,ab⟩:=bI ai;have ay:((i:Int)<(l.length:Int)):=by omega
  have ck:i<(cI (dT Y l.length)).length:=by rw[dL,d4];exact ai
  have bJ:=r.ag.addr ck;have ld:=jc (kx Y ai);have cs:=aza (J:=J) (r.row i x ab) xc (by have:=oN x (c0 ab);omega);rw[en ab]at e;have e:mc l u 0=if lR x u=true then(i:Int)else mc (l.drop (i+1)) u (i+1):=e;cases aA:lR x u with
  |true=>
   rw[aA]at cs;rw[bl aA]at e;rw[e]at bX;subst bX;simp only[go_sem,seval,f1,cq,bu,cO,l9,ma,c6,ay,bJ,r.ag.bM ld,cs.cl]
  |false=>
   rw[aA]at cs;rw[bf (by rw[aA];decide)]at e;simp only[go_sem,seval,f1,cq,bu,cO,l9,ma,c6,ay,bJ,r.ag.bM ld,cs.cl,cG (show i<9223372036854775807 by omega)];refine⟨_,_,rfl,an,e,?_,?_,?_⟩
   all_goals simp only[go_sem,seval,f1,cq]
 ·rintro t ⟨I,ae,rfl,aY,e,f1,cq,bu⟩;have c3:=aY.bx;have ey:aj h ae:=aB.aG aY;have kC:=aY.dW;have cO:=(aY.gt bU).trans bj;have ay:¬((l.length:Int)<(l.length:Int)):=by omega
  rw[fp]at e;have e:mc l u 0=-1:=e;rw[e]at bX;subst bX;simp only[go_sem,seval,f1,cq,bu,cO,l9,ma,c6,ay]
 all_goals simp only[go_sem,seval]
theorem XZ:∀{out:List b1} {j:Nat} {x:b1},(∀k y,k<j->out[k]?=some y->cE.lt y x=true) ->j<=out.length->cE.ins x out=out.take j++cE.ins x (out.drop j)
 |[],j,x,_,a5=>by
  have:j=0:=by simpa using a5
  subst this;simp
 |y::out,0,x,_,_=>by simp
 |y::out,j+1,x,h,a5=>by
  have av:=h 0 y (by omega) rfl;have:=XZ (out:=out) (j:=j) (x:=x) (fun k z hk aX=>h (k+1) z (by omega) (by simpa using aX)) (by simpa using a5);simp only[cE.ins,av,qt,this,List.take_succ_cons,Yf,zH]
theorem aJb{out:List b1}{j:Nat}{x y:b1}(h:∀k y,k<j->out[k]?=some y->cE.lt y x=true)(ax:out[j]?=some y)(aq:cE.lt y x=false):cE.ins x out=if y=x then out else out.take j++[x]++out.drop j:=by
 have a3:=en ax;rw[XZ h (zR (DX ax)),a3];simp only[cE.ins,aq];by_cases e:y=x
 ·simp only[e,qt];have:=zI j out;rw[a3,e]at this;simpa using this
 ·simp[e]
theorem aGV{out:List b1}{x:b1}(h:∀k y,k<out.length->out[k]?=some y->cE.lt y x=true):cE.ins x out=out.take out.length++[x]++out.drop out.length:=by
 rw[XZ h (a1 _)];simp[cE.ins]
theorem aLR{l:List b1}{i:Nat}{x:b1}(ab:l[i]?=some x):cE.hY (l.take (i+1))=cE.ins x (cE.hY (l.take i)):=by
 rw[nq ab];simp[cE.hY,List.foldl_append]
theorem X0{ty es bytes fb:Nat}{h:H}{a b:V}{l m:List (List V)}[k:aK h](bN:bD ty es fb h a l)(ah:bB h b es m)(rJ:fb<=aH h.next)(hz:l.length+m.length<=1099511627776)(j6:(l.length+m.length)*bytes<=1099511627776):
  ∃v aa,pt h ty es bytes a b=some (v,aa)/\bD ty es fb aa v (l++m)/\vz fb h aa/\∀(x:V) (n:Nat) (aV:List (List V)),bB h x n aV->(∀g,ik x g->¬ik a g) ->bB aa x n aV:=by
 obtain⟨v,aa,e,o,ch,n,q⟩:=Pl bN ah k.ok rJ hz j6;refine⟨v,aa,e,o,⟨⟨ch⟩,n,fun f aE aq=>q f aq ?_⟩,fun x n aV s r=>⟨s.1,?_⟩⟩
 ·rintro⟨aZ,off,n,es,c,rfl⟩;rcases bN with⟨e,_⟩|⟨jw,nK,Du,Dv,e,mJ,_⟩
  ·cases e
  ·cases e;omega
 ·rcases s.2 with z|⟨f,aZ,off,cap,rfl,c⟩
  ·exact .inl z
  ·refine .inr ⟨f,aZ,off,cap,rfl,?_⟩;have ay:=c.lt k.ok;obtain⟨xs,h1,c⟩:=c;refine⟨xs,?_,c⟩;unfold live at h1⊢;rw[q f ay (r f ⟨_,_,_,_,_,rfl⟩)];exact h1
theorem akY{h:H}[k:aK h]{p q:V}{l m:List b1}{x:b1}(bh:bB h p 2 (dv l))(aM:bB h q 2 (dv m))(aA:l.length+m.length<=536870912):∃v1 h1 v2 ae eU az,
  pt ((h.new (.af [] 62)).new (.af [.ad x.1,.bool x.2] 62)) 62 2 16 (.ag h.next 0 0 0 2 (some 0)) p=some (v1,h1)/\pt h1 62 2 16 v1 (.ag (h.new (.af [] 62)).next 0 0 1 2 (some 1))=some (v2,ae)/\
  pt ae 62 2 16 v2 q=some (eU,az)/\aj h h1/\aj h az/\bD 62 2 (aH h.next) az eU (dv (l++[x]++m)):=by
 have kQ:bD 62 2 (aH h.next) (h.new (.af [] 62)) (.ag h.next 0 0 0 2 (some 0)) []:=BM (l:=[]) .nil (some 0) (fun n e=>by cases e;rfl);have iO:aH (h.new (.af [] 62)).next=aH h.next+1:=by rw[fF,gu]
 obtain⟨v1,h1,aN,fZ,adH,ap8⟩:=X0 (bytes:=16) (kQ.aO (aa:=(h.new (.af [] 62)).new (.af [.ad x.1,.bool x.2] 62)) an) (bh.aO k.ok an) (by rw[fF,gu,iO];omega) (by rw[c9,eJ];omega) (by rw[c9,eJ];omega);have bW:=adH.ok;have aB:aj h h1:=adH.aO h (a1 _);have H9:=ap8 _ _ _ (wI (h:=h.new (.af [] 62)) (c:=[.ad x.1,.bool x.2]) (es:=2) (ty:=62) rfl) (by
  rintro g ⟨_,_,_,_,_,e⟩ ⟨_,_,_,_,_,cD⟩;cases e;injection cD with cD
  rw[<-cD]at iO;omega)
 obtain⟨v2,ae,bd,dD,adI,_⟩:=X0 (bytes:=16) fZ H9 aB.g.next (by rw[nR,c9,eG,eJ];omega) (by rw[nR,c9,eG,eJ];omega)
 have c3:=adI.ok;have aY:aj h ae:=adI.aO h (a1 _);obtain⟨eU,az,bO,gx,A2,_⟩:=X0 (bytes:=16) dD (aM.aO k.ok aY) aY.g.next (by rw[nR,fi,c9,c9,eG,eJ];omega) (by rw[nR,fi,c9,c9,eG,eJ];omega)
 refine⟨v1,h1,v2,ae,eU,az,aN,bd,bO,aB,A2.aO h (a1 _),?_⟩;have e:dv (l++[x]++m)=[]++dv l++[[.ad x.1,.bool x.2]]++dv m:=by simp[dv]
 rw[e];exact gx
theorem adJ:g6 62 2 0 [.ad 0,.bool false] []=some (.af [] 62,fun f=>.ag f 0 0 0 2 (some 0)):=rfl
theorem azc{v:V}{l:List b1}[bP:aK a](s:bB a v 2 (dv l))(au:l.length<100000000):cJ J a 118 [v] (fun w h=>bD 62 2 (aH a.next) h w (dv (cE.hY l))):=by
 refine cJ.bE ak.av7 rfl fun h ca g=>?_;have c6:=s.a2;rw[c9]at c6;simp only[agc,go_sem,seval];refine dK l.length (fun i t=>∃I h1 o,t=⟨I,[],h1⟩/\aj h h1/\bD 62 2 (aH h.next) h1 o (dv (cE.hY (l.take i)))/\I.gt 0=v/\I.gt 3=o/\I.gt 4=.ad (i:Nat)) ?_ ?_ (dk _) ⟨_,h,.al,rfl,an,.nil _ _ _ _,?_,?_,?_⟩
 ·rintro i t ai ⟨I,h1,o,rfl,aB,a6,bq,aR,bZ⟩;have bW:=aB.bx;have dx:aj a h1:=g.aG aB;obtain⟨x,ab⟩:=bI ai;have ay:((i:Int)<(l.length:Int)):=by omega
  have bJ:=s.addr (i:=i) (by rw[c9];exact ai);have cY:=s.bM (kd ab);have hK:=aLR ab;have kp:=cE.QU (l.take i);rw[el]at kp;generalize cE.hY (l.take i)=out at a6 hK kp;have tA:=a6.ag.a2;rw[c9]at tA;simp only[go_sem,seval,bq,aR,bZ,c6,ay];refine lU (fun m t=>∃(j:Nat) (I:Fr) (ae:H),t=⟨I,[],ae⟩/\aj h1 ae/\j<=out.length/\m=out.length-j/\(∀k y,k<j->out[k]?=some y->cE.lt y x=true)/\
   I.gt 0=v/\I.gt 3=o/\I.gt 4=.ad (i:Nat)/\I.gt 5=.ad (j:Nat)) ?_ ⟨0,_,h1,rfl,an,dk _,rfl,fun k y hk=>absurd hk (nV _),?_,?_,?_,?_⟩
  ·rintro m t ⟨j,I,ae,rfl,aY,a5,rfl,db,bq,aR,bZ,bu⟩;have c3:=aY.bx;have ey:aj h ae:=aB.aG aY;have iW:aj a ae:=dx.aG aY;by_cases tK:j<out.length
   ·obtain⟨y,ax⟩:=bI tK;have Gn:((j:Int)<(out.length:Int)):=by omega
    have g8:=a6.ag.addr (i:=j) (by rw[c9];exact tK);have k7:=a6.ag.bM (kd ax);have cl:=ajZ (J:=J) (a:=ae) y x;cases AZ:cE.lt y x with
    |true=>
     rw[AZ]at cl;simp only[go_sem,seval,bq,aR,bZ,bu,tA,Gn,g8,k7,bJ,cY,cl.bL,cG (show j<9223372036854775807 by omega)];refine⟨out.length-(j+1),by omega,j+1,_,_,rfl,an,by omega,rfl,fun k z hk aX=>?_,?_,?_,?_,?_⟩
     ·rcases dz k j with h|h
      ·exact db k z h aX
      ·have:k=j:=by omega
       subst this;rw[ax]at aX;cases aX;exact AZ
     all_goals simp only[go_sem,seval,bq,aR,bZ]
    |false=>
     rw[AZ]at cl;have GA:=aJb db ax AZ;obtain⟨cx,fe⟩:∃H:H,H=cg cl ae an:=⟨_,rfl⟩;have fo:aK cx:=by rw[fe];exact an
     have xM:aj ae cx:=by rw[fe];exact an
     have oO:aj h1 cx:=aY.aG xM;have l3:aj h cx:=aB.aG oO;have pk:aj a cx:=dx.aG oO;simp only[go_sem,seval,bq,aR,bZ,bu,tA,Gn,g8,k7,bJ,cY,cl.bL];simp only[<-fe];have adK:=GL y.1 x.1 y.2 x.2;by_cases fJ:y=x
     ·rw[bl fJ]at GA;have px:((y.1,y.2)=(x.1,x.2)):=fJ
      simp only[go_sem,seval,bq,aR,bZ,bu,tA,Gn,g8,k7,bJ,cY,adK,px,cG (show i<9223372036854775807 by omega)];refine⟨_,_,o,rfl,an,by rw[hK,GA];exact a6.aO oO,?_,?_,?_⟩
      all_goals simp only[go_sem,seval,bq,aR]
     ·rw[bf fJ]at GA;have px:¬((y.1,y.2)=(x.1,x.2)):=fJ
      have tI:=a6.aO oO;have eA:=a6.ag.wG a6.cap (i:=j) (by rw[c9];exact a5);have Rw:=a6.ag.Pq a6.cap (i:=j) (by rw[c9];exact a5);have ts:=tI.ag.to (i:=j) (by rw[c9];exact a5);have bt:=tI.ag.I (i:=j) (by rw[c9];exact a5);rw[Y8]at ts;rw[Y9]at bt;obtain⟨v1,bo,v2,cb,eU,dM,aN,bd,bO,eE,f4,qM⟩:=akY (x:=x) ts bt (by rw[el,jG];omega);have mE:=eE.bx;have Ni:aj a bo:=pk.aG eE;simp only[go_sem,seval,bq,aR,bZ,bu,tA,Gn,g8,k7,bJ,cY,adK,px,adJ,j7,eA,Rw,aN,bd,bO,cG (show i<9223372036854775807 by omega)];refine⟨_,dM,eU,rfl,l3.aG f4,by rw[hK,GA];exact qM.mono l3.g.next,?_,?_,?_⟩
      all_goals simp only[go_sem,seval,bq,aR]
   ·have:j=out.length:=by omega
    subst this;have GA:=aGV db;have Gn:¬((out.length:Int)<(out.length:Int)):=by omega
    have tI:=a6.aO aY;have eA:=a6.ag.wG a6.cap (i:=out.length) (by rw[c9];exact a5);have Rw:=a6.ag.Pq a6.cap (i:=out.length) (by rw[c9];exact a5);have ts:=tI.ag.to (i:=out.length) (by rw[c9];exact a5);have bt:=tI.ag.I (i:=out.length) (by rw[c9];exact a5);rw[Y8]at ts;rw[Y9]at bt;obtain⟨v1,bo,v2,cb,eU,dM,aN,bd,bO,eE,f4,qM⟩:=akY (x:=x) ts bt (by rw[el,jG];omega);have mE:=eE.bx;have Ni:aj a bo:=iW.aG eE;simp only[go_sem,seval,bq,aR,bZ,bu,tA,Gn,bJ,cY,adJ,j7,eA,Rw,aN,bd,bO,cG (show i<9223372036854775807 by omega)];refine⟨_,dM,eU,rfl,ey.aG f4,by rw[hK,GA];exact qM.mono ey.g.next,?_,?_,?_⟩
    all_goals simp only[go_sem,seval,bq,aR]
  all_goals simp only[go_sem,seval,bq,aR,bZ]
 ·rintro t ⟨I,h1,o,rfl,aB,a6,bq,aR,bZ⟩;have bW:=aB.bx;have ay:¬((l.length:Int)<(l.length:Int)):=by omega
  rw[g5]at a6;simp only[go_sem,seval,bq,aR,bZ,c6,ay];exact a6.mono g.g.next
 all_goals simp only[go_sem,seval]
end
end Go.ao
