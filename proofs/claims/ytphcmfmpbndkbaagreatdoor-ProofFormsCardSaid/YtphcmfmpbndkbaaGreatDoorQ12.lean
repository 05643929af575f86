/- A part of the proof that ProofForms holds for every input. -/
import Derived.Test.YtphcmfmpbndkbaaGreatDoorQ11
set_option maxRecDepth 100000
set_option maxHeartbeats 4000000
set_option linter.all false
noncomputable section
namespace Go.ao
section
open Form
variable {J:Prog}[ak J]{a:H}
theorem ax0{v:V}{l:List Int}[bP:aK a](s:bB a v 1 (dH l))(au:l.length<1000000000):cJ J a 597 [v] (fun w h=>bD 3 1 (aH a.next) h w (dH l)):=by
 refine cJ.bE ak.ai1 rfl fun h ca g=>?_;rcases alP s with⟨rfl,e⟩|e
 ·have:l=[]:=by simpa[dH]using e
  subst this;simp only[VZ,go_sem,seval,amo];exact .nil _ _ _ _
 ·have bs:g6 3 1 0 [.ad 0] []=some (.af [] 3,fun f=>.ag f 0 0 0 1 (some 0)):=rfl;have kQ:bD 3 1 (aH h.next) (h.new (.af [] 3)) (.ag h.next 0 0 0 1 (some 0)) []:=BM (l:=[]) .nil (some 0) (fun n e=>by cases e;rfl);obtain⟨eU,az,bO,gx,et⟩:=uh (bytes:=8) kQ (Pm s (h.new (.af [] 3))) (by rw[fF,gu];omega) (by simp only[c7,eJ];omega) (by simp only[c7,eJ];omega);simp only[VZ,go_sem,seval,e,bs,bO];exact⟨et.aO h (a1 _),gx.mono g.g.next⟩
theorem ax1{v:V}{l:List (b9×b9)}[bP:aK a](s:bB a v 2 (hi l))(au:l.length<1000000000):cJ J a 541 [v] (fun w h=>bD 232 2 (aH a.next) h w (hi l)):=by
 refine cJ.bE ak.aiX rfl fun h ca g=>?_;rcases alP s with⟨rfl,e⟩|e
 ·have:l=[]:=by simpa[hi]using e
  subst this;simp only[VY,go_sem,seval,amo];exact .nil _ _ _ _
 ·have bs:g6 232 2 0 [.str [],.str []] []=some (.af [] 232,fun f=>.ag f 0 0 0 2 (some 0)):=rfl;have kQ:bD 232 2 (aH h.next) (h.new (.af [] 232)) (.ag h.next 0 0 0 2 (some 0)) []:=BM (l:=[]) .nil (some 0) (fun n e=>by cases e;rfl);obtain⟨eU,az,bO,gx,et⟩:=uh (bytes:=32) kQ (Pm s (h.new (.af [] 232))) (by rw[fF,gu];omega) (by simp only[jd,eJ];omega) (by simp only[jd,eJ];omega);simp only[VY,go_sem,seval,e,bs,bO];exact⟨et.aO h (a1 _),gx.mono g.g.next⟩
structure xb(b:Nat)(h:H)(f:P)(t:List bb)(S W:Nat->V):Prop where
 nodes:h.get f=some (.cells (ed S W 0 t).flatten 0 0 .rw 90)
 Cm:b<=aH f
 hJ:∀i n,t[i]?=some n->bD 3 1 b h (W i) (dH n.kids)/\¬ik (W i) f
 var:∀i n,t[i]?=some n->bD 232 2 b h (S i) (hi n.vars)/\¬ik (S i) f
 Js:∀i j g,i<t.length->j<t.length->i≠j->ik (W i) g->¬ik (W j) g
 Jt:∀i j g,i<t.length->j<t.length->ik (W i) g->¬ik (S j) g
theorem xb.aU{b:Nat}{h:H}{f:P}{t:List bb}{S W:Nat->V}(o:xb b h f t S W)(ah:∀n∈t,n.vars.length<1000000/\n.kids.length<1000000)(c:Option Nat)(U:∀x,c=some x->t.length<=x):fc h (.ag f 0 0 t.length 5 c) t S W:=by
 refine⟨⟨Ym S W 0 t,.inr ⟨f,0,0,c,by rw[gj],_,rm o.nodes (a1 _) (a1 _),by omega,?_⟩⟩,?_,fun i n e=>?_⟩
 ·rw[iL];exact kM (a1 _)
 ·cases c with
  |none=>trivial
  |some c=>exact U c rfl
 ·have hm:=ah n (c0 e);exact⟨(o.var i n e).1.ag,(o.var i n e).1.cap,(o.hJ i n e).1.ag,(o.hJ i n e).1.cap,hm.1,hm.2⟩
theorem aML.aO{ty es b:Nat}{h aa:H}{v:V}{l:List (List V)}(o:bD ty es b h v l)[k:aK h][g:aj h aa]:bD ty es b aa v l:=o.aO g
theorem ax2{v:V}{t:List bb}{S W:Nat->V}[bP:aK a](aU:fc a v t S W)(au:t.length<1000000):cJ J a 550 [v] (fun w h=>∃f cP cy,w=.ag f 0 0 t.length 5 (some t.length)/\xb (aH a.next) h f t cP cy):=by
 refine cJ.bE ak.aiZ rfl fun h ca g=>?_;have h8:=wY 90 5 88 [.ad 0,.str [],.str [],.al,.al] t.length (by omega) (by omega);have as7:=aU.aO bP.ok (aa:=h.new (.af (e2 [.ad 0,.str [],.str [],.al,.al] t.length) 90)) an;have rE:∀n,(e2 [V.ad 0,.str [],.str [],.al,.al] n).length=n*5:=fun n=>by
  induction n with
  |zero=>rfl
  |succ n ih=>
   show([V.ad 0,.str [],.str [],.al,.al]++e2 [V.ad 0,.str [],.str [],.al,.al] n).length=_;rw[fi,ih];simp;omega
 obtain⟨ae,bd,ha,oZ⟩:=aoy (es:=5) (h:=h.new (.af (e2 [.ad 0,.str [],.str [],.al,.al] t.length) 90)) (f:=h.next) (n:=t.length) (c:=some t.length) ef as7.ag (gj S W 0 t) (rE _) (by omega);have c3:=oZ.bx;have rv:eC h.next h:=⟨a1 _⟩
 have aY:aj h ae:=oZ.t4 h;have e1:=fun i ai=>rp h.next 0 0 t.length 5 (some t.length) i ai
 simp only[eH]at e1;have as8:aH a.next<=aH h.next:=g.g.next
 simp only[aiY,go_sem,seval,aU.ag.a2,gj,h8,bd];refine dK t.length (fun i s=>∃I h1 cP cy,s=⟨I,[],h1⟩/\aj h h1/\h1.get h.next=some (.cells (ed cP cy 0 t).flatten 0 0 .rw 90)/\(∀j,i<=j->cP j=S j/\cy j=W j)/\
  (∀j n,j<i->t[j]?=some n->bD 3 1 (aH a.next) h1 (cy j) (dH n.kids)/\¬ik (cy j) h.next)/\(∀j n,j<i->t[j]?=some n->bD 232 2 (aH a.next) h1 (cP j) (hi n.vars)/\¬ik (cP j) h.next)/\
  (∀j k g,j<i->k<i->j≠k->ik (cy j) g->¬ik (cy k) g)/\(∀j k g,j<i->k<i->ik (cy j) g->¬ik (cP k) g)/\
  I.gt 3=.ag h.next 0 0 t.length 5 (some t.length)/\I.gt 12=.ad (t.length:Nat)/\I.gt 13=.ad (i:Nat)) ?_ ?_ (dk _) ⟨_,ae,S,W,rfl,aY,ha,fun _ _=>⟨rfl,rfl⟩,fun _ _ h=>absurd h (nV _),fun _ _ h=>absurd h (nV _),fun _ _ _ h=>absurd h (nV _),fun _ _ _ h=>absurd h (nV _),?_,?_,?_⟩
 ·rintro i s ai ⟨I,h1,cP,cy,rfl,aB,hG,hold,j0,sz,Tf,Tg,aR,kW,h9⟩;have bW:=aB.bx;have Nv:=aP hG;obtain⟨n,aq⟩:=bI ai;have ay:((i:Int)<(t.length:Int)):=by omega
  have r:=(aU.aO bP.ok (g.aG aB)).row i n aq;have fs:=Xj (Xi cP cy t 0 i ai) 90 .rw;have dF:=Xj (akU cP cy t 0 i ai) 90 .rw;rw[eH,(hold i (a1 _)).2]at fs;rw[eH,(hold i (a1 _)).1]at dF;have uG:=ax0 (J:=J) r.kids (by have:=r.ki;omega);simp only[go_sem,seval,aR,kW,h9,ay,e1 i ai,hG,fs,dF];refine uG.oR fun b5 az b4 fo fZ=>?_;have vC:=b4.dW;have Th:=(b4.gt h.next).trans hG;have acb:=aP Th;have l3:aj h az:=aB.aG b4;have e3:=r.aO bW.ok b4;have Ad:=ax1 (J:=J) e3.vars (by have:=e3.hF;omega);have as9:=fK r.vars;simp only[go_sem,seval,Th,dF,as9];refine Ad.oR fun d7 bo eE mE dD=>?_;have Z7:=eE.dW;have AW:=(eE.gt h.next).trans Th;have ada:=aP AW;have y7:aj h bo:=l3.aG eE;have rO:aj h1 bo:=b4.aG eE;have st1:∀aM:H,fz (some (.cells (ed cP cy 0 t).flatten 0 0 .rw 90)) aM h.next 1 0 (i*5+4) 1 b5=some (.bk [],aM.set h.next (.cells (ed cP (upd cy i b5) 0 t).flatten 0 0 .rw 90)):=fun aM=>by
   rw[zD _ _ _ _ _ (by rw[alR];omega) _ fZ.ag.cell,am8 cP cy b5 t 0 i ai,eH]
  have st2:∀aM:H,fz (some (.cells (ed cP (upd cy i b5) 0 t).flatten 0 0 .rw 90)) aM h.next 1 0 (i*5+3) 1 d7=some (.bk [],aM.set h.next (.cells (ed (upd cP i d7) (upd cy i b5) 0 t).flatten 0 0 .rw 90)):=fun aM=>by
   rw[zD _ _ _ _ _ (by rw[alR];omega) _ dD.ag.cell,am9 cP (upd cy i b5) d7 t 0 i ai,eH]
  have aN8:i*5+3+1<=i*5+5:=by omega
  simp only[go_sem,seval,aR,kW,h9,e1 i ai,AW,st1,st2,cG (show i<9223372036854775807 by omega)];obtain⟨aX,Nw⟩:∃aX:H,aX=(bo.set h.next (.cells (ed cP (upd cy i b5) 0 t).flatten 0 0 .rw 90)).set h.next (.cells (ed (upd cP i d7) (upd cy i b5) 0 t).flatten 0 0 .rw 90):=⟨_,rfl⟩
  have Ml:jZ h.next bo aX:=by rw[Nw];exact an
  have su:aj h aX:=by rw[Nw];exact an
  have apZ:aX.get h.next=some (.cells (ed (upd cP i d7) (upd cy i b5) 0 t).flatten 0 0 .rw 90):=by rw[Nw];exact jt
  rw[<-Nw];have aN9:aH h.next<aH h1.next:=Nv.lt
  have n13:=b4.g.next
  have adb:¬ik b5 h.next:=fun q=>by have:=fZ.rt.root q;omega
  have MR:¬ik d7 h.next:=fun q=>by have:=dD.rt.root q;omega
  have ata:=fZ.y6;have ade:aH a.next<=aH h1.next:=(g.aG aB).g.next
  have atb:=((fZ.aO eE).upto Ml.u adb).mono ade
  have atc:=(dD.upto Ml.u MR).mono (iK ade n13);refine⟨_,aX,upd cP i d7,upd cy i b5,rfl,su,apZ,fun j a5=>?_,fun j m a5 hm=>?_,fun j m a5 hm=>?_,fun j ch bR a5 hk h6 q=>?_,fun j ch bR a5 hk q=>?_,by simp only[go_sem,seval,aR],by simp only[go_sem,seval,kW],by simp only[go_sem,seval]⟩
  ·rw[iN _ _ (by omega),iN _ _ (by omega)];exact hold j (by omega)
  ·by_cases ib:j=i
   ·subst ib;rw[kf];rw[aq]at hm;cases hm;exact⟨atb,adb⟩
   ·rw[iN _ _ ib];obtain⟨e5,cO⟩:=j0 j m (by omega) hm;exact⟨(e5.aO rO).upto Ml.u cO,cO⟩
  ·by_cases ib:j=i
   ·subst ib;rw[kf];rw[aq]at hm;cases hm;exact⟨atc,MR⟩
   ·rw[iN _ _ ib];obtain⟨e5,cO⟩:=sz j m (by omega) hm;exact⟨(e5.aO rO).upto Ml.u cO,cO⟩
  ·by_cases ib:j=i
   ·subst ib;rw[kf]at q;rw[iN _ _ (fun e=>h6 e.symm)];intro a8;obtain⟨m,hm⟩:=bI (l:=t) (i:=ch) (by omega);have h1:=((j0 ch m (by omega) hm).1.y6).root a8
    have ae:=fZ.rt.root q;omega
   ·rw[iN _ _ ib]at q;by_cases AX:ch=i
    ·subst AX;rw[kf];intro a8;obtain⟨m,hm⟩:=bI (l:=t) (i:=j) (by omega);have h1:=((j0 j m (by omega) hm).1.y6).root q
     have ae:=fZ.rt.root a8;omega
    ·rw[iN _ _ AX];exact Tf j ch bR (by omega) (by omega) h6 q
  ·by_cases ib:j=i
   ·subst ib;rw[kf]at q;have ae:=fZ.rt.root q;by_cases AX:ch=j
    ·subst AX;rw[kf];intro a8;have az:=ata.root q;have bo:=dD.rt.root a8;omega
    ·rw[iN _ _ AX];intro a8;obtain⟨m,hm⟩:=bI (l:=t) (i:=ch) (by omega);have h1:=((sz ch m (by omega) hm).1.y6).root a8
     omega
   ·rw[iN _ _ ib]at q;obtain⟨m,hm⟩:=bI (l:=t) (i:=j) (by omega);have h1:=((j0 j m (by omega) hm).1.y6).root q
    by_cases AX:ch=i
    ·subst AX;rw[kf];intro a8;have bo:=dD.rt.root a8;omega
    ·rw[iN _ _ AX];exact Tg j ch bR (by omega) (by omega) q
 ·rintro s ⟨I,h1,cP,cy,rfl,aB,hG,hold,j0,sz,Tf,Tg,aR,kW,h9⟩;have ay:¬((t.length:Int)<(t.length:Int)):=by omega
  simp only[go_sem,seval,aR,kW,h9,ay];have qS:∀(i:Nat) (n:bb),t[i]?=some n->i<t.length:=fun i n e=>by
   rcases dz i t.length with q|q
   ·exact q
   ·rw[ei q]at e;cases e
  exact⟨_,cP,cy,rfl,hG,as8,fun i n e=>j0 i n (qS i n e) e,fun i n e=>sz i n (qS i n e) e,Tf,Tg⟩
 all_goals simp only[go_sem,seval]
theorem aEg{ty:TypeId}{b:Nat}{h:H}{v:V}{l:List (List V)}{m:Nat}(o:bD ty 1 b h v l)[k:aK h](hm:m<l.length){x:V}(ab:x.cells.length=1):∃aa g,CK h 1 (uN v 1 m) x=some (.bk [],aa)/\bD ty 1 b aa v (l.set m x.cells)/\ik v g/\b<=aH g/\pw g h aa:=by
 rcases o with⟨rfl,rfl⟩|⟨f,aZ,off,cap,rfl,ah,o⟩
 ·simp at hm
 ·obtain⟨aa,e,cu,u⟩:=Zm o k.ok ab hm;exact⟨aa,f,e,.inr ⟨f,aZ,off,cap,by rw[vm],ah,cu⟩,⟨_,_,_,_,_,rfl⟩,ah,u⟩
theorem YO(S W:Nat->V)(q:bb->bb)(aM:∀n,(q n).op=n.op/\(q n).sort=n.sort/\(q n).name=n.name):∀(t:List bb) (k:Nat),ed S W k (t.map q)=ed S W k t
 |[],_=>rfl
 |n::t,k=>by
  obtain⟨h1,ae,az⟩:=aM n;show[V.ad (q n).op,.str (q n).sort,.str (q n).name,S k,W k]::ed S W (k+1) (t.map q)=_;rw[h1,ae,az,YO S W q aM t (k+1)];rfl
def Bg(f:Nat)(n:bb):bb:={n with kids:=n.kids.map fun x=>x-(f:Int)}
theorem G9(t:List bb)(k:Nat):lM t k=((t.drop (lN t k)).take (k+1-lN t k)).map (Bg (lN t k)):=rfl
theorem ana{l:List Int}{m:Nat}(x:Int):(dH l).set m [.ad x]=dH (l.set m x):=by simp[dH,List.map_set]
theorem aj.upto{a h aa:H}{g:P}(i:aj a h)(u: pw g h aa)(aC:aH a.next<=aH g):aj a aa:=⟨u.t3 i.g aC⟩
theorem ax3{v:V}{t:List bb}{S W:Nat->V}[bP:aK a](aU:fc a v t S W)(au:t.length<1000000){k:Nat}(hk:k<t.length)(ok:∀j,j<=k->pI t j):
  cJ J a 480 [v,.ad (k:Nat)] (fun w h=>∃f cP cy,w=.ag f 0 0 (lM t k).length 5 (some (lM t k).length)/\xb (aH a.next) h f (lM t k) cP cy):=by
 refine cJ.bE ak.aiO rfl fun h ca g=>?_;have FA:=V3 (J:=J) aU hk ok;have Cu:=En t k;rw[G9];generalize dw:lN t k=F at*;have b5:b8 .i64 ((k:Int)+1)=((k+1:Nat):Int):=cG (by omega)
 have yC:=aU.ag.alQ aU.cap (br:=F) (ai:=k+1) (by omega) (by rw[gj];omega);obtain⟨H1,cR⟩:∃H:H,H=cg FA h an:=⟨_,rfl⟩;have ac2:aK H1:=by rw[cR];exact an
 have v3:aj h H1:=by rw[cR];exact an
 have Kw:aj a H1:=g.aG v3;have uu:fc H1 (DV v F (k+1)) ((t.drop F).take (k+1-F)) (fun i=>S (i+F)) (fun i=>W (i+F)):=by
  have lG:=aU.aO bP.ok Kw;refine⟨?_,an2 lG.ag lG.cap (by omega) (by rw[gj];omega),fun i n e=>?_⟩
  ·have:=lG.ag.mid (br:=F) (ai:=k+1) (by omega) (by rw[gj];omega);rw[Yn,YN,eH,<-eH F,Y6 S W _ 0 F]at this;simpa only[eH]using this
  ·have ai:i<k+1-F:=by
    rcases dz i (k+1-F)with q|q
    ·exact q
    ·rw[ei (by rw[el];omega)]at e;cases e
   rw[qp ai,qq]at e;have:=lG.row (F+i) n e;rwa[D3 F i]at this
 have rZ:∀(i:Nat) (n:bb),((t.drop F).take (k+1-F))[i]?=some n->n.kids.length<1000000/\∀x∈n.kids,(0:Int)<=x/\x<1000000:=fun i n e=>by
  have ai:i<k+1-F:=by
   rcases dz i (k+1-F)with q|q
   ·exact q
   ·rw[ei (by rw[el];omega)]at e;cases e
  refine⟨(uu.row i n e).ki,?_⟩;rw[qp ai,qq]at e;intro x ab;have:=(ok (F+i) (by omega)).hJ e x ab;omega
 have AQ:((t.drop F).take (k+1-F)).length<1000000:=by rw[el,jG];omega
 generalize (t.drop F).take (k+1-F)=T at uu rZ AQ;have fx:=ax2 (J:=J) uu AQ;simp only[aiN,go_sem,seval,FA.cl,b5,yC];simp only[<-cR];refine fx.run fun w ae aY c3 dX=>?_;obtain⟨f,cP,cy,rfl,kR⟩:=dX;have ey:aj h ae:=v3.aG aY;have e1:=fun i ai=>rp f 0 0 T.length 5 (some T.length) i ai;simp only[eH]at e1;have ah:aH h.next<=aH H1.next:=v3.g.next
 have uU:aH a.next<=aH H1.next:=Kw.g.next
 have fs:=fun i ai=>Xj (Xi cP cy T 0 i ai) 90 .rw;simp only[eH]at fs;simp only[go_sem,seval];refine dK T.length (fun i s=>∃I az,s=⟨I,[],az⟩/\aj h az/\az.get f=some (.cells (ed cP cy 0 T).flatten 0 0 .rw 90)/\
  (∀j n,T[j]?=some n->bD 3 1 (aH H1.next) az (cy j) (dH (if j<i then n.kids.map (fun x=>x-(F:Int))else n.kids)))/\(∀j n,T[j]?=some n->bD 232 2 (aH H1.next) az (cP j) (hi n.vars))/\
  I.gt 5=.ad (F:Nat)/\I.gt 6=.ag f 0 0 T.length 5 (some T.length)/\I.gt 19=.ad (T.length:Nat)/\I.gt 20=.ad (i:Nat)) ?_ ?_ (dk _) ⟨_,ae,rfl,ey,kR.nodes,fun j n e=>by rw[bf (nV _)];exact(kR.hJ j n e).1,fun j n e=>(kR.var j n e).1,?_,?_,?_,?_⟩
 ·rintro i s ai ⟨I,az,rfl,b4,hG,j0,sz,bu,cj,mo,lI⟩;have fo:=b4.bx;have acb:=aP hG;obtain⟨n,aq⟩:=bI ai;have ay:((i:Int)<(T.length:Int)):=by omega
  obtain⟨tB,Ti⟩:=rZ i n aq;have EP:=j0 i n aq;rw[bf (nW i)]at EP;simp only[go_sem,seval,bu,cj,mo,lI,ay,e1 i ai,hG,fs i ai,EP.ag.a2,c7];refine dK n.kids.length (fun m s=>∃I bo,s=⟨I,[],bo⟩/\aj h bo/\bo.get f=some (.cells (ed cP cy 0 T).flatten 0 0 .rw 90)/\
   (∀j n,j≠i->T[j]?=some n->bD 3 1 (aH H1.next) bo (cy j) (dH (if j<i then n.kids.map (fun x=>x-(F:Int))else n.kids)))/\bD 3 1 (aH H1.next) bo (cy i) (dH ((n.kids.take m).map (fun x=>x-(F:Int))++n.kids.drop m))/\(∀j n,T[j]?=some n->bD 232 2 (aH H1.next) bo (cP j) (hi n.vars))/\
   I.gt 5=.ad (F:Nat)/\I.gt 6=.ag f 0 0 T.length 5 (some T.length)/\I.gt 7=.ad (i:Nat)/\I.gt 19=.ad (T.length:Nat)/\I.gt 20=.ad (i:Nat)/\I.gt 28=.ad (n.kids.length:Nat)/\I.gt 29=.ad (m:Nat)) ?_ ?_ (dk _) ⟨_,az,rfl,b4,hG,fun j n _ e=>j0 j n e,by simpa using EP,sz,?_,?_,?_,?_,?_,?_,?_⟩
  ·rintro m s hm ⟨I,bo,rfl,eE,AW,C7,rP,C8,bu,cj,cH,mo,lI,AB,oM⟩;have mE:=eE.bx;have ada:=aP AW;obtain⟨x,ab⟩:=bI hm;obtain⟨jl,rF⟩:=Ti x (c0 ab);have DL:((m:Int)<(n.kids.length:Int)):=by omega
   have hlen:((n.kids.take m).map (fun x=>x-(F:Int))++n.kids.drop m).length=n.kids.length:=by simp;omega
   have dU:((n.kids.take m).map (fun x=>x-(F:Int))++n.kids.drop m)[m]?=some x:=by
    rw[en ab];exact PU (by simp;omega)
   have ko:m<(dH ((n.kids.take m).map (fun x=>x-(F:Int))++n.kids.drop m)).length:=by rw[c7,hlen];exact hm
   have uA:b8 .i64 (x-(F:Int))=x-(F:Int):=gz (by omega) (by omega);obtain⟨cb,kB,Tj,g9,aI,Tk,mV⟩:=aEg rP ko (x:=.ad (x-(F:Int))) rfl;have eg:aj h cb:=eE.upto mV (by omega);have ap0:f≠kB:=fun e=>(kR.hJ i n aq).2 (by rw[e];exact aI);simp only[go_sem,seval,bu,cj,cH,mo,lI,AB,oM,DL,e1 i ai,AW,fs i ai,rP.ag.addr ko,rP.ag.bM (gn dU),uA,Tj,cG (show m<9223372036854775807 by omega)];refine⟨_,cb,rfl,eg,by rw[mV.get f ada.lt ap0];exact AW,fun j gN a5 e=>?_,?_,fun j gN e=>?_,by simp only[go_sem,seval,bu],by simp only[go_sem,seval,cj],by simp only[go_sem,seval,cH],by simp only[go_sem,seval,mo],by simp only[go_sem,seval,lI],by simp only[go_sem,seval,AB],by simp only[go_sem,seval]⟩
   ·have tK:j<T.length:=by
     rcases dz j T.length with q|q
     ·exact q
     ·rw[ei q]at e;cases e
    exact(C7 j gN a5 e).upto mV (kR.Js i j kB ai tK (fun e=>a5 e.symm) aI)
   ·have g9:bD 3 1 (aH H1.next) cb (cy i) ((dH ((n.kids.take m).map (fun x=>x-(F:Int))++n.kids.drop m)).set m [.ad (x-(F:Int))]):=g9
    rw[ana,en ab]at g9;have e:((n.kids.take m).map (fun x=>x-(F:Int))++x::n.kids.drop (m+1)).set m (x-(F:Int))=(n.kids.take (m+1)).map (fun x=>x-(F:Int))++n.kids.drop (m+1):=by
     rw[Lu (by simp;omega),mU,ab];simp
    rwa[e]at g9
   ·have tK:j<T.length:=by
     rcases dz j T.length with q|q
     ·exact q
     ·rw[ei q]at e;cases e
    exact(C8 j gN e).upto mV (kR.Jt i j kB ai tK aI)
  ·rintro s ⟨I,bo,rfl,eE,AW,C7,rP,C8,bu,cj,cH,mo,lI,AB,oM⟩;have DL:¬((n.kids.length:Int)<(n.kids.length:Int)):=by omega
   rw[g5,fp,qy]at rP;simp only[go_sem,seval,bu,cj,mo,lI,AB,oM,DL,cG (show i<9223372036854775807 by omega)];refine⟨_,bo,rfl,eE,AW,fun j gN e=>?_,C8,by simp only[go_sem,seval,bu],by simp only[go_sem,seval,cj],by simp only[go_sem,seval,mo],by simp only[go_sem,seval]⟩;by_cases a5:j=i
   ·subst a5;rw[aq]at e;cases e;rw[bl (Nat.lt_succ_self _)];exact rP
   ·have:=C7 j gN a5 e;by_cases ib:j<i
    ·rw[bl ib]at this;rw[bl (by omega)];exact this
    ·rw[bf ib]at this;rw[bf (by omega)];exact this
  all_goals simp only[go_sem,seval,bu,cj,mo,lI]
 ·rintro s ⟨I,az,rfl,b4,hG,j0,sz,bu,cj,mo,lI⟩;have ay:¬((T.length:Int)<(T.length:Int)):=by omega
  simp only[go_sem,seval,cj,mo,lI,ay,eQ];have qS:∀{α:Type} (l:List α) (i:Nat) (n:α),l[i]?=some n->i<l.length:=fun l i n e=>by
   rcases dz i l.length with q|q
   ·exact q
   ·rw[ei q]at e;cases e
  have back:∀(j:Nat) (n:bb),(T.map (Bg F))[j]?=some n->∃gN,T[j]?=some gN/\n=Bg F gN:=fun j n e=>by
   rw[ij]at e;cases yD:T[j]? with
   |none=>rw[yD]at e;cases e
   |some gN=>rw[yD]at e;cases e;exact⟨gN,rfl,rfl⟩
  refine⟨f,cP,cy,rfl,by rw[YO cP cy (Bg F) (fun n=>⟨rfl,rfl,rfl⟩)];exact hG,iK uU kR.Cm,fun j n e=>?_,fun j n e=>?_,fun i j bR ai a5=>kR.Js i j bR (by simpa using ai) (by simpa using a5),fun i j bR ai a5=>kR.Jt i j bR (by simpa using ai) (by simpa using a5)⟩
  ·obtain⟨gN,cD,rfl⟩:=back j n e;have:=j0 j gN cD;rw[bl (qS T j gN cD)]at this;exact⟨this.mono uU,(kR.hJ j gN cD).2⟩
  ·obtain⟨gN,cD,rfl⟩:=back j n e;exact⟨(sz j gN cD).mono uU,(kR.var j gN cD).2⟩
 all_goals simp only[go_sem,seval]
end
abbrev Ha:=@List.range_succ
section
open Form
open cE (lt ix b1)
variable {J:Prog}[ak J]{a:H}
theorem ax4{v f:V}{aV:List V}[bP:aK a](s:bB a v 1 (cI aV))(au:aV.length<1000000)(R:Nat->V->H->Prop)(dP:∀i w,gH 52 (R i w))(Rq:∀i w h,R i w h->w.cells=[w])(aE:∀(i:Nat) (x:V),aV[i]?=some x->mY J a f [x] (R i)):cJ J a 347 [v,f] (fun w h=>∃Y,bD 52 1 (aH a.next) h w (cI (dT Y aV.length))/\∀i,i<aV.length->R i (Y i) h):=by
 refine cJ.bE ak.ah3 rfl fun h ca g=>?_;simp only[ah2,go_sem,seval,s.a2,dL];refine dK aV.length (fun i t=>∃I h1 w Y,t=⟨I,[],h1⟩/\aj h h1/\bD 52 1 (aH h.next) h1 w (cI (dT Y i))/\(∀j,j<i->R j (Y j) h1)/\I.gt 1=f/\I.gt 5=w/\I.gt 8=v/\I.gt 9=.ad (aV.length:Nat)/\I.gt 10=.ad (i:Nat)) ?_ ?_ (dk _) ⟨_,_,.al,fun _=>.fO,rfl,an,.nil _ _ _ _,fun _ h=>absurd h (nV _),?_,?_,?_,?_,?_⟩
 ·rintro i t ai ⟨I,h1,w,Y,rfl,aB,dt,jX,f1,bu,cQ,dm,ew⟩;have bW:=aB.bx;have dx:aj a h1:=g.aG aB;obtain⟨x,ab⟩:=bI ai;have ck:i<(cI aV).length:=by rw[dL];exact ai
  have ay:((i:Int)<(aV.length:Int)):=by omega
  have m1:=aE i x ab;simp only[go_sem,seval,f1,bu,cQ,dm,ew,ay,s.addr ck,s.bM (jc ab)];refine m1.run fun y ae aY c3 dX=>?_;have kC:=aY.t4;have eL:=Rq i y ae dX;have bs:g6 52 1 1 [.al] [(0,1,y)]=some (.af [y] 52,fun f=>.ag f 0 0 1 1 (some 1)):=by simp only[g6,oU,eL];rfl
  have ee:bB (ae.new (.af [y] 52)) (.ag ae.next 0 0 1 1 (some 1)) 1 (cI [y]):=⟨fun e he=>by simp[cI]at he;subst he;rfl,.inr ⟨ae.next,0,0,some 1,rfl,_,rm ef (a1 _) (a1 _),by simp[cI],by simp[cI]⟩⟩;have ey:aj h ae:=aB.aG aY;obtain⟨eU,az,bO,iH,et,st⟩:=ui (bytes:=24) ((dt.aO aY).aO (aa:=ae.new (.af [y] 52)) an) ee (by have:=ey.g.next;rw[fF,gu];omega) (by simp only[dL,d4,eG,eJ];omega) (by simp only[dL,d4,eG,eJ];omega)
  have l3:aj h az:=et.aO h (a1 _);simp only[go_sem,seval,f1,bu,cQ,dm,ew,bs,bO,cG (show i<9223372036854775807 by omega)];refine⟨_,_,eU,upd Y i y,rfl,l3,?_,?_,by simp only[go_sem,seval,f1],by simp only[go_sem,seval],by simp only[go_sem,seval,cQ],by simp only[go_sem,seval,dm],by simp only[go_sem,seval]⟩
  ·have e:cI (dT Y i)++cI [y]=cI (dT (upd Y i y) (i+1)):=by
    unfold dT;rw[Ha,wW];have:(List.range i).map (upd Y i y)=(List.range i).map Y:=By fun j a5=>iN _ _ (by have:=List.mem_range.1 a5;omega);rw[this];simp[cI,kf]
   rwa[<-e]
  ·intro j a5;have e0:aj ae (ae.new (.af [y] 52)):=an;by_cases ib:j=i
   ·subst ib;rw[kf];exact st _ (dP j y) ((dP j y).kB _ _ c3 e0 dX)
   ·rw[iN _ _ ib];exact st _ (dP j (Y j)) ((dP j (Y j)).kB _ _ c3 e0 ((dP j (Y j)).kB _ _ bW aY (jX j (by omega))))
 ·rintro t ⟨I,h1,w,Y,rfl,aB,dt,jX,f1,bu,cQ,dm,ew⟩;have bW:=aB.bx;have ay:¬((aV.length:Int)<(aV.length:Int)):=by omega
  simp only[go_sem,seval,bu,dm,ew,ay];exact⟨Y,dt.mono g.g.next,jX⟩
 all_goals simp only[go_sem,seval]
theorem ajK{v f:V}{aV:List V}[bP:aK a](s:bB a v 1 (cI aV))(au:aV.length<1000000)(R:Nat->V->H->Prop)(dP:∀i w,gH 43 (R i w))(Rq:∀i w h,R i w h->w.cells=[w])(aE:∀(i:Nat) (x:V),aV[i]?=some x->mY J a f [x] (R i)):cJ J a 239 [v,f] (fun w h=>∃Y,bD 43 1 (aH a.next) h w (cI (dT Y aV.length))/\∀i,i<aV.length->R i (Y i) h):=by
 refine cJ.bE ak.ahc rfl fun h ca g=>?_;simp only[ahb,go_sem,seval,s.a2,dL];refine dK aV.length (fun i t=>∃I h1 w Y,t=⟨I,[],h1⟩/\aj h h1/\bD 43 1 (aH h.next) h1 w (cI (dT Y i))/\(∀j,j<i->R j (Y j) h1)/\I.gt 1=f/\I.gt 5=w/\I.gt 8=v/\I.gt 9=.ad (aV.length:Nat)/\I.gt 10=.ad (i:Nat)) ?_ ?_ (dk _) ⟨_,_,.al,fun _=>.fO,rfl,an,.nil _ _ _ _,fun _ h=>absurd h (nV _),?_,?_,?_,?_,?_⟩
 ·rintro i t ai ⟨I,h1,w,Y,rfl,aB,dt,jX,f1,bu,cQ,dm,ew⟩;have bW:=aB.bx;have dx:aj a h1:=g.aG aB;obtain⟨x,ab⟩:=bI ai;have ck:i<(cI aV).length:=by rw[dL];exact ai
  have ay:((i:Int)<(aV.length:Int)):=by omega
  have m1:=aE i x ab;simp only[go_sem,seval,f1,bu,cQ,dm,ew,ay,s.addr ck,s.bM (jc ab)];refine m1.run fun y ae aY c3 dX=>?_;have kC:=aY.t4;have eL:=Rq i y ae dX;have bs:g6 43 1 1 [.al] [(0,1,y)]=some (.af [y] 43,fun f=>.ag f 0 0 1 1 (some 1)):=by simp only[g6,oU,eL];rfl
  have ee:bB (ae.new (.af [y] 43)) (.ag ae.next 0 0 1 1 (some 1)) 1 (cI [y]):=⟨fun e he=>by simp[cI]at he;subst he;rfl,.inr ⟨ae.next,0,0,some 1,rfl,_,rm ef (a1 _) (a1 _),by simp[cI],by simp[cI]⟩⟩;have ey:aj h ae:=aB.aG aY;obtain⟨eU,az,bO,iH,et,st⟩:=ui (bytes:=24) ((dt.aO aY).aO (aa:=ae.new (.af [y] 43)) an) ee (by have:=ey.g.next;rw[fF,gu];omega) (by simp only[dL,d4,eG,eJ];omega) (by simp only[dL,d4,eG,eJ];omega)
  have l3:aj h az:=et.aO h (a1 _);simp only[go_sem,seval,f1,bu,cQ,dm,ew,bs,bO,cG (show i<9223372036854775807 by omega)];refine⟨_,_,eU,upd Y i y,rfl,l3,?_,?_,by simp only[go_sem,seval,f1],by simp only[go_sem,seval],by simp only[go_sem,seval,cQ],by simp only[go_sem,seval,dm],by simp only[go_sem,seval]⟩
  ·have e:cI (dT Y i)++cI [y]=cI (dT (upd Y i y) (i+1)):=by
    unfold dT;rw[Ha,wW];have:(List.range i).map (upd Y i y)=(List.range i).map Y:=By fun j a5=>iN _ _ (by have:=List.mem_range.1 a5;omega);rw[this];simp[cI,kf]
   rwa[<-e]
  ·intro j a5;have e0:aj ae (ae.new (.af [y] 43)):=an;by_cases ib:j=i
   ·subst ib;rw[kf];exact st _ (dP j y) ((dP j y).kB _ _ c3 e0 dX)
   ·rw[iN _ _ ib];exact st _ (dP j (Y j)) ((dP j (Y j)).kB _ _ c3 e0 ((dP j (Y j)).kB _ _ bW aY (jX j (by omega))))
 ·rintro t ⟨I,h1,w,Y,rfl,aB,dt,jX,f1,bu,cQ,dm,ew⟩;have bW:=aB.bx;have ay:¬((aV.length:Int)<(aV.length:Int)):=by omega
  simp only[go_sem,seval,bu,dm,ew,ay];exact⟨Y,dt.mono g.g.next,jX⟩
 all_goals simp only[go_sem,seval]
def r0:List Bool->Nat->Int
 |[],_=>-1
 |b::l,i=>if b=true then(i:Int)else r0 l (i+1)
theorem anb:∀(l:List Bool) (i:Nat),decide (0<=r0 l i)=l.any id
 |[],_=>rfl
 |b::l,i=>by
  have ih:=anb l (i+1);rw[yc];cases b with
  |true=>
   have:(0:Int)<=r0 (true::l) i:=by unfold r0;rw[bl rfl];omega
   simp[this]
  |false=>
   have aN:r0 (false::l) i=r0 l (i+1):=by rw[r0];rfl
   rw[aN,ih];rfl
theorem amp{g:FuncId}(dw:J.funcs g=some Kc)(aA:∀args h,J.spec g args h=none){v f:V}{aV:List V}[aK a](s:bB a v 1 (cI aV))(au:aV.length<1000000000)(ea:List Bool)(aM:ea.length=aV.length)(aE:∀(i:Nat) (x:V) (b:Bool),aV[i]?=some x->ea[i]?=some b->gp J a f [x] (.bool b)):aS J a g [v,f] (.ad (r0 ea 0)):=by
 refine aS.mk (fun h=>aA _ h) dw rfl fun h _ g=>?_;simp only[Kc,go_sem,seval,s.a2,dL];refine dK aV.length (fun i t=>∃I h1,t=⟨I,[],h1⟩/\aj h h1/\r0 ea 0=r0 (ea.drop i) i/\I.gt 0=v/\I.gt 1=f/\I.gt 7=.ad (aV.length:Nat)/\I.gt 8=.ad (i:Nat)) ?_ ?_ (dk _) ⟨_,_,rfl,an,rfl,?_,?_,?_,?_⟩
 ·rintro i t ai ⟨I,h1,rfl,aB,e,bA,aN,gl,gL⟩;obtain⟨x,ab⟩:=bI ai;obtain⟨b,ah⟩:=bI (l:=ea) (i:=i) (by omega);have a3:=en ah;have:=aB.bx;have Cb:=g.aG aB;have c:=aE i x b ab ah;have ck:i<(cI aV).length:=by rw[dL];exact ai
  rw[a3]at e;cases b with
  |true=>
   have e:r0 ea 0=(i:Int):=e;simp only[go_sem,seval,bA,aN,gl,gL,ai,s.addr ck,s.bM (jc ab),c.cl,e]
  |false=>
   have e:r0 ea 0=r0 (ea.drop (i+1)) (i+1):=e;simp only[go_sem,seval,bA,aN,gl,gL,ai,s.addr ck,s.bM (jc ab),c.cl,cG (show i<9223372036854775807 by omega)];exact⟨_,_,rfl,an,e,by simp only[go_sem,seval,bA],by simp only[go_sem,seval,aN],by simp only[go_sem,seval,gl],by simp only[go_sem,seval]⟩
 ·rintro t ⟨I,h1,rfl,aB,e,bA,aN,gl,gL⟩;have:=aB.bx;rw[Eo (by omega)]at e;have e:r0 ea 0=-1:=e;simp only[go_sem,seval,bA,aN,gl,gL,nW,e]
 all_goals simp only[go_sem,seval]
theorem ax5{v f:V}{aV:List V}[bP:aK a](s:bB a v 1 (cI aV))(au:aV.length<1000000)(r:List Int)(aI:r.length=aV.length)(aE:∀(i:Nat) (x:V) (y:Int),aV[i]?=some x->r[i]?=some y->gp J a f [x] (.ad y)):cJ J a 234 [v,f] (fun w h=>bD 3 1 (aH a.next) h w (dH r)):=by
 refine cJ.bE ak.ag2 rfl fun h ca g=>?_;simp only[ag1,go_sem,seval,s.a2,dL];refine dK aV.length (fun i t=>∃I h1 w,t=⟨I,[],h1⟩/\aj h h1/\bD 3 1 (aH h.next) h1 w (dH (r.take i))/\I.gt 1=f/\I.gt 5=w/\I.gt 8=v/\I.gt 9=.ad (aV.length:Nat)/\I.gt 10=.ad (i:Nat)) ?_ ?_ (dk _) ⟨_,_,.al,rfl,an,.nil _ _ _ _,?_,?_,?_,?_,?_⟩
 ·rintro i t ai ⟨I,h1,w,rfl,aB,dt,f1,bu,cQ,dm,ew⟩;have bW:=aB.bx;have dx:aj a h1:=g.aG aB;obtain⟨x,ab⟩:=bI ai;obtain⟨y,ax⟩:=bI (l:=r) (i:=i) (by omega);have ck:i<(cI aV).length:=by rw[dL];exact ai
  have ay:((i:Int)<(aV.length:Int)):=by omega
  have m1:=aE i x y ab ax;have bs:g6 3 1 1 [.ad 0] [(0,1,.ad y)]=some (.af [.ad y] 3,fun f=>.ag f 0 0 1 1 (some 1)):=rfl;have e0:aj h1 (cg m1 h1 an):=an;have ee:bB ((cg m1 h1 an).new (.af [.ad y] 3)) (.ag (cg m1 h1 an).next 0 0 1 1 (some 1)) 1 (dH [y]):=⟨fun e he=>by simp[dH]at he;subst he;rfl,.inr ⟨_,0,0,some 1,rfl,_,rm ef (a1 _) (a1 _),by simp[dH],by simp[dH]⟩⟩
  obtain⟨eU,az,bO,iH,et⟩:=uh (bytes:=8) (dt.aO (aa:=(cg m1 h1 an).new (.af [.ad y] 3)) an) ee (by have:=(aB.aG e0).g.next;rw[fF,gu];omega) (by simp only[c7,el,eG,eJ];omega) (by simp only[c7,el,eG,eJ];omega);simp only[go_sem,seval,f1,bu,cQ,dm,ew,ay,s.addr ck,s.bM (jc ab),m1.cl,bs,bO,cG (show i<9223372036854775807 by omega)];refine⟨_,_,eU,rfl,et.aO h (a1 _),?_,by simp only[go_sem,seval,f1],by simp only[go_sem,seval],by simp only[go_sem,seval,cQ],by simp only[go_sem,seval,dm],by simp only[go_sem,seval]⟩;have e:dH (r.take i)++dH [y]=dH (r.take (i+1)):=by rw[mU,ax];simp[dH]
  rwa[<-e]
 ·rintro t ⟨I,h1,w,rfl,aB,dt,f1,bu,cQ,dm,ew⟩;have bW:=aB.bx;have ay:¬((aV.length:Int)<(aV.length:Int)):=by omega
  rw[kM (by omega)]at dt;simp only[go_sem,seval,bu,dm,ew,ay];exact dt.mono g.g.next
 all_goals simp only[go_sem,seval]
theorem ajL{v f:V}{aV:List V}[bP:aK a](s:bB a v 1 (cI aV))(au:aV.length<1000000)(r:List b1)(aI:r.length=aV.length)(aE:∀(i:Nat) (x:V) (y:b1),aV[i]?=some x->r[i]?=some y->gp J a f [x] (rX y)):cJ J a 241 [v,f] (fun w h=>bD 62 2 (aH a.next) h w (dv r)):=by
 refine cJ.bE ak.ahe rfl fun h ca g=>?_;simp only[ahd,go_sem,seval,s.a2,dL];refine dK aV.length (fun i t=>∃I h1 w,t=⟨I,[],h1⟩/\aj h h1/\bD 62 2 (aH h.next) h1 w (dv (r.take i))/\I.gt 1=f/\I.gt 5=w/\I.gt 8=v/\I.gt 9=.ad (aV.length:Nat)/\I.gt 10=.ad (i:Nat)) ?_ ?_ (dk _) ⟨_,_,.al,rfl,an,.nil _ _ _ _,?_,?_,?_,?_,?_⟩
 ·rintro i t ai ⟨I,h1,w,rfl,aB,dt,f1,bu,cQ,dm,ew⟩;have bW:=aB.bx;have dx:aj a h1:=g.aG aB;obtain⟨x,ab⟩:=bI ai;obtain⟨y,ax⟩:=bI (l:=r) (i:=i) (by omega);have ck:i<(cI aV).length:=by rw[dL];exact ai
  have ay:((i:Int)<(aV.length:Int)):=by omega
  have m1:=aE i x y ab ax;have bs:g6 62 2 1 [.ad 0,.bool false] [(0,2,.agg [.ad y.1,.bool y.2])]=some (.af [.ad y.1,.bool y.2] 62,fun f=>.ag f 0 0 1 2 (some 1)):=rfl;have e0:aj h1 (cg m1 h1 an):=an;have ee:bB ((cg m1 h1 an).new (.af [.ad y.1,.bool y.2] 62)) (.ag (cg m1 h1 an).next 0 0 1 2 (some 1)) 2 (dv [y]):=⟨fun e he=>by simp[dv]at he;subst he;rfl,.inr ⟨_,0,0,some 1,rfl,_,rm ef (a1 _) (a1 _),by simp[dv],by simp[dv]⟩⟩
  obtain⟨eU,az,bO,iH,et⟩:=uh (bytes:=16) (dt.aO (aa:=(cg m1 h1 an).new (.af [.ad y.1,.bool y.2] 62)) an) ee (by have:=(aB.aG e0).g.next;rw[fF,gu];omega) (by simp only[c9,el,eG,eJ];omega) (by simp only[c9,el,eG,eJ];omega);simp only[go_sem,seval,f1,bu,cQ,dm,ew,ay,s.addr ck,s.bM (jc ab),m1.cl,bs,bO,cG (show i<9223372036854775807 by omega)];refine⟨_,_,eU,rfl,et.aO h (a1 _),?_,by simp only[go_sem,seval,f1],by simp only[go_sem,seval],by simp only[go_sem,seval,cQ],by simp only[go_sem,seval,dm],by simp only[go_sem,seval]⟩;have e:dv (r.take i)++dv [y]=dv (r.take (i+1)):=by rw[mU,ax];simp[dv]
  rwa[<-e]
 ·rintro t ⟨I,h1,w,rfl,aB,dt,f1,bu,cQ,dm,ew⟩;have bW:=aB.bx;have ay:¬((aV.length:Int)<(aV.length:Int)):=by omega
  rw[kM (by omega)]at dt;simp only[go_sem,seval,bu,dm,ew,ay];exact dt.mono g.g.next
 all_goals simp only[go_sem,seval]
theorem Y7{l:List Int}(h:cm l=0):∀x∈l,x=0:=by
 induction l with
 |nil=>intro x ab;cases ab
 |cons e l ih=>
  unfold cm at h;by_cases he:e=0
  ·rw[bl he]at h;intro x ab;rcases List.mem_cons.1 ab with q|q
   ·rw[q];exact he
   ·exact ih h x q
  ·rw[bf he]at h;exact absurd h he
theorem an3{t:List bb}{bt:List Nat}:∀(l:List bb) (i:Nat),np t bt i l=0->∀(j:Nat) (n:bb),l[j]?=some n->mB t bt (i+j) n=0
 |[],_,_,j,n,aq=>by simp at aq
 |m::l,i,h,j,n,aq=>by
  unfold np at h;by_cases he:mB t bt i m=0
  ·rw[bl he]at h;cases j with
   |zero=>simp at aq;subst aq;exact he
   |succ j=>
    have:=an3 l (i+1) h j n (by simpa using aq);rwa[show i+1+j=i+(j+1) by omega]at this
  ·rw[bf he]at h;exact absurd h he
structure DW(t:List bb):Prop where
 ne:0<t.length
 node:∀(i:Nat) (n:bb),t[i]?=some n->mB t (dN t []) i n=0
theorem yg{t:List bb}(h:hQ t=0):DW t:=by
 unfold hQ at h;by_cases av:t.length=0
 ·rw[bl av]at h;cases h
 ·rw[bf av]at h;by_cases h1:2000<t.length
  ·rw[bl h1]at h;cases h
  ·rw[bf h1]at h;by_cases ae:np t (dN t []) 0 t≠0
   ·rw[bl ae]at h;exact absurd h ae
   ·refine⟨by omega,fun i n e=>?_⟩;have:=an3 t 0 (by simpa using ae) i n e;rwa[eH]at this
theorem DW.ok{t:List bb}(r:DW t)(i:Nat): pI t i:=fun n e=>by
 have:=Y7 (r.node i n e) (cd (!ordered (dN t []) i n) 9) (by simp);unfold cd at this;cases a6:ordered (dN t []) i n with
 |true=>rfl
 |false=>rw[a6]at this;simp at this
theorem DW.shape{t:List bb}(r:DW t){i:Nat}{n:bb}(e:t[i]?=some n):Form.shape n=true:=by
 have:=Y7 (r.node i n e) (cd (!Form.shape n) 2) (by simp);unfold cd at this;cases a6:Form.shape n with
 |true=>rfl
 |false=>rw[a6]at this;simp at this
theorem ax6(hP:ta J)(dP:s4 J a){v:V}{t:List bb}{S W:Nat->V}[bP:aK a](aU:fc a v t S W)(au:t.length<1000000)(aA:r4 t)(bp:hQ t=0){k:Nat}(hk:k<t.length):
  cJ J a 403 [v,.ad (k:Nat)] (fun w h=>∃f cP cy,w=.bk [.ag f 0 0 (lM t k).length 5 (some (lM t k).length),.ad 0]/\xb (aH a.next) h f (lM t k) cP cy):=by
 refine cJ.bE ak.aik rfl fun h ca g=>?_;have c1:=S9 (J:=J) hP dP aU au aA;rw[bp]at c1;have af:=fun b e=>Gd (J:=J) (a:=a) b e;have r:=yg bp;have fa:¬((k:Int)<0):=by omega
 have B6:¬((t.length:Int)<=(k:Int)):=by omega
 have cs:=ax3 (J:=J) aU au hk (fun j _=>r.ok j);simp only[aij,go_sem,seval,c1.cl,fa,B6,aU.ag.a2,gj,(af _ _).cl,Qs,cd,cm];refine cs.run fun w ae aY c3 dX=>?_;obtain⟨f,cP,cy,rfl,kR⟩:=dX;have ey:aj h ae:=aj.aG an aY;simp only[go_sem,seval];exact⟨f,cP,cy,rfl,kR⟩
theorem ax7(hP:ta J)(dP:s4 J a){v:V}{t:List bb}{S W:Nat->V}[bP:aK a](aU:fc a v t S W)(au:t.length<1000000)(aA:r4 t)(bp:hQ t=0){k:Nat}(hk:k<t.length):
  cJ J a 302 [v,.ad (k:Nat)] (fun w h=>∃f cP cy,w=.ag f 0 0 (lM t k).length 5 (some (lM t k).length)/\xb (aH a.next) h f (lM t k) cP cy):=by
 refine cJ.bE ak.ahE rfl fun h ca g=>?_;simp only[ahD,go_sem,seval];refine(ax6 (J:=J) hP dP aU au aA bp hk).run fun w ae aY c3 dX=>?_;obtain⟨f,cP,cy,rfl,kR⟩:=dX;have ey:aj h ae:=aj.aG an aY;simp only[go_sem,seval];exact⟨f,cP,cy,rfl,kR⟩
theorem xb.fR{T b:Nat}{f:P}{t:List bb}{S W:Nat->V}(h1:90≠T)(ae:3≠T)(az:232≠T):gH T (fun h=>xb b h f t S W):=by
 have q:=(aEh (f:=f) (cV:=(ed S W 0 t).flatten) (nK:=0) (r1:=0) (md:=.rw) h1).and ((gH.all (T:=T) fun(i:Nat)=>gH.all fun(n:bb)=>gH.imp (p:=t[i]?=some n) fun _=>(bD.fR (es:=1) (b:=b) (v:=W i) (l:=dH n.kids) ae)).and (gH.all (T:=T) fun(i:Nat)=>gH.all fun(n:bb)=>gH.imp (p:=t[i]?=some n) fun _=>(bD.fR (es:=2) (b:=b) (v:=S i) (l:=hi n.vars) az)))
 refine⟨fun h aa k g o=>?_,fun h aa g xs v d k e u o=>?_⟩
 ·obtain⟨e5,cO,c5⟩:=q.kB h aa k g ⟨o.nodes,fun i n e=>(o.hJ i n e).1,fun i n e=>(o.var i n e).1⟩;exact⟨e5,o.Cm,fun i n e=>⟨cO i n e,(o.hJ i n e).2⟩,fun i n e=>⟨c5 i n e,(o.var i n e).2⟩,o.Js,o.Jt⟩
 ·obtain⟨e5,cO,c5⟩:=q.up h aa g xs v d k e u ⟨o.nodes,fun i n e=>(o.hJ i n e).1,fun i n e=>(o.var i n e).1⟩;exact⟨e5,o.Cm,fun i n e=>⟨cO i n e,(o.hJ i n e).2⟩,fun i n e=>⟨c5 i n e,(o.var i n e).2⟩,o.Js,o.Jt⟩
def xL(b:Nat)(h:H)(w:V)(t:List bb):Prop:=∃f S W,w=.ag f 0 0 t.length 5 (some t.length)/\xb b h f t S W
theorem xL.fR{T b:Nat}{w:V}{t:List bb}(h1:90≠T)(ae:3≠T)(az:232≠T):gH T (fun h=>xL b h w t):=gH.ex fun f=>gH.ex fun S=>gH.ex fun W=>(gH.pure _).and (xb.fR h1 ae az)
theorem xL.cell{b:Nat}{h:H}{w:V}{t:List bb}(o:xL b h w t):w.cells=[w]:=by obtain⟨f,S,W,rfl,_⟩:=o;rfl
theorem xL.aU{b:Nat}{h:H}{w:V}{t:List bb}(o:xL b h w t)(ah:∀n∈t,n.vars.length<1000000/\n.kids.length<1000000):∃S W,fc h w t S W:=by
 obtain⟨f,S,W,rfl,kR⟩:=o;exact⟨S,W,kR.aU ah _ (fun x e=>by cases e;exact a1 _)⟩
def q0(t:List bb):Prop:=∀n∈t,n.vars.length<1000000/\n.kids.length<1000000
theorem fc.b{h:H}{v:V}{t:List bb}{S W:Nat->V}(aU:fc h v t S W):q0 t:=fun n aq=>by
 obtain⟨i,ai⟩:=List.mem_iff_getElem?.1 aq;exact⟨(aU.row i n ai).hF,(aU.row i n ai).ki⟩
theorem q0.sub{t:List bb}(b:q0 t)(k:Nat):q0 (lM t k):=fun n aq=>by
 rw[G9]at aq;obtain⟨m,hm,rfl⟩:=List.mem_map.1 aq;have:=b m (wN (wO hm));exact⟨this.1,by simpa[Bg]using this.2⟩
theorem anc{t:List bb}{k:Nat}(hk:k<t.length):(lM t k).length<=t.length:=by
 rw[G9,eQ,el,jG];omega
theorem ax8(hP:ta J)(dP:s4 J a){v:V}{t:List bb}{S W:Nat->V}[bP:aK a](aU:fc a v t S W)(au:t.length<1000000)(aA:r4 t)(bp:hQ t=0){b:P}{ty:TypeId}(ah:a.get b=some (.af [v] ty)){k:Nat}(hk:k<t.length):
  mY J a (.fn (.func 348) [] [.ptr b 0 0 1]) [.ad (k:Nat)] (fun w h=>xL (aH a.next) h w (lM t k)):=by
 refine mY.bE ak.ah5 rfl fun h ca g=>?_;have dr:=g.at ah;have cL:=aP dr;have ld:ec (some (.af [v] ty)) false 1 0 0 1=some v:=rfl;simp only[ah4,go_sem,seval,dr,ld];refine(ax7 (J:=J) hP dP aU au aA bp hk).run fun w ae aY c3 dX=>?_;obtain⟨f,cP,cy,rfl,kR⟩:=dX;simp only[go_sem,seval];exact⟨f,cP,cy,rfl,kR⟩
theorem ax9(hP:ta J)(dP:s4 J a){v:V}{t:List bb}{S W:Nat->V}[bP:aK a](aU:fc a v t S W)(au:t.length<1000000)(aA:r4 t)(bp:hQ t=0):
  cJ J a 233 [v] (fun w h=>∃Y,bB h w 1 (cI (dT Y (i1 t).length))/\om w/\∀i k,(i1 t)[i]?=some k->xL (aH a.next) h (Y i) (lM t k.toNat)):=by
 refine cJ.bE ak.ag0 rfl fun h ca g=>?_;have r:=yg bp;obtain⟨n,aq⟩:=bI (l:=t) (i:=t.length-1) (by have:=r.ne;omega);have e:i1 t=n.kids:=by unfold i1;rw[aq];rfl
 have cl:=Jp (J:=J) aU au aq;obtain⟨H1,cR⟩:∃H:H,H=cg cl (h.new (.af [v] 52)) an:=⟨_,rfl⟩;have bW:aK H1:=by rw[cR];exact an
 have aB:aj h H1:=by rw[cR];exact an
 have dx:aj a H1:=g.aG aB;have Nx:=aU.aO bP.ok dx;have H8:=Nx.row (t.length-1) n aq;have HK:H1.get h.next=some (.af [v] 52):=by rw[cR,bQ];exact ef
 have Z8:=H8.kids;rw[Hp]at Z8;have rZ:=(r.ok (t.length-1)).hJ aq;have lb:=ax4 (J:=J) (f:=.fn (.func 348) [] [.ptr h.next 0 0 1]) Z8 (by rw[eQ];have:=H8.ki;omega) (fun i w h=>w.cells=[w]/\∀k:Int,n.kids[i]?=some k->xL (aH H1.next) h w (lM t k.toNat))
  (fun i w=>(gH.pure _).and (gH.all fun k=>gH.imp fun _=>xL.fR (by decide) (by decide) (by decide))) (fun i w h q=>q.1) (fun i x ab=>by
   rw[ij]at ab;cases aM:n.kids[i]? with
   |none=>rw[aM]at ab;cases ab
   |some k=>
    rw[aM]at ab;cases ab;obtain⟨fa,atd⟩:=rZ k (c0 aM);obtain⟨m,rfl⟩:∃m:Nat,k=m:=⟨k.toNat,by omega⟩;refine(ax8 (J:=J) hP (fun s aA=>(dP s aA).mono dx) Nx au aA bp HK (k:=m) (by omega)).imp fun w h q=>⟨q.cell,fun ch e=>?_⟩;cases e;exact q)
 rw[eQ]at lb;simp only[agZ,go_sem,seval,aU.ag.box,cl.cl,eW];simp only[<-cR];have fL:wj 52 1 v=some (.af [v] 52,fun f=>.ptr f 0 0 1):=aU.ag.box _;refine lb.run fun w ae aY c3 dX=>?_;obtain⟨Y,dt,jX⟩:=dX;have s:=dt.ag;have c:=dt.cap;have ey:aj h ae:=aB.aG aY;simp only[go_sem,seval];rw[e];refine⟨Y,s,c,fun i k hk=>?_⟩;have ai:i<n.kids.length:=by
  rcases dz i n.kids.length with q|q
  ·exact q
  ·rw[ei q]at hk;cases hk
 obtain⟨f,cP,cy,aN,kR⟩:=(jX i ai).2 k hk;exact⟨f,cP,cy,aN,⟨kR.nodes,iK dx.g.next kR.Cm,fun i n e=>⟨(kR.hJ i n e).1.mono dx.g.next,(kR.hJ i n e).2⟩,fun i n e=>⟨(kR.var i n e).1.mono dx.g.next,(kR.var i n e).2⟩,kR.Js,kR.Jt⟩⟩
theorem an4(u:List bb):∀(l:List (List bb)) (i:Nat),mc l u i=r0 (l.map fun x=>lR x u) i
 |[],_=>rfl
 |x::l,i=>by
  unfold mc;rw[an4 u l (i+1)];rfl
theorem aya{v w:V}{t u:List bb}{S W cP cy:Nat->V}[bP:aK a](aU:fc a v t S W)(xc:fc a w u cP cy)(au:t.length<1000000){b:P}{ty:TypeId}(ah:a.get b=some (.af [w] ty)):gp J a (.fn (.func 349) [] [.ptr b 0 0 1]) [v] (.bool (lR t u)):=by
 refine gp.bE ak.ah7 rfl fun h ca g=>?_;have dr:=g.at ah;have cL:=aP dr;have ld:ec (some (.af [w] ty)) false 1 0 0 1=some w:=rfl;simp only[ah6,go_sem,seval,dr,ld,(axN (J:=J) aU xc (by omega)).cl]
theorem ayb{bg aF w:V}{l:List (List bb)}{u:List bb}{Y:Nat->V}{S W:Nat->Nat->V}{cP cy:Nat->V}[bP:aK a](r:sO a l bg Y S W)(xc:fc a w u cP cy)(au:l.length<1000000)(oN:∀t∈l,t.length<1000000):aS J a 236 [.agg [bg,aF],w] (.ad (mc l u 0)):=by
 refine aS.bE ak.ag6 rfl fun h ca g=>?_;obtain⟨eb,ff⟩:∃H:H,H=(h.new (.af [bg,aF] 25)).new (.af [w] 52):=⟨_,rfl⟩;have c3:aK eb:=by rw[ff];exact an
 have aY:aj h eb:=by rw[ff];exact an
 have iW:aj a eb:=g.aG aY;have HK:eb.get (h.new (.af [bg,aF] 25)).next=some (.af [w] 52):=by rw[ff];exact ef
 have dX:=r.aO bP.ok iW;have ate:=xc.aO bP.ok iW;have ci:=amp (J:=J) (g:=259) (f:=.fn (.func 349) [] [.ptr (h.new (.af [bg,aF] 25)).next 0 0 1]) ak.VJ.1 ak.VJ.2 dX.ag (by rw[d4];omega) (l.map fun x=>lR x u) (by rw[eQ,d4]) (fun i x b ab ah=>by
  rw[ij]at ah;cases aM:l[i]? with
  |none=>rw[aM]at ah;cases ah
  |some t=>
   rw[aM]at ah;cases ah;have ai:i<l.length:=by
    rcases dz i l.length with q|q
    ·exact q
    ·rw[ei q]at aM;cases aM
   rw[kx Y ai]at ab;cases ab;exact aya (dX.row i t aM) ate (oN t (c0 aM)) HK)
 rw[<-an4]at ci;have lI:∀f:P,hM 0 1 (.ptr f 0 0 2)=some (.ptr f 0 0 1):=fun _=>rfl;have oe:∀(x y:V) (ty:TypeId),ec (some (.af [x,y] ty)) false 1 0 0 1=some x:=fun _ _ _=>rfl;simp only[ag5,go_sem,seval,xc.ag.box,lI,oe];simp only[<-ff];simp only[go_sem,seval,ci.cl]
theorem ayc{bg aF w:V}{l:List (List bb)}{u:List bb}{Y:Nat->V}{S W:Nat->Nat->V}{cP cy:Nat->V}[bP:aK a](r:sO a l bg Y S W)(xc:fc a w u cP cy)(au:l.length<1000000)(oN:∀t∈l,t.length<1000000){b:P}{ty:TypeId}(ah:a.get b=some (.af [bg,aF] ty)):gp J a (.fn (.func 235) [] [.ptr b 0 0 2]) [w] (.ad (mc l u 0)):=by
 refine gp.bE ak.ag4 rfl fun h ca g=>?_;have dr:=g.at ah;have cL:=aP dr;have ld:ec (some (.af [bg,aF] ty)) true 2 0 0 2=some (.agg [bg,aF]):=rfl;simp only[ag3,go_sem,seval,dr,ld,(ayb (J:=J) r xc au oN).cl]
theorem ajM(x:Int):jQ [.ad 0,.bool false] [(0,1,.ad x)]=some (.agg [.ad x,.bool false]):=rfl
theorem KY(x:Int)(b:Bool):jQ [.ad 0,.bool false] [(0,1,.ad x),(1,1,.bool b)]=some (.agg [.ad x,.bool b]):=rfl
theorem Ny(h:H)(f:P)(x:Int)(b:Bool)(ty:TypeId):fz (some (.af [.ad 0,.bool false] ty)) h f 2 0 0 2 (.agg [.ad x,.bool b])=some (.bk [],h.set f (.af [.ad x,.bool b] ty)):=rfl
theorem mr(x y:V)(ty:TypeId):ec (some (.af [x,y] ty)) true 2 0 0 2=some (.agg [x,y]):=rfl
theorem ayd(x:Int):aS J a 237 [.ad x] (rX (x,false)):=by
 refine aS.bE ak.ag8 rfl fun h ca g=>?_;simp only[ag7,go_sem,seval,ajM,Ny,mr]
theorem aye(x:Int):aS J a 238 [.ad x] (rX (x,true)):=by
 refine aS.bE ak.aha rfl fun h ca g=>?_;simp only[ag9,go_sem,seval,KY,Ny,mr]
def pn(h:H)(w:V)(cs:List (List b1)):Prop:=∃Y,bB h w 1 (cI (dT Y cs.length))/\∀i c,cs[i]?=some c->bB h (Y i) 2 (dv c)
theorem ane(aF:List V):dT (fun i=>(aF[i]?).getD .fO) aF.length=aF:=by
 apply D5;intro i;unfold dT;by_cases h:i<aF.length
 ·simp[h]
 ·simp[ei (BA h)];omega
theorem Ht{h:H}{f:P}{aF:List V}{ty:TypeId}(e:h.get f=some (.af aF ty)){n:Nat}(aq:aF.length=n)(c:Option Nat):bB h (.ag f 0 0 n 1 c) 1 (cI aF):=by
 subst aq;have yL:(cI aF).flatten=aF:=by
  clear e
  induction aF with
  |nil=>rfl
  |cons v aF ih=>
   show[v]++(cI aF).flatten=_;rw[ih];rfl
 refine⟨fun e he=>by simp[cI]at he;obtain⟨x,_,rfl⟩:=he;rfl,.inr ⟨f,0,0,c,by rw[dL],_,rm e (a1 _) (a1 _),by rw[yL];omega,?_⟩⟩;rw[yL,iL];exact kM (a1 _)
theorem Wi{h:H}{f:P}{aF:List V}{cs:List (List b1)}{ty:TypeId}(e:h.get f=some (.af aF ty)){n:Nat}(aq:aF.length=n)(au:cs.length=n)(c:Option Nat)(aJ:∀(i:Nat) (v:V) (x:List b1),aF[i]?=some v->cs[i]?=some x->bB h v 2 (dv x)): pn h (.ag f 0 0 n 1 c) cs:=by
 refine⟨fun i=>(aF[i]?).getD .fO,?_,fun i x ab=>?_⟩
 ·have:=Ht e aq c;rw[au,<-aq,ane];rw[aq];exact this
 ·have ai:i<aF.length:=by
   rcases dz i cs.length with q|q
   ·omega
   ·rw[ei q]at ab;cases ab
  obtain⟨v,ar⟩:=bI ai;have:=aJ i v x ar ab;simp only[ar,hC];exact this
theorem LQ(c:List b1):iU 2 (dv c):=fun e he=>by
 unfold dv at he;obtain⟨x,_,rfl⟩:=List.mem_map.1 he;rfl
theorem iY{h:H}{f:P}{c:List b1}{ty:TypeId}(e:h.get f=some (.cells (dv c).flatten 0 0 .rw ty)){n:Nat}(aq:c.length=n)(iD:Option Nat):bB h (.ag f 0 0 n 2 iD) 2 (dv c):=by
 subst aq;refine⟨LQ c,.inr ⟨f,0,0,iD,by rw[c9],_,rm e (a1 _) (a1 _),by omega,?_⟩⟩;rw[iL];exact kM (a1 _)
theorem j7(x:Int)(b:Bool)(ty:Nat):g6 ty 2 1 [.ad 0,.bool false] [(0,2,.agg [.ad x,.bool b])]=some (.af [.ad x,.bool b] ty,fun f=>.ag f 0 0 1 2 (some 1)):=rfl
theorem lJ(x y:Int)(b c:Bool)(ty:Nat):g6 ty 2 2 [.ad 0,.bool false] [(0,2,.agg [.ad x,.bool b]),(2,2,.agg [.ad y,.bool c])]=some (.af [.ad x,.bool b,.ad y,.bool c] ty,fun f=>.ag f 0 0 2 2 (some 2)):=rfl
theorem l4(x y z:Int)(b c d:Bool)(ty:Nat):g6 ty 2 3 [.ad 0,.bool false] [(0,2,.agg [.ad x,.bool b]),(2,2,.agg [.ad y,.bool c]),(4,2,.agg [.ad z,.bool d])]=some (.af [.ad x,.bool b,.ad y,.bool c,.ad z,.bool d] ty,fun f=>.ag f 0 0 3 2 (some 3)):=rfl
theorem l5(f:P)(n es:Nat)(c:Option Nat)(ty:Nat):g6 ty 1 1 [.al] [(0,1,.ag f 0 0 n es c)]=some (.af [.ag f 0 0 n es c] ty,fun f=>.ag f 0 0 1 1 (some 1)):=rfl
theorem mu(f g:P)(n m es jA:Nat)(c d:Option Nat)(ty:Nat):g6 ty 1 2 [.al] [(0,1,.ag f 0 0 n es c),(1,1,.ag g 0 0 m jA d)]=some (.af [.ag f 0 0 n es c,.ag g 0 0 m jA d] ty,fun f=>.ag f 0 0 2 1 (some 2)):=rfl
theorem mv(bq f1 cq:P)(gq iO iP bA aN bd:Nat)(mh c1 c2:Option Nat)(ty:Nat):g6 ty 1 3 [.al] [(0,1,.ag bq 0 0 gq bA mh),(1,1,.ag f1 0 0 iO aN c1),(2,1,.ag cq 0 0 iP bd c2)]=some (.af [.ag bq 0 0 gq bA mh,.ag f1 0 0 iO aN c1,.ag cq 0 0 iP bd c2] ty,fun f=>.ag f 0 0 3 1 (some 3)):=rfl
theorem l6(bq f1 cq aR:P)(gq iO iP ER bA aN bd bO:Nat)(mh c1 c2 dF:Option Nat)(ty:Nat):g6 ty 1 4 [.al] [(0,1,.ag bq 0 0 gq bA mh),(1,1,.ag f1 0 0 iO aN c1),(2,1,.ag cq 0 0 iP bd c2),(3,1,.ag aR 0 0 ER bO dF)]=some (.af [.ag bq 0 0 gq bA mh,.ag f1 0 0 iO aN c1,.ag cq 0 0 iP bd c2,.ag aR 0 0 ER bO dF] ty,fun f=>.ag f 0 0 4 1 (some 4)):=rfl
theorem ls(g:FuncId):V.same (.fn (.func g) [] []) (.fn (.func g) [] [])=true:=by
 have:V.same (.fn (.func g) [] []) (.fn (.func g) [] [])=(decide (Fn.func g=Fn.func g)&&V.py [] []&&V.py [] []):=rfl;rw[this];simp[Yh]
theorem akV{g:FuncId}(dw:J.funcs g=some VE)(aA:∀args h,J.spec g args h=none){cB bU bC:P}{aB aY:FuncId}{iO iP:Bool}{m:Int}{fk k6 Cn:TypeId}[bP:aK a](aN:a.get cB=some (.af [.fn (.func aB) [] []] fk))(bd:a.get bU=some (.af [.ad m] k6))(bO:a.get bC=some (.af [.fn (.func aY) [] []] Cn))
  (c1:∀x:Int,aS J a aB [.ad x] (rX (x,iO))) (c2:∀x:Int,aS J a aY [.ad x] (rX (x,iP))) (x:Int):mY J a (.fn (.func g) [] [.ptr cB 0 0 1,.ptr bU 0 0 1,.ptr bC 0 0 1]) [.ad x] (fun w h=>bD 62 2 (aH a.next) h w (dv [(m,iO),(x,iP)])):=by
 refine mY.mk (fun h=>aA _ h) dw rfl fun h ca bR=>?_;have bj:=bR.at aN;have a8:=bR.at bd;have cc:=bR.at bO;have fZ:=aP bj;have dD:=aP a8;have gx:=aP cc;have cY:∀(v:V) (ty:TypeId),ec (some (.af [v] ty)) false 1 0 0 1=some v:=fun _ _=>rfl;simp only[VE,go_sem,seval,bj,a8,cc,cY,(c1 _).bL,(c2 _).bL,bQ,ls,lJ];refine .inr ⟨_,0,0,some 2,rfl,?_,?_⟩
 ·have ap1:aj a (cg (c2 x) (cg (c1 m) h an) an):=an;exact ap1.g.next
 ·exact⟨LQ _,_,0,ef,a1 _,rfl,by simp[dv],rfl,fun c e=>by cases e;simp[dv]⟩
theorem an5(t:List bb):(ku t).length=(i1 t).length:=by simp[ku]
theorem DW.op{t:List bb}(r:DW t){i:Nat}{n:bb}(e:t[i]?=some n):∃o:Nat,n.op=o/\o<20:=by
 have:=Y7 (r.node i n e) (cd (decide (n.op<0)||decide (20<=n.op)) 11) (by simp);unfold cd at this;by_cases h1:n.op<0
 ·simp[h1]at this
 ·by_cases ae:20<=n.op
  ·simp[ae]at this
  ·exact⟨n.op.toNat,by omega,by omega⟩
theorem ayf(hP:ta J)(dP:s4 J a)[bP:aK a]{p:Form.jh}{bg aF:V}{Y:Nat->V}{S W:Nat->Nat->V}(r:sO a p.atoms bg Y S W)(au: p.atoms.length<1000000)(oN:∀t∈p.atoms,t.length<1000000/\r4 t)(y8:∀t∈p.atoms,hQ t=0){m:Nat}(hm:m<p.atoms.length):
  cJ J a 111 [.agg [bg,aF],.ad (m:Nat)] (fun w h=>pn h w (candidates p m)):=by
 refine cJ.bE ak.af1 rfl fun h ca g=>?_;obtain⟨t,bp⟩:=bI hm;have C9:=c0 bp;obtain⟨kk,xH⟩:=oN t C9;have Ju:=y8 t C9;have R:=yg Ju;have aU:=r.row m t bp;obtain⟨n,aq⟩:=bI (l:=t) (i:=t.length-1) (by have:=R.ne;omega);have tX:i1 t=n.kids:=by unfold i1;rw[aq];rfl
 have iV:mR t=n.op:=by unfold mR q8;rw[show((t.length-1:Nat):Int).toNat=t.length-1 by omega,aq];rfl
 have rZ:=(R.ok (t.length-1)).hJ aq;have kc:=R.shape aq;obtain⟨o,a6,lO⟩:=R.op aq;have Tl:=aU.b;have xI:=Jp (J:=J) aU kk aq;have lI:∀f:P,hM 0 1 (.ptr f 0 0 2)=some (.ptr f 0 0 1):=fun _=>rfl;have oe:∀(x y:V) (ty:TypeId),ec (some (.af [x,y] ty)) false 1 0 0 1=some x:=fun _ _ _=>rfl;have cY:∀(v:V) (ty:TypeId),ec (some (.af [v] ty)) false 1 0 0 1=some v:=fun _ _=>rfl;have mq:∀(h:H) (f:P) (c:List V),c.length=5->fz (some (.af [.ad 0,.str [],.str [],.al,.al] 90)) h f 5 0 0 5 (.agg c)=some (.bk [],h.set f (.af c 90)):=fun h f c U=>pL _ _ _ _ 5 5 (a1 _) (.agg c) U rfl;obtain⟨bU,e8⟩:∃b:P,b=h.next:=⟨_,rfl⟩
 obtain⟨bC,fW⟩:∃b:P,b=(h.new (.af [bg,aF] 25)).next:=⟨_,rfl⟩
 obtain⟨cM,hB⟩:∃b:P,b=(cg xI ((h.new (.af [bg,aF] 25)).new (.af [.ad (m:Nat)] 3)) an).next:=⟨_,rfl⟩
 obtain⟨H1,cR⟩:∃H:H,H=(cg xI ((h.new (.af [bg,aF] 25)).new (.af [.ad (m:Nat)] 3)) an).new (.af [.ad n.op,.str n.sort,.str n.name,S m (t.length-1),W m (t.length-1)] 90):=⟨_,rfl⟩
 have bW:aK H1:=by rw[cR];exact an
 have aB:aj h H1:=by rw[cR];exact an
 have dx:aj a H1:=g.aG aB;have a8:H1.get bU=some (.af [bg,aF] 25):=by rw[cR,e8];simp only[go_sem,seval,bQ]
 have cc:H1.get bC=some (.af [.ad (m:Nat)] 3):=by rw[cR,fW];simp only[go_sem,seval,bQ]
 have dn:H1.get cM=some (.af [.ad n.op,.str n.sort,.str n.name,S m (t.length-1),W m (t.length-1)] 90):=by rw[cR,hB];exact ef
 have dD:=aP a8;have gx:=aP cc;have g9:=aP dn;have Nx:=aU.aO bP.ok dx;have je:=r.aO bP.ok dx;have lk:m<(cI (dT Y p.atoms.length)).length:=by rw[dL,d4];exact hm
 have uG:=ax9 (J:=J) hP (fun s aA=>(dP s aA).mono dx) Nx kk xH Ju;simp only[af0,go_sem,seval,lI,oe,r.ag.addr lk,r.ag.bM (jc (kx Y hm)),xI.cl,eW,mq];simp only[<-e8,<-fW,<-hB];simp only[<-cR];refine uG.run fun yy ae aY c3 dX=>?_;obtain⟨Co,CZ,aQu,jX⟩:=dX;have y9:aj h ae:=aB.aG aY;have iW:aj a ae:=dx.aG aY;have kC:=aY.dW;have cO:=(aY.gt bU).trans a8;have dX:=r.aO bP.ok iW;have adf:∀i k,(i1 t)[i]?=some k->∃S W,fc ae (Co i) (lM t k.toNat) S W:=fun i k e=>(jX i k e).aU (Tl.sub _);obtain⟨K,mG⟩:∃K:List Int,K=(ku t).map fun u=>mc p.atoms u 0:=⟨_,rfl⟩;have Nz:K.length=n.kids.length:=by rw[mG,eQ,an5,tX]
 have Jv:n.kids.length<1000000:=(aU.row _ n aq).ki;have lb:=ax5 (J:=J) (f:=.fn (.func 235) [] [.ptr bU 0 0 2]) CZ (by rw[d4,tX];exact Jv) K (by rw[Nz,d4,tX]) (fun i x y ab ax=>by
  have ai:i<(i1 t).length:=by
   rcases dz i (i1 t).length with q|q
   ·exact q
   ·rw[ei (by rw[d4];exact q)]at ab;cases ab
  obtain⟨k,hk⟩:=bI ai;rw[kx Co ai]at ab;cases ab;obtain⟨cP,cy,vG⟩:=adf i k hk;have Ri:y=mc p.atoms (lM t k.toNat) 0:=by
   rw[mG,ij,ku,ij,hk]at ax;cases ax;rfl
  subst Ri;exact ayc dX vG au (fun u hu=>(oN u hu).1) cO)
 simp only[go_sem,seval];refine lb.run fun ny az b4 fo acy=>?_;have xM:aj h az:=y9.aG b4;have pk:aj a az:=iW.aG b4;have oO:aj H1 az:=aY.aG b4;have vC:=oO.dW;obtain⟨j2,tV⟩:∃b:P,b=az.next:=⟨_,rfl⟩
 obtain⟨la,C0⟩:∃b:P,b=(az.new (.af [.fn (.func 237) [] []] 101)).next:=⟨_,rfl⟩
 obtain⟨e6,jD⟩:∃H:H,H=(az.new (.af [.fn (.func 237) [] []] 101)).new (.af [.fn (.func 238) [] []] 101):=⟨_,rfl⟩;have mE:aK e6:=by rw[jD];exact an
 have qb:aj az e6:=by rw[jD];exact an
 have eE:aj h e6:=xM.aG qb;have Ni:aj a e6:=pk.aG qb;have Z7:=qb.dW;have hb:=(oO.gt cM).trans dn;have hS:=((oO.aG qb).gt bC).trans cc
 have gY:=((oO.aG qb).gt cM).trans dn
 have hs:e6.get j2=some (.af [.fn (.func 237) [] []] 101):=by rw[jD,tV];simp only[go_sem,seval]
 have hI:e6.get la=some (.af [.fn (.func 238) [] []] 101):=by rw[jD,C0];simp only[go_sem,seval]
 have ux:=aP hS;have Cc:=aP gY;have apN:=aP hs;have aMM:=aP hI;have ic:bB e6 ny 1 (dH K):=acy.ag.aO fo.ok qb;have eL:=fun x:Int=>ayd (J:=J) (a:=e6) x;have ep:=fun x:Int=>aye (J:=J) (a:=e6) x;have lp:∀f:P,hM 0 1 (.ptr f 0 0 5)=some (.ptr f 0 0 1):=fun _=>rfl;have kj:∀(b7 bG ct dR lZ:V) (ty:TypeId),ec (some (.af [b7,bG,ct,dR,lZ] ty)) false 1 0 0 1=some b7:=fun _ _ _ _ _ _=>rfl;have atf:∀(h:H) (f:P) (g:FuncId),fz (some (.af [.lK] 101)) h f 1 0 0 1 (.fn (.func g) [] [])=some (.bk [],h.set f (.af [.fn (.func g) [] []] 101)):=fun _ _ _=>rfl;have aE:(p.atoms[m]?).getD []=t:=by rw[bp];rfl
 have fin:∀{aX:H} {f:P} {aF:List V} {cs:List (List b1)} {k:Nat},aX.get f=some (.af aF 43) ->aF.length=k->cs.length=k->(∀(i:Nat) (v:V) (x:List b1),aF[i]?=some v->cs[i]?=some x->bB aX v 2 (dv x)) ->candidates p m=cs->pn aX (.ag f 0 0 k 1 (some k)) (candidates p m):=fun e h1 ae az bo=>by rw[bo];exact Wi e h1 ae _ az
 simp only[go_sem,seval,atf];simp only[<-tV,<-C0];simp only[<-jD];have hK:o=0\/o=1\/o=2\/o=3\/o=4\/o=5\/o=6\/o=7\/o=8\/o=9\/o=10\/o=11\/o=12\/o=13\/o=14\/o=15\/o=16\/o=17\/o=18\/o=19:=by omega
 rcases hK with rfl|rfl|rfl|rfl|rfl|rfl|rfl|rfl|rfl|rfl|rfl|rfl|rfl|rfl|rfl|rfl|rfl|rfl|rfl|rfl
 ·have cw:n.op=0:=by rw[a6];rfl
  simp(config:={maxSteps:=2000000}) only[go_sem,seval,hb,hS,gY,hs,hI,lp,kj,cY,cw,(eL _).cl,(ep _).cl,(eL _).bL,(ep _).bL,bQ,ls,j7,lJ,l4,l5,mu,mv,l6];refine fin (cs:=[[((m:Int),false)]]) (by simp only[go_sem,seval,bQ];rfl) rfl rfl ?_ ?_
  ·rintro i v c ar U
   match i,ar,U with
   |0,ar,U=>cases ar;cases U;exact iY (ty:=62) (by simp only[go_sem,seval,bQ];rfl) rfl _
   |i+1,ar,U=>simp at ar
  ·unfold candidates;simp only[aE,iV,cw,<-mG,hC];simp
 ·have cw:n.op=1:=by rw[a6];rfl
  simp(config:={maxSteps:=2000000}) only[go_sem,seval,hb,hS,gY,hs,hI,lp,kj,cY,cw,(eL _).cl,(ep _).cl,(eL _).bL,(ep _).bL,bQ,ls,j7,lJ,l4,l5,mu,mv,l6];refine fin (cs:=[[((m:Int),true)]]) (by simp only[go_sem,seval,bQ];rfl) rfl rfl ?_ ?_
  ·rintro i v c ar U
   match i,ar,U with
   |0,ar,U=>cases ar;cases U;exact iY (ty:=62) (by simp only[go_sem,seval,bQ];rfl) rfl _
   |i+1,ar,U=>simp at ar
  ·unfold candidates;simp only[aE,iV,cw,<-mG,hC];simp
 ·have cw:n.op=2:=by rw[a6];rfl
  simp(config:={maxSteps:=2000000}) only[go_sem,seval,hb,hS,gY,hs,hI,lp,kj,cY,cw,(eL _).cl,(ep _).cl,(eL _).bL,(ep _).bL,bQ,ls,j7,lJ,l4,l5,mu,mv,l6];have j8:candidates p m=[]:=by
   unfold candidates;simp only[aE,iV,cw];simp
  rw[j8];exact⟨fun _=>.fO,⟨fun e he=>by simp[cI,dT]at he,.inl ⟨rfl,by simp[cI,dT]⟩⟩,fun i c U=>by simp at U⟩
 ·have cw:n.op=3:=by rw[a6];rfl
  simp(config:={maxSteps:=2000000}) only[go_sem,seval,hb,hS,gY,hs,hI,lp,kj,cY,cw,(eL _).cl,(ep _).cl,(eL _).bL,(ep _).bL,bQ,ls,j7,lJ,l4,l5,mu,mv,l6];have j8:candidates p m=[]:=by
   unfold candidates;simp only[aE,iV,cw];simp
  rw[j8];exact⟨fun _=>.fO,⟨fun e he=>by simp[cI,dT]at he,.inl ⟨rfl,by simp[cI,dT]⟩⟩,fun i c U=>by simp at U⟩
 ·have cw:n.op=4:=by rw[a6];rfl
  simp(config:={maxSteps:=2000000}) only[go_sem,seval,hb,hS,gY,hs,hI,lp,kj,cY,cw,(eL _).cl,(ep _).cl,(eL _).bL,(ep _).bL,bQ,ls,j7,lJ,l4,l5,mu,mv,l6];have j8:candidates p m=[]:=by
   unfold candidates;simp only[aE,iV,cw];simp
  rw[j8];exact⟨fun _=>.fO,⟨fun e he=>by simp[cI,dT]at he,.inl ⟨rfl,by simp[cI,dT]⟩⟩,fun i c U=>by simp at U⟩
 ·have cw:n.op=5:=by rw[a6];rfl
  have i6:n.kids.length=1:=by unfold Form.shape at kc;rw[cw]at kc;simpa using kc
  obtain⟨x,ab⟩:=bI (l:=K) (i:=0) (by omega);have qc:jP 1 ny (.ad 0)=_:=ic.addr (i:=0) (by rw[c7];omega);have qd:=ic.bM (gn ab);simp(config:={maxSteps:=2000000}) only[go_sem,seval,hb,hS,gY,hs,hI,lp,kj,cY,cw,(eL _).cl,(ep _).cl,(eL _).bL,(ep _).bL,bQ,ls,j7,lJ,l4,l5,mu,mv,l6,qc,qd];refine fin (cs:=[[((m:Int),false),(x,false)],[((m:Int),true),(x,true)]]) (by simp only[go_sem,seval,bQ];rfl) rfl rfl ?_ ?_
  ·rintro i v c ar U
   match i,ar,U with
   |0,ar,U=>cases ar;cases U;exact iY (ty:=62) (by simp only[go_sem,seval,bQ];rfl) rfl _
   |1,ar,U=>cases ar;cases U;exact iY (ty:=62) (by simp only[go_sem,seval,bQ];rfl) rfl _
   |i+2,ar,U=>simp at ar
  ·unfold candidates;simp only[aE,iV,cw,<-mG,ab,hC];simp
 ·have cw:n.op=6:=by rw[a6];rfl
  have DM:=ic;rw[Hp]at DM;have Jw:=ajK (J:=J) (f:=.fn (.func 240) [] [.ptr la 0 0 1,.ptr bC 0 0 1,.ptr j2 0 0 1]) DM (by rw[eQ];omega) (fun i w h=>w.cells=[w]/\∀k:Int,K[i]?=some k->bD 62 2 (aH e6.next) h w (dv [((m:Int),true),(k,false)]))
   (fun i w=>(gH.pure _).and (gH.all fun k=>gH.imp fun _=>bD.fR (by decide))) (fun i w h q=>q.1) (fun i x ab=>by
    rw[ij]at ab;cases aM:K[i]? with
    |none=>rw[aM]at ab;cases ab
    |some k=>
     rw[aM]at ab;cases ab;refine(akV (g:=240) (iO:=true) (iP:=false) ak.VF.1 ak.VF.2 hI hS hs ep eL k).imp fun w h q=>⟨q.ag.cell,fun ch e=>?_⟩;cases e;exact q)
  rw[eQ]at Jw;simp only[go_sem,seval,hb,hS,gY,hs,hI,lp,kj,cY,cw];refine Jw.run fun atg cb eg lX nz=>?_;obtain⟨tz,Wj,Tm⟩:=nz;have Rc:=eg.dW;have oP:aj h cb:=eE.aG eg;have Wk:=DM.aO mE.ok eg;have eU:=(eg.gt bC).trans hS;have uB:=(eg.gt j2).trans hs;have Ae:=(eg.gt la).trans hI;have Tn:=ajL (J:=J) (a:=cb) (f:=.fn (.func 238) [] []) Wk (by rw[eQ];omega) (K.map fun k=>(k,true)) (by rw[eQ,eQ]) (fun i x y ab ax=>by
   rw[ij]at ab ax;cases aM:K[i]? with
   |none=>rw[aM]at ab;cases ab
   |some k=>rw[aM]at ab ax;cases ab;cases ax;exact(ep k).mono eg)
  simp only[go_sem,seval,eU,uB,Ae,cY];refine Tn.oR fun Jh dM f4 ss Wl=>?_;have Mg:=f4.dW;have AN:aj h dM:=oP.aG f4;have ath:aj e6 dM:=eg.aG f4;have tj:=(f4.gt bC).trans eU;have u8:=(f4.gt j2).trans uB;have Ia:=(f4.gt la).trans Ae;have cl:=eL (m:Int);obtain⟨ji,oc⟩:∃H:H,H=(cg cl dM an).new (.af [.ad (m:Int),.bool false] 62):=⟨_,rfl⟩;have z7:aK ji:=by rw[oc];exact an
  have za:aj dM ji:=by rw[oc];exact an
  have C5:aj h ji:=AN.aG za;have xN:aj cb ji:=f4.aG za;have ez:bB ji (.ag (cg cl dM an).next 0 0 1 2 (some 1)) 2 (dv [((m:Int),false)]):=iY (ty:=62) (by rw[oc];exact ef) rfl _
  obtain⟨lq,fU,gL,Fv,Jx,_⟩:=ui (bytes:=16) (Wl.aO za) ez (by have:=(f4.aG za).g.next;omega) (by simp only[c9,eQ,eG,eJ];omega) (by simp only[c9,eQ,eG,eJ];omega);have Cg:=Jx.ok;have xF:aj cb fU:=Jx.aO cb (a1 _);have Jr:aj h fU:=oP.aG xF;have Jy:g6 43 1 1 [.al] [(0,1,lq)]=some (.af [lq] 43,fun f=>.ag f 0 0 1 1 (some 1)):=by simp only[g6,oU,Fv.ag.cell];rfl
  have Jz:bB (fU.new (.af [lq] 43)) (.ag fU.next 0 0 1 1 (some 1)) 1 (cI [lq]):=Ht (ty:=43) ef rfl _;have adg:aj h (fU.new (.af [lq] 43)):=aj.J9 (g:=Jr);obtain⟨ati,lA,oF,zb,v5,v7⟩:=ui (bytes:=24) ((Wj.aO xF).aO (aa:=fU.new (.af [lq] 43)) an) Jz (by have:=eg.g.next;have:=xF.g.next;rw[fF,gu];omega) (by simp only[dL,d4,eG,eJ];omega) (by simp only[dL,d4,eG,eJ];omega)
  have EM:=v5.ok;have ayg:aj h lA:=v5.aO h (by have:=eE.g.next;omega);simp only[go_sem,seval,tj,u8,Ia,cY,bQ,cl.bL,j7];simp only[<-oc];simp only[go_sem,seval,gL,Jy,oF,ls];have Xk:candidates p m=K.map (fun k=>[((m:Int),true),(k,false)])++[K.map (fun k=>(k,true))++[((m:Int),false)]]:=by
   unfold candidates;simp only[aE,iV,cw,<-mG];simp
  rw[Xk];have Ib:cI (dT tz K.length)++cI [lq]=cI (dT (upd tz K.length lq) (K.length+1)):=by
   unfold dT;rw[Ha,wW];have:(List.range K.length).map (upd tz K.length lq)=(List.range K.length).map tz:=By fun j a5=>iN _ _ (by have:=List.mem_range.1 a5;omega);rw[this];simp[cI,kf]
  have Ic:=zb.ag;rw[Ib]at Ic;refine⟨upd tz K.length lq,by rw[fi,eQ];exact Ic,fun i c U=>?_⟩;by_cases ai:i<K.length
  ·obtain⟨k,hk⟩:=bI ai;rw[iN _ _ (by omega)];rw[nP (by rw[eQ];exact ai),ij,hk]at U;cases U;have g9:=(Tm i ai).2 k hk;have vD:=(g9.aO xF);have Da:bD 62 2 (aH e6.next) (fU.new (.af [lq] 43)) (tz i) _:=vD.aO an;exact(v7 _ (bD.fR (by decide)) Da).ag
  ·have m3:i=K.length:=by
    rcases dz i (K.length+1)with q|q
    ·omega
    ·rw[ei (by rw[fi,eQ];simpa using q)]at U;cases U
   subst m3;rw[kf];rw[oo (by rw[eQ];exact a1 _)]at U;simp at U;subst U;have Da:bD 62 2 (aH cb.next) (fU.new (.af [lq] 43)) lq _:=Fv.aO an;have:=(v7 _ (bD.fR (by decide)) Da).ag;simpa[dv]using this
 ·have cw:n.op=7:=by rw[a6];rfl
  have DM:=ic;rw[Hp]at DM;have Jw:=ajK (J:=J) (f:=.fn (.func 242) [] [.ptr j2 0 0 1,.ptr bC 0 0 1,.ptr la 0 0 1]) DM (by rw[eQ];omega) (fun i w h=>w.cells=[w]/\∀k:Int,K[i]?=some k->bD 62 2 (aH e6.next) h w (dv [((m:Int),false),(k,true)]))
   (fun i w=>(gH.pure _).and (gH.all fun k=>gH.imp fun _=>bD.fR (by decide))) (fun i w h q=>q.1) (fun i x ab=>by
    rw[ij]at ab;cases aM:K[i]? with
    |none=>rw[aM]at ab;cases ab
    |some k=>
     rw[aM]at ab;cases ab;refine(akV (g:=242) (iO:=false) (iP:=true) ak.VG.1 ak.VG.2 hs hS hI eL ep k).imp fun w h q=>⟨q.ag.cell,fun ch e=>?_⟩;cases e;exact q)
  rw[eQ]at Jw;simp only[go_sem,seval,hb,hS,gY,hs,hI,lp,kj,cY,cw];refine Jw.run fun atg cb eg lX nz=>?_;obtain⟨tz,Wj,Tm⟩:=nz;have Rc:=eg.dW;have oP:aj h cb:=eE.aG eg;have Wk:=DM.aO mE.ok eg;have eU:=(eg.gt bC).trans hS;have uB:=(eg.gt j2).trans hs;have Ae:=(eg.gt la).trans hI;have Tn:=ajL (J:=J) (a:=cb) (f:=.fn (.func 237) [] []) Wk (by rw[eQ];omega) (K.map fun k=>(k,false)) (by rw[eQ,eQ]) (fun i x y ab ax=>by
   rw[ij]at ab ax;cases aM:K[i]? with
   |none=>rw[aM]at ab;cases ab
   |some k=>rw[aM]at ab ax;cases ab;cases ax;exact(eL k).mono eg)
  simp only[go_sem,seval,eU,uB,Ae,cY];refine Tn.oR fun Jh dM f4 ss Wl=>?_;have Mg:=f4.dW;have AN:aj h dM:=oP.aG f4;have ath:aj e6 dM:=eg.aG f4;have tj:=(f4.gt bC).trans eU;have u8:=(f4.gt j2).trans uB;have Ia:=(f4.gt la).trans Ae;have cl:=ep (m:Int);obtain⟨ji,oc⟩:∃H:H,H=(cg cl dM an).new (.af [.ad (m:Int),.bool true] 62):=⟨_,rfl⟩;have z7:aK ji:=by rw[oc];exact an
  have za:aj dM ji:=by rw[oc];exact an
  have C5:aj h ji:=AN.aG za;have xN:aj cb ji:=f4.aG za;have ez:bB ji (.ag (cg cl dM an).next 0 0 1 2 (some 1)) 2 (dv [((m:Int),true)]):=iY (ty:=62) (by rw[oc];exact ef) rfl _
  obtain⟨lq,fU,gL,Fv,Jx,_⟩:=ui (bytes:=16) (Wl.aO za) ez (by have:=(f4.aG za).g.next;omega) (by simp only[c9,eQ,eG,eJ];omega) (by simp only[c9,eQ,eG,eJ];omega);have Cg:=Jx.ok;have xF:aj cb fU:=Jx.aO cb (a1 _);have Jr:aj h fU:=oP.aG xF;have Jy:g6 43 1 1 [.al] [(0,1,lq)]=some (.af [lq] 43,fun f=>.ag f 0 0 1 1 (some 1)):=by simp only[g6,oU,Fv.ag.cell];rfl
  have Jz:bB (fU.new (.af [lq] 43)) (.ag fU.next 0 0 1 1 (some 1)) 1 (cI [lq]):=Ht (ty:=43) ef rfl _;have adg:aj h (fU.new (.af [lq] 43)):=aj.J9 (g:=Jr);obtain⟨ati,lA,oF,zb,v5,v7⟩:=ui (bytes:=24) ((Wj.aO xF).aO (aa:=fU.new (.af [lq] 43)) an) Jz (by have:=eg.g.next;have:=xF.g.next;rw[fF,gu];omega) (by simp only[dL,d4,eG,eJ];omega) (by simp only[dL,d4,eG,eJ];omega)
  have EM:=v5.ok;have ayg:aj h lA:=v5.aO h (by have:=eE.g.next;omega);simp only[go_sem,seval,tj,u8,Ia,cY,bQ,cl.bL,j7];simp only[<-oc];simp only[go_sem,seval,gL,Jy,oF,ls];have Xk:candidates p m=K.map (fun k=>[((m:Int),false),(k,true)])++[K.map (fun k=>(k,false))++[((m:Int),true)]]:=by
   unfold candidates;simp only[aE,iV,cw,<-mG];simp
  rw[Xk];have Ib:cI (dT tz K.length)++cI [lq]=cI (dT (upd tz K.length lq) (K.length+1)):=by
   unfold dT;rw[Ha,wW];have:(List.range K.length).map (upd tz K.length lq)=(List.range K.length).map tz:=By fun j a5=>iN _ _ (by have:=List.mem_range.1 a5;omega);rw[this];simp[cI,kf]
  have Ic:=zb.ag;rw[Ib]at Ic;refine⟨upd tz K.length lq,by rw[fi,eQ];exact Ic,fun i c U=>?_⟩;by_cases ai:i<K.length
  ·obtain⟨k,hk⟩:=bI ai;rw[iN _ _ (by omega)];rw[nP (by rw[eQ];exact ai),ij,hk]at U;cases U;have g9:=(Tm i ai).2 k hk;have vD:=(g9.aO xF);have Da:bD 62 2 (aH e6.next) (fU.new (.af [lq] 43)) (tz i) _:=vD.aO an;exact(v7 _ (bD.fR (by decide)) Da).ag
  ·have m3:i=K.length:=by
    rcases dz i (K.length+1)with q|q
    ·omega
    ·rw[ei (by rw[fi,eQ];simpa using q)]at U;cases U
   subst m3;rw[kf];rw[oo (by rw[eQ];exact a1 _)]at U;simp at U;subst U;have Da:bD 62 2 (aH cb.next) (fU.new (.af [lq] 43)) lq _:=Fv.aO an;have:=(v7 _ (bD.fR (by decide)) Da).ag;simpa[dv]using this
 ·have cw:n.op=8:=by rw[a6];rfl
  have km:n.kids.length=2:=by unfold Form.shape at kc;rw[cw]at kc;simpa using kc
  obtain⟨x,ab⟩:=bI (l:=K) (i:=0) (by omega);have qc:jP 1 ny (.ad 0)=_:=ic.addr (i:=0) (by rw[c7];omega);have qd:=ic.bM (gn ab);obtain⟨y,ax⟩:=bI (l:=K) (i:=1) (by omega);have tZ:jP 1 ny (.ad 1)=_:=ic.addr (i:=1) (by rw[c7];omega);have ld1:=ic.bM (gn ax);simp(config:={maxSteps:=2000000}) only[go_sem,seval,hb,hS,gY,hs,hI,lp,kj,cY,cw,(eL _).cl,(ep _).cl,(eL _).bL,(ep _).bL,bQ,ls,j7,lJ,l4,l5,mu,mv,l6,qc,qd,tZ,ld1];refine fin (cs:=[[((m:Int),false),(x,false)],[((m:Int),false),(y,true)],[((m:Int),true),(x,true),(y,false)]]) (by simp only[go_sem,seval,bQ];rfl) rfl rfl ?_ ?_
  ·rintro i v c ar U
   match i,ar,U with
   |0,ar,U=>cases ar;cases U;exact iY (ty:=62) (by simp only[go_sem,seval,bQ];rfl) rfl _
   |1,ar,U=>cases ar;cases U;exact iY (ty:=62) (by simp only[go_sem,seval,bQ];rfl) rfl _
   |2,ar,U=>cases ar;cases U;exact iY (ty:=62) (by simp only[go_sem,seval,bQ];rfl) rfl _
   |i+3,ar,U=>simp at ar
  ·unfold candidates;simp only[aE,iV,cw,<-mG,ab,ax,hC];simp
 ·have cw:n.op=9:=by rw[a6];rfl
  have km:n.kids.length=2:=by unfold Form.shape at kc;rw[cw]at kc;simpa using kc
  obtain⟨x,ab⟩:=bI (l:=K) (i:=0) (by omega);have qc:jP 1 ny (.ad 0)=_:=ic.addr (i:=0) (by rw[c7];omega);have qd:=ic.bM (gn ab);obtain⟨y,ax⟩:=bI (l:=K) (i:=1) (by omega);have tZ:jP 1 ny (.ad 1)=_:=ic.addr (i:=1) (by rw[c7];omega);have ld1:=ic.bM (gn ax);simp(config:={maxSteps:=2000000}) only[go_sem,seval,hb,hS,gY,hs,hI,lp,kj,cY,cw,(eL _).cl,(ep _).cl,(eL _).bL,(ep _).bL,bQ,ls,j7,lJ,l4,l5,mu,mv,l6,qc,qd,tZ,ld1];refine fin (cs:=[[((m:Int),true),(x,true),(y,false)],[((m:Int),true),(x,false),(y,true)],[((m:Int),false),(x,false),(y,false)],[((m:Int),false),(x,true),(y,true)]]) (by simp only[go_sem,seval,bQ];rfl) rfl rfl ?_ ?_
  ·rintro i v c ar U
   match i,ar,U with
   |0,ar,U=>cases ar;cases U;exact iY (ty:=62) (by simp only[go_sem,seval,bQ];rfl) rfl _
   |1,ar,U=>cases ar;cases U;exact iY (ty:=62) (by simp only[go_sem,seval,bQ];rfl) rfl _
   |2,ar,U=>cases ar;cases U;exact iY (ty:=62) (by simp only[go_sem,seval,bQ];rfl) rfl _
   |3,ar,U=>cases ar;cases U;exact iY (ty:=62) (by simp only[go_sem,seval,bQ];rfl) rfl _
   |i+4,ar,U=>simp at ar
  ·unfold candidates;simp only[aE,iV,cw,<-mG,ab,ax,hC,both];simp
 ·have cw:n.op=10:=by rw[a6];rfl
  have ME:n.kids.length=3:=by unfold Form.shape at kc;rw[cw]at kc;simpa using kc
  obtain⟨x,ab⟩:=bI (l:=K) (i:=0) (by omega);have qc:jP 1 ny (.ad 0)=_:=ic.addr (i:=0) (by rw[c7];omega);have qd:=ic.bM (gn ab);obtain⟨y,ax⟩:=bI (l:=K) (i:=1) (by omega);have tZ:jP 1 ny (.ad 1)=_:=ic.addr (i:=1) (by rw[c7];omega);have ld1:=ic.bM (gn ax);obtain⟨z,aX⟩:=bI (l:=K) (i:=2) (by omega);have To:jP 1 ny (.ad 2)=_:=ic.addr (i:=2) (by rw[c7];omega);have Tp:=ic.bM (gn aX);simp(config:={maxSteps:=2000000}) only[go_sem,seval,hb,hS,gY,hs,hI,lp,kj,cY,cw,(eL _).cl,(ep _).cl,(eL _).bL,(ep _).bL,bQ,ls,j7,lJ,l4,l5,mu,mv,l6,qc,qd,tZ,ld1,To,Tp];refine fin (cs:=[[((m:Int),true),(x,true),(y,false)],[((m:Int),true),(x,false),(z,false)],[((m:Int),false),(x,true),(y,true)],[((m:Int),false),(x,false),(z,true)]]) (by simp only[go_sem,seval,bQ];rfl) rfl rfl ?_ ?_
  ·rintro i v c ar U
   match i,ar,U with
   |0,ar,U=>cases ar;cases U;exact iY (ty:=62) (by simp only[go_sem,seval,bQ];rfl) rfl _
   |1,ar,U=>cases ar;cases U;exact iY (ty:=62) (by simp only[go_sem,seval,bQ];rfl) rfl _
   |2,ar,U=>cases ar;cases U;exact iY (ty:=62) (by simp only[go_sem,seval,bQ];rfl) rfl _
   |3,ar,U=>cases ar;cases U;exact iY (ty:=62) (by simp only[go_sem,seval,bQ];rfl) rfl _
   |i+4,ar,U=>simp at ar
  ·unfold candidates;simp only[aE,iV,cw,<-mG,ab,ax,aX,hC];simp
 ·have cw:n.op=11:=by rw[a6];rfl
  have km:n.kids.length=2:=by unfold Form.shape at kc;rw[cw]at kc;simpa using kc
  obtain⟨fa,tY⟩:=bI (l:=i1 t) (i:=0) (by rw[tX];omega);obtain⟨aMN,aMO,vG⟩:=adf 0 fa tY;have atj:=vG.aO c3.ok (b4.aG qb);have ayh:=rZ fa (by rw[<-tX];exact c0 tY);have rG:=anc (t:=t) (k:=fa.toNat) (by omega);have IX:0<(lM t fa.toNat).length:=by
   rw[G9,eQ,el,jG];have:=En t fa.toNat;omega
  obtain⟨gq,kn⟩:=bI (l:=lM t fa.toNat) (i:=(lM t fa.toNat).length-1) (by omega);have JA:=Jp (J:=J) atj (by omega) kn;have z9:bB e6 yy 1 (cI (dT Co (i1 t).length)):=CZ.aO c3.ok (b4.aG qb);have yz:jP 1 yy (.ad 0)=_:=z9.addr (i:=0) (by rw[dL,d4,tX];omega);have qF:=z9.bM (jc (kx Co (n:=(i1 t).length) (i:=0) (by rw[tX];omega)));have KZ:sj (((ku t)[0]?).getD [])=gq.sort:=by
   have:(ku t)[0]?=some (lM t fa.toNat):=by rw[ku,ij,tY];rfl
   rw[this];unfold sj;rw[hC,kn];rfl
  by_cases zr:gq.sort=[66,111,111,108]
  ·have Db:sj (((ku t)[0]?).getD [])=mb:=by rw[KZ,zr];rfl
   obtain⟨x,ab⟩:=bI (l:=K) (i:=0) (by omega);have qc:jP 1 ny (.ad 0)=_:=ic.addr (i:=0) (by rw[c7];omega);have qd:=ic.bM (gn ab);obtain⟨y,ax⟩:=bI (l:=K) (i:=1) (by omega);have tZ:jP 1 ny (.ad 1)=_:=ic.addr (i:=1) (by rw[c7];omega);have ld1:=ic.bM (gn ax);simp(config:={maxSteps:=2000000}) only[go_sem,seval,hb,hS,gY,hs,hI,lp,kj,cY,cw,(eL _).cl,(ep _).cl,(eL _).bL,(ep _).bL,bQ,ls,j7,lJ,l4,l5,mu,mv,l6,qc,qd,tZ,ld1,yz,qF,JA.cl,eW,zr];refine fin (cs:=[[((m:Int),true),(x,true),(y,false)],[((m:Int),true),(x,false),(y,true)],[((m:Int),false),(x,false),(y,false)],[((m:Int),false),(x,true),(y,true)]]) (by simp only[go_sem,seval,bQ];rfl) rfl rfl ?_ ?_
   ·rintro i v c ar U
    match i,ar,U with
    |0,ar,U=>cases ar;cases U;exact iY (ty:=62) (by simp only[go_sem,seval,bQ];rfl) rfl _
    |1,ar,U=>cases ar;cases U;exact iY (ty:=62) (by simp only[go_sem,seval,bQ];rfl) rfl _
    |2,ar,U=>cases ar;cases U;exact iY (ty:=62) (by simp only[go_sem,seval,bQ];rfl) rfl _
    |3,ar,U=>cases ar;cases U;exact iY (ty:=62) (by simp only[go_sem,seval,bQ];rfl) rfl _
    |i+4,ar,U=>simp at ar
   ·unfold candidates;simp only[aE,iV,cw,<-mG,ab,ax,hC,both];simp[Db]
  ·have Db:¬sj (((ku t)[0]?).getD [])=mb:=by rw[KZ];exact zr
   simp(config:={maxSteps:=2000000}) only[go_sem,seval,hb,hS,gY,hs,hI,lp,kj,cY,cw,(eL _).cl,(ep _).cl,(eL _).bL,(ep _).bL,bQ,ls,j7,lJ,l4,l5,mu,mv,l6,yz,qF,JA.cl,eW,zr];have j8:candidates p m=[]:=by
    unfold candidates;simp only[aE,iV,cw];simp[Db]
   rw[j8];exact⟨fun _=>.fO,⟨fun e he=>by simp[cI,dT]at he,.inl ⟨rfl,by simp[cI,dT]⟩⟩,fun i c U=>by simp at U⟩
 ·have cw:n.op=12:=by rw[a6];rfl
  simp(config:={maxSteps:=2000000}) only[go_sem,seval,hb,hS,gY,hs,hI,lp,kj,cY,cw,(eL _).cl,(ep _).cl,(eL _).bL,(ep _).bL,bQ,ls,j7,lJ,l4,l5,mu,mv,l6];have j8:candidates p m=[]:=by
   unfold candidates;simp only[aE,iV,cw];simp
  rw[j8];exact⟨fun _=>.fO,⟨fun e he=>by simp[cI,dT]at he,.inl ⟨rfl,by simp[cI,dT]⟩⟩,fun i c U=>by simp at U⟩
 ·have cw:n.op=13:=by rw[a6];rfl
  simp(config:={maxSteps:=2000000}) only[go_sem,seval,hb,hS,gY,hs,hI,lp,kj,cY,cw,(eL _).cl,(ep _).cl,(eL _).bL,(ep _).bL,bQ,ls,j7,lJ,l4,l5,mu,mv,l6];have j8:candidates p m=[]:=by
   unfold candidates;simp only[aE,iV,cw];simp
  rw[j8];exact⟨fun _=>.fO,⟨fun e he=>by simp[cI,dT]at he,.inl ⟨rfl,by simp[cI,dT]⟩⟩,fun i c U=>by simp at U⟩
 ·have cw:n.op=14:=by rw[a6];rfl
  simp(config:={maxSteps:=2000000}) only[go_sem,seval,hb,hS,gY,hs,hI,lp,kj,cY,cw,(eL _).cl,(ep _).cl,(eL _).bL,(ep _).bL,bQ,ls,j7,lJ,l4,l5,mu,mv,l6];have j8:candidates p m=[]:=by
   unfold candidates;simp only[aE,iV,cw];simp
  rw[j8];exact⟨fun _=>.fO,⟨fun e he=>by simp[cI,dT]at he,.inl ⟨rfl,by simp[cI,dT]⟩⟩,fun i c U=>by simp at U⟩
 ·have cw:n.op=15:=by rw[a6];rfl
  simp(config:={maxSteps:=2000000}) only[go_sem,seval,hb,hS,gY,hs,hI,lp,kj,cY,cw,(eL _).cl,(ep _).cl,(eL _).bL,(ep _).bL,bQ,ls,j7,lJ,l4,l5,mu,mv,l6];have j8:candidates p m=[]:=by
   unfold candidates;simp only[aE,iV,cw];simp
  rw[j8];exact⟨fun _=>.fO,⟨fun e he=>by simp[cI,dT]at he,.inl ⟨rfl,by simp[cI,dT]⟩⟩,fun i c U=>by simp at U⟩
 ·have cw:n.op=16:=by rw[a6];rfl
  simp(config:={maxSteps:=2000000}) only[go_sem,seval,hb,hS,gY,hs,hI,lp,kj,cY,cw,(eL _).cl,(ep _).cl,(eL _).bL,(ep _).bL,bQ,ls,j7,lJ,l4,l5,mu,mv,l6];have j8:candidates p m=[]:=by
   unfold candidates;simp only[aE,iV,cw];simp
  rw[j8];exact⟨fun _=>.fO,⟨fun e he=>by simp[cI,dT]at he,.inl ⟨rfl,by simp[cI,dT]⟩⟩,fun i c U=>by simp at U⟩
 ·have cw:n.op=17:=by rw[a6];rfl
  simp(config:={maxSteps:=2000000}) only[go_sem,seval,hb,hS,gY,hs,hI,lp,kj,cY,cw,(eL _).cl,(ep _).cl,(eL _).bL,(ep _).bL,bQ,ls,j7,lJ,l4,l5,mu,mv,l6];have j8:candidates p m=[]:=by
   unfold candidates;simp only[aE,iV,cw];simp
  rw[j8];exact⟨fun _=>.fO,⟨fun e he=>by simp[cI,dT]at he,.inl ⟨rfl,by simp[cI,dT]⟩⟩,fun i c U=>by simp at U⟩
 ·have cw:n.op=18:=by rw[a6];rfl
  simp(config:={maxSteps:=2000000}) only[go_sem,seval,hb,hS,gY,hs,hI,lp,kj,cY,cw,(eL _).cl,(ep _).cl,(eL _).bL,(ep _).bL,bQ,ls,j7,lJ,l4,l5,mu,mv,l6];have j8:candidates p m=[]:=by
   unfold candidates;simp only[aE,iV,cw];simp
  rw[j8];exact⟨fun _=>.fO,⟨fun e he=>by simp[cI,dT]at he,.inl ⟨rfl,by simp[cI,dT]⟩⟩,fun i c U=>by simp at U⟩
 ·have cw:n.op=19:=by rw[a6];rfl
  simp(config:={maxSteps:=2000000}) only[go_sem,seval,hb,hS,gY,hs,hI,lp,kj,cY,cw,(eL _).cl,(ep _).cl,(eL _).bL,(ep _).bL,bQ,ls,j7,lJ,l4,l5,mu,mv,l6];have j8:candidates p m=[]:=by
   unfold candidates;simp only[aE,iV,cw];simp
  rw[j8];exact⟨fun _=>.fO,⟨fun e he=>by simp[cI,dT]at he,.inl ⟨rfl,by simp[cI,dT]⟩⟩,fun i c U=>by simp at U⟩
end
end Go.ao
