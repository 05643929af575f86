/- A part of the proof that ProofForms holds for every input. -/
import Derived.Test.YtphcmfmpbndkbaaGreatDoorQ14
set_option maxRecDepth 100000
set_option maxHeartbeats 4000000
set_option linter.all false
noncomputable section
namespace Go.ao
abbrev ke:=@decide_eq_true
section
open Form d3
variable {J:Prog}[ak J]{a:H}
theorem jj.ag{n:Nat}{v:V}{h:H}(m:jj n v h):v.cells=[v]:=let⟨_,q,_,_⟩:=m;q.ag.cell
theorem Zs{B:Nat}{l:List Nat}(h:d3.Can B l):strip l=l:=d3.Can.ext (yj h.1) h (yi B l)
theorem aGN{low high b R:Nat}(h1:low*b<=R)(ae:R<(high+1)*b)(au:low<high):
  low<(low+high+1)/2/\(low+high+1)/2<=high/\(¬(low+high+1)/2*b<=R->R<((low+high+1)/2-1+1)*b):=by
 refine⟨by omega,by omega,fun h=>?_⟩;have:(low+high+1)/2-1+1=(low+high+1)/2:=by omega
 rw[this];omega
theorem ayB[bP:aK a]{w r:V}{m jL:List Nat}(d6:gP a w m)(lb:d3.Can bw m)(iP:m.length<100000){aJ:H}[ca:aK aJ][eZ:aj a aJ](Rk:gP aJ r jL)(jz:d3.Can bw jL)(ER:jL.length<1000000){low high:Nat}
  (h1:low*val bw m<=val bw jL) (ae:val bw jL<(high+1)*val bw m) (az:low<=high) (bo:high<bw) {I:Fr} {k:c4}
  (f1:I.gt 1=w) (cH:I.gt 7=r) (dm:I.gt 9=.ad (low:Nat)) (ew:I.gt 10=.ad (high:Nat))
  (eu:∀aQ aa g,aj aJ aa->g*val bw m<=val bw jL->val bw jL<(g+1)*val bw m->g<bw->aQ.gt 0=I.gt 0->aQ.gt 1=w->aQ.gt 6=I.gt 6->aQ.gt 7=r->aQ.gt 8=I.gt 8->aQ.gt 9=.ad (g:Nat) ->k.run J (.exit 2 ⟨aQ,[],aa⟩)):dA J XT ⟨I,[],aJ⟩ k:=by
 have xd:=u7;generalize atw:I.gt 0=v0 at eu;generalize JC:I.gt 6=v6 at eu;generalize tR:I.gt 8=uB at eu;unfold XT;refine lU (fun lx t=>∃I h1 low high,t=⟨I,[],h1⟩/\aj aJ h1/\lx=high-low/\low*val bw m<=val bw jL/\val bw jL<(high+1)*val bw m/\low<=high/\high<bw/\
  I.gt 0=v0/\I.gt 1=w/\I.gt 6=v6/\I.gt 7=r/\I.gt 8=uB/\I.gt 9=.ad (low:Nat)/\I.gt 10=.ad (high:Nat)) ?_ (m:=high-low) ⟨I,aJ,low,high,rfl,an,rfl,h1,ae,az,bo,atw,f1,JC,cH,tR,dm,ew⟩
 rintro lx t ⟨I,H1,low,high,rfl,aB,rfl,h1,ae,az,bo,bq,f1,cj,cH,cQ,dm,ew⟩;have bW:=aB.bx;have dx:aj a H1:=eZ.aG aB;by_cases ay:low<high
 ·have Bd:((low:Int)<(high:Int)):=by omega
  obtain⟨d1,d2,nt⟩:=aGN h1 ae ay;have b5:b8 .i64 ((low:Int)+(high:Int))=((low+high:Nat):Int):=by rw[<-se];exact wrap_i64 (by omega)
  have d7:b8 .i64 (((low+high:Nat):Int)+1)=((low+high+1:Nat):Int):=cG (by omega)
  have jy:=DH .int .i64 (low+high+1) 2 (by omega);generalize (low+high+1)/2=mid at d1 d2 nt jy;have w7:b8 .i64 (mid:Int)=(mid:Int):=wrap_i64 (by omega);rw[w7]at jy;have Ce:((2:Nat):Int)=2:=rfl
  rw[Ce]at jy;have o1:b8 .i64 ((mid:Int) -1)=((mid-1:Nat):Int):=pM (by omega) (by omega)
  have h3:=Wp (J:=J) (d6.aO (aa:=H1)) (by omega) (d:=mid) (by omega);simp only[go_sem,seval,f1,cH,dm,ew,Bd,b5,d7,jy];refine h3.run fun z eb aY c3 Ih=>?_;obtain⟨⟨w9,n1,hU,mX⟩,rt⟩:=Ih;have y9:aj aJ eb:=aB.aG aY;have iW:aj a eb:=dx.aG aY;have aOe:w9.length<1000000:=by
   have cb:val bw w9<bw^(m.length+1):=by
    rw[mX,pK];exact Nat.mul_lt_mul'' (sa d6.lim) (by omega)
   by_cases aX:w9=[]
   ·subst aX;simp
   ·have dM:=hU.ge aX;have:¬(m.length+1<=w9.length-1):=fun q=>by
     have:=vk wT q;omega
    omega
  have gO:=Bj (J:=J) n1 (by omega) false;have vH:=n1.trim;rw[Zs hU]at vH;have rA:=ajP (J:=J) vH (Rk.aO (aa:=eb)) hU jz (by omega);have hle:=aGM (val bw w9) (val bw jL);rw[mX,js]at hle;rw[mX,js]at rA;by_cases hm:mid*val bw m<=val bw jL
  ·rw[ke hm]at hle;simp only[go_sem,seval,f1,cH,dm,ew,Gl n1.ag.cell,gO.cl,rA.cl,hle];refine⟨high-mid,by omega,_,_,mid,high,rfl,an,rfl,hm,ae,d2,bo,?_,?_,?_,?_,?_,?_,?_⟩
   all_goals simp only[go_sem,seval,bq,f1,cj,cH,cQ,ew]
  ·rw[jS hm]at hle;simp only[go_sem,seval,f1,cH,dm,ew,Gl n1.ag.cell,gO.cl,rA.cl,hle,o1];refine⟨mid-1-low,by omega,_,_,low,mid-1,rfl,an,rfl,h1,nt hm,by omega,by omega,?_,?_,?_,?_,?_,?_,?_⟩
   all_goals simp only[go_sem,seval,bq,f1,cj,cH,cQ,dm]
 ·have Bd:¬((low:Int)<(high:Int)):=by omega
  have:low=high:=by omega
  subst this;simp only[go_sem,seval,dm,ew,Bd];exact eu _ _ low aB h1 ae bo (by simp only[go_sem,seval,bq]) (by simp only[go_sem,seval,f1]) (by simp only[go_sem,seval,cj]) (by simp only[go_sem,seval,cH]) (by simp only[go_sem,seval,cQ]) (by simp only[go_sem,seval,dm])
theorem gP.iA{h:H}{v:V}{l:List Nat}(q:gP h v l){b:Nat}(r:l1 b v){g:P}(aC:aH g<b)(o:O):gP (h.set g o) v l:=⟨q.ag.iA r aC o,q.cap,q.lim⟩
theorem aKi{O:List Nat}{k x:Nat}(hk:k<O.length):(O.set k x).drop k=x::O.drop (k+1):=by
 have h:(O.set k x)[k]?=some x:=by rw[Qc hk]
 rw[en h,List.drop_set_of_lt (by omega)]
theorem aEj{q b R V:Nat}(h:q*b+R=V)(dP:R<b):q=V/b/\R=V%b:=by
 subst h;constructor
 ·rw[js,Nat.mul_add_div (by omega),Nat.div_eq_of_lt dP,ud]
 ·rw[js,Nat.mul_add_mod,D8 dP]
theorem aEk(B:Nat){x R b:Nat}(ab:x<B)(dP:R<b):x+B*R<(B-1+1)*b:=by
 have h1:B-1+1=B:=by omega
 have ae:B*(R+1)<=B*b:=sc _ dP;rw[h1];rw[mT]at ae;omega
theorem ayC[bP:aK a]{v w:V}{l m:List Nat}(dd:gP a v l)(d6:gP a w m)(lb:d3.Can bw m)(iO:l.length<100000)(iP:m.length<100000)(pq:0<val bw m):
  cJ J a 427 [v,w] (fun z h=>∃q r,z=.bk [q,r]/\Ig (aH a.next) (val bw l/val bw m) q h/\Ig (aH a.next) (val bw l%val bw m) r h):=by
 refine cJ.bE ak.aiB rfl fun h ca g=>?_;have xd:=u7;have h8:=wY 3 1 8 [.ad (.ofNat 0)] l.length (by omega) (by omega);rw[BX]at h8;have rM:(Int.ofNat 0)=0:=rfl;simp only[rM]at h8;have fq:b8 .i64 ((l.length:Int) -1)=(l.length:Int) -1:=gz (by omega) (by omega)
 have rv:eC h.next h:=⟨a1 _⟩
 have adp:eC h.next a:=an
 have st:=fun(O:List Nat) (aa:H) (i:Nat) (ai:i<O.length) (x:Nat)=>BE (k:=.i64) O 3 aa h.next i ai x
 have e1:=fun i ai=>rp h.next 0 0 l.length 1 (some l.length) i ai
 simp only[eH,kz]at st e1;simp only[Ox,go_sem,seval,dd.ag.a2,dy,h8,fq,aDV];refine lU (fun k t=>∃I h1 O r R,t=⟨I,[],h1⟩/\k<=l.length/\aj h h1/\aH h.next+1<=aH h1.next/\h1.get h.next=some (.af (d8 .i64 O) 3)/\O.length=l.length/\fA bw O/\Ig (aH h.next+1) R r h1/\R<val bw m/\val bw (O.drop k)*val bw m+R=val bw (l.drop k)/\
  I.gt 0=v/\I.gt 1=w/\I.gt 6=.ag h.next 0 0 l.length 1 (some l.length)/\I.gt 7=r/\I.gt 8=.ad ((k:Int) -1)) ?_ (m:=l.length) ⟨_,_,List.replicate l.length 0,.al,0,rfl,a1 _,an,by rw[fF,gu];exact a1 _,ef,te,fun x ab=>by rw[Lv]at ab;rw[ab.2];exact wT,⟨⟨[],⟨⟨fun e he=>by simp[dY]at he,.inl ⟨rfl,rfl⟩⟩,trivial,Po⟩,⟨Po,by simp⟩,rfl⟩,trivial⟩,pq,by rw[Eo (by simp),Eo (a1 _)];simp[val],?_,?_,?_,?_,?_⟩
 ·rintro k t ⟨I,h1,O,r,R,rfl,hk,aB,pf,e4,hO,m0,⟨⟨jL,yF,jz,rfl⟩,Ii⟩,dP,ar,bq,f1,cj,cH,cQ⟩;have bW:=aB.bx;have dx:aj a h1:=g.aG aB;have Nv:=aP e4;have atx:=Hq d6.lim jz (zR dP);cases k with
  |zero=>
   have cQ:I.gt 8=.ad (-1):=cQ;have av:¬((0:Int)<=-1):=by decide
   rw[iL,iL]at ar;obtain⟨aN,bd⟩:=aEj ar dP;have ag:=nY e4 (some l.length);rw[hO]at ag;have aaa:gP h1 (.ag h.next 0 0 l.length 1 (some l.length)) O:=⟨ag,a1 _,m0⟩;have gO:=Bj (J:=J) aaa (by omega) false;have fb:jQ [.bool false,.al] [(1,1,.ag h.next 0 0 l.length 1 (some l.length))]=some (.agg [.bool false,.ag h.next 0 0 l.length 1 (some l.length)]):=rfl;simp only[go_sem,seval,cj,cH,cQ,av,fb,gO.cl];refine⟨_,_,rfl,⟨⟨strip O,aaa.trim.aO,yj m0,by rw[yi];exact aN⟩,Qw (v:=.ag h.next 0 0 l.length 1 (some l.length)) g.g.next _⟩,⟨⟨jL,yF.aO,jz,bd⟩,Ii.mono ?_⟩⟩;have:=g.g.next
   omega
  |succ k=>
   have aN:(((k+1:Nat):Int) -1)=(k:Int):=by omega
   rw[aN]at cQ;have av:(0:Int)<=(k:Int):=by omega
   obtain⟨x,ab⟩:=bI (l:=l) (i:=k) (by omega);have Tu:=dd.lim x (c0 ab);have bJ:=dd.ag.addr (i:=k) (by rw[dy];omega);have NG:b8 .i64 ((k:Int) -1)=(k:Int) -1:=gz (by omega) (by omega)
   have fZ:bD 3 1 (aH h1.next) (h1.new (.af [.ad (x:Nat)] 3)) (.ag h1.next 0 0 1 1 (some 1)) (dY .i64 [x]):=BM (l:=dY .i64 [x]) (XU _ _) (some 1) (fun n e=>by cases e;rfl);obtain⟨dX,ae,bd,dD,et⟩:=uh (bytes:=8) fZ (yF.aO (aa:=h1.new (.af [.ad (x:Nat)] 3))).ag (by rw[fF,gu];omega) (by simp only[dy,eG,eJ];omega) (by simp only[dy,eG,eJ];omega);have c3:=et.ok;have y9:aj h1 ae:=et.aO h1 (a1 _);have aY:aj h ae:=aB.aG y9;have iW:aj a ae:=dx.aG y9;have dD:bD 3 1 (aH h1.next) ae dX (dY .i64 (x::jL)):=dD;have n4:fA bw (x::jL):=fun y ax=>by
    rcases List.mem_cons.1 ax with rfl|ax
    ·exact Tu
    ·exact jz.1 y ax
   have adq:=gP.own dD n4;have gO:=Bj (J:=J) adq (by simp;omega) false;have vH:=adq.trim;have rt:=Qw dD.rt (x::jL);have cs:=yj n4;have aF:val bw (strip (x::jL))=x+bw*val bw jL:=by rw[yi];rfl
   have bF:=Y0 (x::jL);have ah:=Gl dD.ag.cell;generalize r5 dX (x::jL)=e3 at vH rt gO;generalize strip (x::jL)=im at vH cs aF bF;have rA:=ajP (J:=J) vH (d6.aO (aa:=ae)) cs lb (by simp at bF;omega);have ay:=aI3 (val bw im) (val bw m);have adr:=aEk bw (b:=val bw m) Tu dP;rw[<-aF]at adr;have a8:=(y9.gt h.next).trans e4;have body:∀(vZ:Fr) (aJ:H) (high:Nat),[aK aJ] ->aj ae aJ->val bw im<(high+1)*val bw m->high<bw->vZ.gt 0=v->vZ.gt 1=w->vZ.gt 6=.ag h.next 0 0 l.length 1 (some l.length) ->vZ.gt 7=e3->vZ.gt 8=.ad (k:Nat) ->vZ.gt 9=.ad (0:Nat) ->vZ.gt 10=.ad (high:Nat) ->∀K:c4,
    (∀aQ aa hy,aj aJ aa->hy*val bw m<=val bw im->val bw im<(hy+1)*val bw m->hy<bw->aQ.gt 0=v->aQ.gt 1=w->aQ.gt 6=.ag h.next 0 0 l.length 1 (some l.length) ->aQ.gt 7=e3->aQ.gt 8=.ad (k:Nat) ->aQ.gt 9=.ad (hy:Nat) ->K.run J (.exit 2 ⟨aQ,[],aa⟩)) ->dA J XT ⟨vZ,[],aJ⟩ K:=by
    intro vZ aJ high aOf eZ hu aty bq f1 cj cH cQ dm ew K j0;have aOg:aj a aJ:=iW.aG eZ;refine ayB (a:=a) d6 lb iP (vH.aO (aa:=aJ)) cs (by simp at bF;omega) (low:=0) (high:=high) (by omega) hu (dk _) aty f1 cH dm ew ?_;intro aQ aa hy bR e5 cO c5 iC bj dQ fH gX jM;exact j0 aQ aa hy bR e5 cO c5 (iC.trans bq) bj (dQ.trans cj) fH (gX.trans cQ) jM
   have fin:∀(aQ:Fr) (aa:H) (hy:Nat),aj ae aa->hy*val bw m<=val bw im->val bw im<(hy+1)*val bw m->hy<bw->val bw ((O.set k hy).drop k)*val bw m+(val bw im-hy*val bw m)=val bw (l.drop k)/\val bw im-hy*val bw m<val bw m:=by
    intro aQ aa hy _ e5 cO _;refine⟨?_,?_⟩
    ·rw[aKi (by omega),en ab];exact V6 bw aF e5 rfl ar
    ·rw[eP]at cO;omega
   have aOh:=y9.dW;by_cases sJ:val bw im<val bw m
   ·rw[ke sJ]at ay;simp only[go_sem,seval,bq,f1,cj,cH,cQ,av,bJ,dd.ag.bM (jr ab),Gk,bd,ah,gO.cl,rA.cl,ay];refine body _ _ 0 an (by rw[eH,r9];exact sJ) wT (by simp only[go_sem,seval,bq]) (by simp only[go_sem,seval,f1]) (by simp only[go_sem,seval,cj]) (by simp only[go_sem,seval]) (by simp only[go_sem,seval,cQ]) (by simp only[go_sem,seval];try rfl) (by simp only[go_sem,seval];try rfl) _ ?_;intro aQ aa hy bR e5 cO c5 iC bj dQ fH gX jM;have ch:=bR.bx;have wA:aj ae aa:=aj.aG (an:aj ae (cg rA (cg gO ae an) an)) bR;have Dd:=(wA.gt h.next).trans a8;have p5:=aP Dd;have xy:aj h aa:=aY.aG wA;obtain⟨v1,v2⟩:=fin aQ aa hy wA e5 cO c5;have JD:k<O.length:=by omega
    have Fb:aH h.next+1<=aH aa.next:=by have:=y9.g.next;have:=wA.g.next;omega
    have Tv:aH h.next<aH h1.next:=by omega
    have ads:aj a aa:=iW.aG wA;obtain⟨de,hg⟩:∃H:H,H=aa.set h.next (.af (d8 .i64 (O.set k hy)) 3):=⟨_,rfl⟩
    have lX:aK de:=by rw[hg];exact an
    have oP:aj h de:=by rw[hg];exact an
    have S0:aj a de:=by rw[hg];exact an
    have atz:aH de.next=aH aa.next:=by rw[hg,Hf]
    have dn:de.get h.next=some (.af (d8 .i64 (O.set k hy)) 3):=by rw[hg];exact jt
    have atA:=aP dn;have yG:gP de e3 im:=by rw[hg];exact gP.iA (vH.aO (aa:=aa)) rt Tv _
    by_cases uM:hy=0
    ·have DN:¬((0:Int)<(hy:Int)):=by omega
     simp only[go_sem,seval,iC,bj,dQ,fH,gX,jM,e1 k (by omega),Dd,st O aa k JD hy,DN,NG];simp only[<-hg];refine⟨k,by omega,_,de,O.set k hy,e3,val bw im-hy*val bw m,rfl,by omega,oP,by omega,dn,by rw[vm];exact hO,m0.set c5,⟨⟨im,yG,cs,by rw[uM,Nat.zero_mul,x5]⟩,rt.mono pf⟩,v2,v1,?_,?_,?_,?_,?_⟩
     all_goals simp only[go_sem,seval,iC,bj,dQ,fH,gX]
    ·have DN:((0:Int)<(hy:Int)):=by omega
     have h3:=Wp (J:=J) (d6.aO (aa:=de)) (by omega) (d:=hy) c5;simp only[go_sem,seval,iC,bj,dQ,fH,gX,jM,e1 k (by omega),Dd,st O aa k JD hy,DN];simp only[<-hg];refine h3.run fun z dM f4 ss Ih=>?_;obtain⟨⟨w9,n1,hU,mX⟩,da⟩:=Ih;have EW:=yG.aO (aa:=dM);have atB:=Hq cs.1 hU (by rw[mX,js];exact e5);have Tw:=ajQ (J:=J) EW n1 hU (by simp at bF;omega) (by simp at bF;omega) (by rw[mX,js];exact e5);simp only[go_sem,seval];refine Tw.run fun Ii jf lY z7 Tx=>?_;obtain⟨⟨yB,Mm,w4,gl⟩,yx⟩:=Tx;have xN:aj de jf:=f4.aG lY;have Ty:=(xN.gt h.next).trans dn;have C5:=oP.aG xN;have Tz:aH h.next+1<=aH dM.next:=by have:=f4.g.next;omega
     have TA:aH h.next+1<=aH jf.next:=by have:=lY.g.next;omega
     simp only[go_sem,seval,gX,NG];refine⟨k,by omega,_,jf,O.set k hy,Ii,val bw im-hy*val bw m,rfl,by omega,C5,TA,Ty,by rw[vm];exact hO,m0.set c5,⟨⟨yB,Mm,w4,by rw[gl,mX,js]⟩,yx.mono Tz⟩,v2,v1,?_,?_,?_,?_,?_⟩
     all_goals simp only[go_sem,seval,iC,bj,dQ,gX]
   ·rw[jS sJ]at ay;simp only[go_sem,seval,bq,f1,cj,cH,cQ,av,bJ,dd.ag.bM (jr ab),Gk,bd,ah,gO.cl,rA.cl,ay];refine body _ _ (bw-1) an adr (by omega) (by simp only[go_sem,seval,bq]) (by simp only[go_sem,seval,f1]) (by simp only[go_sem,seval,cj]) (by simp only[go_sem,seval]) (by simp only[go_sem,seval,cQ]) (by simp only[go_sem,seval];try rfl) (by simp only[go_sem,seval];try rfl) _ ?_;intro aQ aa hy bR e5 cO c5 iC bj dQ fH gX jM;have ch:=bR.bx;have wA:aj ae aa:=aj.aG (an:aj ae (cg rA (cg gO ae an) an)) bR;have Dd:=(wA.gt h.next).trans a8;have p5:=aP Dd;have xy:aj h aa:=aY.aG wA;obtain⟨v1,v2⟩:=fin aQ aa hy wA e5 cO c5;have JD:k<O.length:=by omega
    have Fb:aH h.next+1<=aH aa.next:=by have:=y9.g.next;have:=wA.g.next;omega
    have Tv:aH h.next<aH h1.next:=by omega
    have ads:aj a aa:=iW.aG wA;obtain⟨de,hg⟩:∃H:H,H=aa.set h.next (.af (d8 .i64 (O.set k hy)) 3):=⟨_,rfl⟩
    have lX:aK de:=by rw[hg];exact an
    have oP:aj h de:=by rw[hg];exact an
    have S0:aj a de:=by rw[hg];exact an
    have atz:aH de.next=aH aa.next:=by rw[hg,Hf]
    have dn:de.get h.next=some (.af (d8 .i64 (O.set k hy)) 3):=by rw[hg];exact jt
    have atA:=aP dn;have yG:gP de e3 im:=by rw[hg];exact gP.iA (vH.aO (aa:=aa)) rt Tv _
    by_cases uM:hy=0
    ·have DN:¬((0:Int)<(hy:Int)):=by omega
     simp only[go_sem,seval,iC,bj,dQ,fH,gX,jM,e1 k (by omega),Dd,st O aa k JD hy,DN,NG];simp only[<-hg];refine⟨k,by omega,_,de,O.set k hy,e3,val bw im-hy*val bw m,rfl,by omega,oP,by omega,dn,by rw[vm];exact hO,m0.set c5,⟨⟨im,yG,cs,by rw[uM,Nat.zero_mul,x5]⟩,rt.mono pf⟩,v2,v1,?_,?_,?_,?_,?_⟩
     all_goals simp only[go_sem,seval,iC,bj,dQ,fH,gX]
    ·have DN:((0:Int)<(hy:Int)):=by omega
     have h3:=Wp (J:=J) (d6.aO (aa:=de)) (by omega) (d:=hy) c5;simp only[go_sem,seval,iC,bj,dQ,fH,gX,jM,e1 k (by omega),Dd,st O aa k JD hy,DN];simp only[<-hg];refine h3.run fun z dM f4 ss Ih=>?_;obtain⟨⟨w9,n1,hU,mX⟩,da⟩:=Ih;have EW:=yG.aO (aa:=dM);have atB:=Hq cs.1 hU (by rw[mX,js];exact e5);have Tw:=ajQ (J:=J) EW n1 hU (by simp at bF;omega) (by simp at bF;omega) (by rw[mX,js];exact e5);simp only[go_sem,seval];refine Tw.run fun Ii jf lY z7 Tx=>?_;obtain⟨⟨yB,Mm,w4,gl⟩,yx⟩:=Tx;have xN:aj de jf:=f4.aG lY;have Ty:=(xN.gt h.next).trans dn;have C5:=oP.aG xN;have Tz:aH h.next+1<=aH dM.next:=by have:=f4.g.next;omega
     have TA:aH h.next+1<=aH jf.next:=by have:=lY.g.next;omega
     simp only[go_sem,seval,gX,NG];refine⟨k,by omega,_,jf,O.set k hy,Ii,val bw im-hy*val bw m,rfl,by omega,C5,TA,Ty,by rw[vm];exact hO,m0.set c5,⟨⟨yB,Mm,w4,by rw[gl,mX,js]⟩,yx.mono Tz⟩,v2,v1,?_,?_,?_,?_,?_⟩
     all_goals simp only[go_sem,seval,iC,bj,dQ,gX]
 all_goals simp only[go_sem,seval]
theorem bB.aGO{h:H}{v:V}{k:IntKind}{l:List Nat}(s:bB h v 1 (dY k l)){g:P}{xs cV:List V}{ty gF:TypeId}(e:h.get g=some (.af xs ty))(ab:∀x∈xs,∀k n,x≠.int k n)(hlen:cV.length=xs.length):bB (h.set g (.af cV gF)) v 1 (dY k l):=by
 obtain⟨au,a|⟨f,il,off,cap,rfl,c⟩⟩:=s
 ·exact⟨au,.inl a⟩
 ·refine⟨au,.inr ⟨f,il,off,cap,rfl,?_⟩⟩;by_cases aE:f=g
  ·subst aE;obtain⟨cT,h1,ae,az⟩:=c;unfold live at h1;rw[e]at h1;have hk:il=0/\cT=xs:=by
    have h1:(match Nat.ble 0 il&&Nat.ble il 0 with|true=>some xs|false=>none)=some cT:=h1;by_cases hk:il=0
    ·subst hk;cases h1;exact⟨rfl,rfl⟩
    ·have:(Nat.ble 0 il&&Nat.ble il 0)=false:=by rw[hD,hD];simp;omega
     rw[this]at h1;cases h1
   obtain⟨rfl,rfl⟩:=hk;cases l with
   |nil=>exact⟨cV,rm jt (a1 _) (a1 _),by rw[hlen];exact ae,by simp[dY]⟩
   |cons n l=>
    exfalso;rw[yd]at ae az;have hm:V.int k (n:Nat)∈(cT.drop off).take (d8 k (n::l)).length:=by rw[az];simp[d8]
    exact ab _ (wN (wO hm)) k n rfl
  ·exact c.set _ aE
theorem Xm{b:Bool}{v:V}(ar:v.cells=[v])(h:∀k n,v≠.int k n):∀x∈[V.bool b,v],∀k n,x≠.int k n:=by
 intro x ab k n;rcases List.mem_cons.1 ab with rfl|ab
 ·intro e;cases e
 ·simp at ab;subst ab;exact h k n
theorem bB.Xm{h:H}{v:V}{es:Nat}{aV:List (List V)}(s:bB h v es aV):∀k n,v≠.int k n:=by
 obtain⟨au,⟨rfl,_⟩|⟨f,il,off,cap,rfl,c⟩⟩:=s
 ·intro k n e;cases e
 ·intro k n e;cases e
theorem jj.vh{n:Nat}{v:V}{h:H}(m:jj n v h){g:P}{b c:Bool}{x y:V}{ty gF:TypeId}(e:h.get g=some (.af [.bool b,x] ty))(ab:∀k n,x≠.int k n):jj n v (h.set g (.af [.bool c,y] gF)):=by
 obtain⟨l,q,cl,a7⟩:=m;refine⟨l,⟨q.ag.aGO e ?_ rfl,q.cap,q.lim⟩,cl,a7⟩;intro z aX k n;rcases List.mem_cons.1 aX with rfl|aX
 ·intro e;cases e
 ·simp at aX;subst aX;exact ab k n
theorem jj.OU{n:Nat}{v:V}{h:H}(m:jj n v h){g bR:P}[d:dp bR g]{b c b3 fT:Bool}{x y fM jv:V}{ty gF AT atC:TypeId}(e:h.get g=some (.af [.bool b,x] ty))(ab:∀k n,x≠.int k n)(cD:h.get bR=some (.af [.bool b3,fM] AT))(jN:∀k n,fM≠.int k n):jj n v ((h.set g (.af [.bool c,y] gF)).set bR (.af [.bool fT,jv] atC)):=by
 refine(m.vh (c:=c) (y:=y) (gF:=gF) e ab).vh (b:=b3) (x:=fM) (ty:=AT) ?_ jN;rw[GN];exact cD
theorem jj.len{n:Nat}{v:V}{h:H}(m:jj n v h){K:Nat}(j0:n<bw^K):∃l,gP h v l/\d3.Can bw l/\val bw l=n/\l.length<=K:=by
 obtain⟨l,q,c,e⟩:=m;refine⟨l,q,c,e,?_⟩;by_cases au:l=[]
 ·subst au;simp
 ·have h1:=c.ge au;rcases dz K l.length with q|q
  ·have:bw^K<=bw^(l.length-1):=vk wT (by omega);omega
  ·exact q
theorem ayD[bP:aK a]{v w:V}{l m:List Nat}(dd:gP a v l)(d6:gP a w m)(lb:d3.Can bw m)(iO:l.length<100000)(iP:m.length<100000)(pq:0<val bw m):
  cJ J a 345 [.agg [.bool false,v],.agg [.bool false,w]] (fun z h=>∃q r,z=.bk [.agg [.bool false,q],.agg [.bool false,r]]/\jj (val bw l/val bw m) q h/\jj (val bw l%val bw m) r h):=by
 refine cJ.bE ak.ahZ rfl fun h ca g=>?_;obtain⟨bU,e8⟩:∃b:P,b=h.next:=⟨_,rfl⟩
 obtain⟨bC,fW⟩:∃b:P,b=(h.new (.af [.bool false,v] 304)).next:=⟨_,rfl⟩
 obtain⟨b0,fB⟩:∃b:P,b=((h.new (.af [.bool false,v] 304)).new (.af [.bool false,w] 304)).next:=⟨_,rfl⟩
 obtain⟨cM,hB⟩:∃b:P,b=(((h.new (.af [.bool false,v] 304)).new (.af [.bool false,w] 304)).new (.af [.bool false,.al] 304)).next:=⟨_,rfl⟩
 obtain⟨H1,cR⟩:∃H:H,H=(((h.new (.af [.bool false,v] 304)).new (.af [.bool false,w] 304)).new (.af [.bool false,.al] 304)).new (.af [.bool false,.al] 304):=⟨_,rfl⟩
 have bW:aK H1:=by rw[cR];exact an
 have aB:aj h H1:=by rw[cR];exact an
 have dx:aj a H1:=g.aG aB;have a8:H1.get bU=some (.af [.bool false,v] 304):=by rw[cR,e8];simp only[go_sem,seval]
 have cc:H1.get bC=some (.af [.bool false,w] 304):=by rw[cR,fW];simp only[go_sem,seval]
 have dc:H1.get b0=some (.af [.bool false,.al] 304):=by rw[cR,fB];simp only[go_sem,seval]
 have dn:H1.get cM=some (.af [.bool false,.al] 304):=by rw[cR,hB];exact ef
 have dD:=aP a8;have gx:=aP cc;have hT:=aP dc;have g9:=aP dn;have ab2:dp b0 cM:=by rw[fB,hB];exact an
 have ab3:dp cM b0:=by rw[fB,hB];exact an
 have EK:eC b0 h:=by rw[fB];exact an
 have Cc:eC cM h:=by rw[hB];exact an
 have co:=ayC (J:=J) (dd.aO (aa:=H1)) (d6.aO (aa:=H1)) lb iO iP pq;simp only[ahY,go_sem,seval,nh,oV];simp only[<-e8,<-fW,<-fB,<-hB];simp only[<-cR];refine co.run fun z ae aY c3 da=>?_;obtain⟨q,r,rfl,⟨⟨o8,Rt,lf,eq⟩,_⟩,⟨⟨jL,yF,jz,Af⟩,_⟩⟩:=da;have kC:=aY.dW;have cO:=(aY.gt bU).trans a8;have c5:=(aY.gt bC).trans cc;have fw:=(aY.gt b0).trans dc;have uy:=(aY.gt cM).trans dn;have ey:aj h ae:=aB.aG aY;have aOi:o8.length<1000000:=by
  have:val bw o8<=val bw l:=by rw[eq];exact Nat.div_le_self _ _
  have:=Hq dd.lim lf this;omega
 have atx:jL.length<1000000:=by
  have:val bw jL<=val bw m:=by rw[Af];exact zR (qv _ pq)
  have:=Hq d6.lim jz this;omega
 have gO:=Bj (J:=J) Rt (by omega) false;have H7:=Bj (J:=J) yF (by omega) false;have TB:=Rt.trim;have adt:=yF.trim;rw[Zs lf]at TB;rw[Zs jz]at adt;rw[mg]at gO H7;have FP:=aBA Rt.ag.cell false;have Tk:=Gl yF.ag.cell;have ap2:=fK TB.ag;generalize r5 q o8=pQ at*;generalize r5 r jL=jH at*;have lh:∀(y:V) (h:H) (f:P),fz (some (.af [.bool false,.al] 304)) h f 2 0 0 2 (.agg [.bool false,y])=some (.bk [],h.set f (.af [.bool false,y] 304)):=fun y h f=>Bh _ _ _ _ rfl h f;simp only[go_sem,seval,cO,c5,fw,uy,wy,nh,Bi,Xl,oV,FP,Tk,gO.cl,gO.bL,H7.cl,H7.bL,lh,bQ,ap2];have H3:jj (val bw l/val bw m) pQ ae:=⟨o8,TB,lf,eq⟩;have Ij:jj (val bw l%val bw m) jH ae:=⟨jL,adt,jz,Af⟩;refine⟨_,_,rfl,?_,?_⟩
 ·refine jj.OU (b:=false) (x:=.al) (ty:=304) (b3:=false) (fM:=.al) (AT:=304) (H3.aO) ?_ (fun _ _ e=>by cases e) ?_ (fun _ _ e=>by cases e)
  all_goals simp only[go_sem,seval,fw,uy]
 ·refine jj.OU (b:=false) (x:=.al) (ty:=304) (b3:=false) (fM:=.al) (AT:=304) (Ij.aO) ?_ (fun _ _ e=>by cases e) ?_ (fun _ _ e=>by cases e)
  all_goals simp only[go_sem,seval,fw,uy]
theorem ayE[bP:aK a]{xa Ab:Bool}{v w:V}{x y:Nat}(dd:jj x v a)(d6:jj y w a){K:Nat}(j0:K<100000)(ab:x<bw^K)(ax:y<bw^K):
  cJ J a 231 [.agg [.bool xa,v],.agg [.bool Ab,w]] (fun z h=>∃k5,z=.agg [.bool false,k5]/\jj (Nat.gcd x y) k5 h):=by
 refine cJ.bE ak.agX rfl fun h ca g=>?_;obtain⟨bU,e8⟩:∃b:P,b=h.next:=⟨_,rfl⟩
 obtain⟨bC,fW⟩:∃b:P,b=(h.new (.af [.bool xa,v] 304)).next:=⟨_,rfl⟩
 obtain⟨b0,fB⟩:∃b:P,b=((h.new (.af [.bool xa,v] 304)).new (.af [.bool Ab,w] 304)).next:=⟨_,rfl⟩
 obtain⟨EX,FQ⟩:∃H:H,H=((h.new (.af [.bool xa,v] 304)).new (.af [.bool Ab,w] 304)).new (.af [.bool false,.al] 304):=⟨_,rfl⟩
 have fa:aK EX:=by rw[FQ];exact an
 have rz:aj h EX:=by rw[FQ];exact an
 have dX:EX.get bU=some (.af [.bool xa,v] 304):=by rw[FQ,e8];simp only[go_sem,seval]
 have e3:EX.get bC=some (.af [.bool Ab,w] 304):=by rw[FQ,fW];simp only[go_sem,seval]
 have j1:EX.get b0=some (.af [.bool false,.al] 304):=by rw[FQ,fB];exact ef
 have Nh:dp bU bC:=by rw[e8,fW];exact an
 have acK:dp bC bU:=by rw[e8,fW];exact an
 have arX:dp bU b0:=by rw[e8,fB];exact an
 have asw:dp b0 bU:=by rw[e8,fB];exact an
 have ab0:dp bC b0:=by rw[fW,fB];exact an
 have asx:dp b0 bC:=by rw[fW,fB];exact an
 have o5:eC bU h:=by rw[e8];exact an
 have ux:eC bC h:=by rw[fW];exact an
 have EK:eC b0 h:=by rw[fB];exact an
 have aOj:=aP dX;have aOk:=aP e3;have aOl:=aP j1;obtain⟨H1,cR⟩:∃H:H,H=(EX.set bU (.af [.bool false,v] 304)).set bC (.af [.bool false,w] 304):=⟨_,rfl⟩;have bW:aK H1:=by rw[cR];exact an
 have aB:aj h H1:=by rw[cR];exact an
 have a8:H1.get bU=some (.af [.bool false,v] 304):=by rw[cR];simp only[go_sem,seval]
 have cc:H1.get bC=some (.af [.bool false,w] 304):=by rw[cR];simp only[go_sem,seval]
 have dc:H1.get b0=some (.af [.bool false,.al] 304):=by rw[cR];simp only[go_sem,seval,j1]
 have dx:aj a H1:=g.aG aB;simp only[agW,go_sem,seval,wy];simp only[<-fW,<-fB];simp only[<-e8];simp only[<-FQ];simp only[go_sem,seval,dX,e3,OT];simp only[<-cR];refine lU (fun lx t=>∃I h1 bg hF fM jv,t=⟨I,[],h1⟩/\aj h h1/\lx=jv/\h1.get bU=some (.af [.bool false,bg] 304)/\h1.get bC=some (.af [.bool false,hF] 304)/\h1.get b0=some (.af [.bool false,.al] 304)/\jj fM bg h1/\jj jv hF h1/\fM<bw^K/\jv<bw^K/\Nat.gcd x y=Nat.gcd fM jv/\
  I.gt 2=.ptr bU 0 0 2/\I.gt 3=.ptr bC 0 0 2/\I.gt 4=.ptr b0 0 0 2) ?_ (m:=y) ⟨_,H1,v,w,x,y,rfl,aB,rfl,a8,cc,dc,dd.aO,d6.aO,ab,ax,rfl,?_,?_,?_⟩
 ·rintro lx t ⟨I,h1,bg,hF,fM,jv,rfl,aB,rfl,a8,cc,dc,Mi,uC,jN,sE,aC,cq,aR,bZ⟩;have bW:=aB.bx;have dD:=aP a8;have gx:=aP cc;have hT:=aP dc;obtain⟨cZ,TC,uE,EN,oe⟩:=Mi.len jN;obtain⟨fL,JE,h3,dr,aOm⟩:=uC.len sE;have aOn:=fK TC.ag;have atD:=fK JE.ag;rcases nS lx with av|pq
  ·subst av;have tG:fL=[]:=h3.zero dr;have pe:¬((0:Int)<(fL.length:Int)):=by rw[tG];simp
   rw[aC,Nat.gcd_zero_right];simp only[go_sem,seval,cq,aR,bZ,a8,cc,dc,wy,nh,Bi,oV,JE.ag.a2,dy,pe,Bh _ _ _ [.bool false,bg] rfl];refine⟨_,rfl,Mi.vh dc (fun _ _ e=>by cases e)⟩
  ·have Jb:fL≠[]:=by rintro rfl;simp[val]at dr;omega
   have pe:((0:Int)<(fL.length:Int)):=by
    have:fL.length≠0:=fun e=>Jb (tb e);omega
   have co:=ayD (J:=J) TC JE h3 (by omega) (by omega) (by rw[dr];exact pq);rw[EN,dr]at co;simp only[go_sem,seval,cq,aR,a8,cc,nh,Bi,oV,JE.ag.a2,dy,pe];refine co.run fun z ae aY c3 da=>?_;obtain⟨q,r,rfl,H3,Ij⟩:=da;have kC:=aY.dW;have cO:=(aY.gt bU).trans a8;have c5:=(aY.gt bC).trans cc;have fw:=(aY.gt b0).trans dc;have ey:=aB.aG aY;obtain⟨jL,yF,jz,Af⟩:=Ij;have kh:=fK yF.ag;have tp:jj lx hF ae:=uC.aO;have Ij:jj (fM%lx) r ae:=⟨jL,yF,jz,Af⟩;have lh:∀(y:V) (h:H) (f:P),fz (some (.af [.bool false,.al] 304)) h f 2 0 0 2 (.agg [.bool false,y])=some (.bk [],h.set f (.af [.bool false,y] 304)):=fun y h f=>Bh _ _ _ _ rfl h f;have Ag:∀(x y:V) (h:H) (f:P),fz (some (.af [.bool false,x] 304)) h f 2 0 0 2 (.agg [.bool false,y])=some (.bk [],h.set f (.af [.bool false,y] 304)):=fun x y h f=>Bh _ _ _ _ rfl h f;simp only[go_sem,seval,cq,aR,cO,c5,Bi,Ag,kh,atD];have ay:fM%lx<lx:=qv _ pq;have adu:∀k n,bg≠.int k n:=TC.ag.Xm;have adv:∀k n,hF≠.int k n:=JE.ag.Xm;refine⟨fM%lx,ay,_,_,hF,r,lx,fM%lx,rfl,an,rfl,?_,?_,?_,?_,?_,sE,by omega,?_,?_,?_,?_⟩
   ·simp only[go_sem,seval]
   ·simp only[go_sem,seval]
   ·simp only[go_sem,seval,fw]
   ·refine jj.OU (b:=false) (x:=bg) (ty:=304) (b3:=false) (fM:=hF) (AT:=304) tp.aO ?_ adu ?_ adv
    all_goals simp only[go_sem,seval,cO,c5]
   ·refine jj.OU (b:=false) (x:=bg) (ty:=304) (b3:=false) (fM:=hF) (AT:=304) Ij.aO ?_ adu ?_ adv
    all_goals simp only[go_sem,seval,cO,c5]
   ·rw[aC,Nat.gcd_comm,Nat.gcd_rec,Nat.gcd_comm]
   all_goals simp only[go_sem,seval,cq,aR,bZ]
 all_goals simp only[go_sem,seval]
theorem wrap_u8{n:Nat}(h:n<256):b8 .u8 (n:Int)=(n:Int):=by
 have ah:Nat.blt n 256=true:=by rw[lv];exact h
 show(match Nat.blt n 256 with|true=>Int.ofNat n|false=>IntKind.wrap .u8 (.ofNat n))=_;rw[ah];rfl
theorem aBB(m:Nat):Dk (.ad 0) (.ad ((m:Int) -4))=some (.ad ((m-4:Nat):Int)):=by
 show some (V.ad (match oI 0 ((m:Int) -4)with|true=>(m:Int) -4|false=>0))=_
 rw[pE];by_cases h:(0:Int)<(m:Int) -4
 ·simp only[h,hX];congr 2;omega
 ·simp only[h,qw];congr 2;omega
theorem aK3{s:List Nat}{m:Nat}(hm:m<=s.length):dec (s.take m)=dec (s.take (m-4))*bw+dec ((s.take m).drop (m-4))\/(dec (s.take (m-4))=0/\dec (s.take m)=dec ((s.take m).drop (m-4))):=by
 by_cases h:4<=m
 ·left;have e:s.take m=s.take (m-4)++(s.take m).drop (m-4):=by
   have:=zI (m-4) (s.take m);rw[wV,nl (by omega)]at this;exact this.symm
  have au:((s.take m).drop (m-4)).length=4:=by rw[jG,el];omega
  conv=>lhs;rw[e]
  rw[QK,au];rfl
 ·right;have:m-4=0:=by omega
  rw[this];exact⟨by simp[dec],by simp⟩
theorem ajR{s:List Nat}(h:rl s)(au:s.length<=4):dec s<10000:=by
 have h1:=dec_lt h;have ae:10^s.length<=10^4:=vk (by omega) au;have az:(10:Nat)^4=10000:=by decide
 omega
theorem ayF{s:List Nat}(aA:rl s)(au:s.length<=1000){aJ:H}{m:Nat}(hm:m<=s.length){I:Fr}{k:c4}
  (bq:I.gt 0=.str s) (bZ:I.gt 4=.ad (m:Nat)) (bu:I.gt 5=.ad 0) (cj:I.gt 6=.ad (m-4:Nat))
  (eu:∀aQ,aQ.gt 0=.str s->aQ.gt 2=I.gt 2->aQ.gt 3=I.gt 3->aQ.gt 4=.ad (m:Nat) ->aQ.gt 5=.ad (dec ((s.take m).drop (m-4)):Nat) ->k.run J (.exit 2 ⟨aQ,[],aJ⟩)):dA J aly ⟨I,[],aJ⟩ k:=by
 generalize FO:I.gt 2=v2 at eu;generalize AG:I.gt 3=eU at eu;unfold aly;refine lU (fun lx t=>∃I i,t=⟨I,[],aJ⟩/\m-4<=i/\i<=m/\lx=m-i/\I.gt 0=.str s/\I.gt 2=v2/\I.gt 3=eU/\I.gt 4=.ad (m:Nat)/\I.gt 5=.ad (dec ((s.take i).drop (m-4)):Nat)/\I.gt 6=.ad (i:Nat)) ?_ (m:=m-(m-4)) ⟨I,m-4,rfl,a1 _,by omega,rfl,bq,FO,AG,bZ,by rw[bu,Eo (by rw[el];omega)];rfl,cj⟩
 rintro lx t ⟨I,i,rfl,uP,m3,rfl,bq,FO,AG,bZ,bu,cj⟩;by_cases ai:i<m
 ·have ay:((i:Int)<(m:Int)):=by omega
  obtain⟨c,U⟩:=bI (l:=s) (i:=i) (by omega);have a3:=aA c (c0 U);have e:(s.take (i+1)).drop (m-4)=(s.take i).drop (m-4)++[c]:=by
   rw[nq U,List.drop_append_of_le_length (by rw[el];omega)]
  have gC:rl ((s.take (i+1)).drop (m-4)):=fun x ab=>aA x (wO (wN ab))
  have ah:=ajR gC (by rw[jG,el];omega);have oa:=YK ((s.take i).drop (m-4)) c
  rw[<-e]at oa;generalize dec ((s.take i).drop (m-4))=D at bu oa
  have b5:b8 .i64 (10*(D:Int))=((10*D:Nat):Int):=by rw[show 10*(D:Int)=((10*D:Nat):Int) by omega];exact wrap_i64 (by omega)
  have d7:b8 .u8 ((c:Int) -48)=((c-48:Nat):Int):=by rw[show(c:Int) -48=((c-48:Nat):Int) by omega];exact wrap_u8 (by omega)
  have jW:b8 .i64 ((c-48:Nat):Int)=((c-48:Nat):Int):=wrap_i64 (by omega)
  have iq:b8 .i64 (((10*D:Nat):Int)+((c-48:Nat):Int))=((dec ((s.take (i+1)).drop (m-4)):Nat):Int):=by rw[<-se,oa];exact wrap_i64 (by omega)
  simp only[go_sem,seval,bq,bZ,bu,cj,ay,tN U,xV,rW,q9,b5,d7,jW,iq,cG (show i<9223372036854775807 by omega)];refine⟨m-(i+1),by omega,_,i+1,rfl,by omega,by omega,rfl,?_,?_,?_,?_,?_,?_⟩
  all_goals simp only[go_sem,seval,bq,FO,AG,bZ]
 ·have ay:¬((m:Int)<(m:Int)):=by omega
  have atE:i=m:=by omega
  rw[atE]at bu cj;simp only[go_sem,seval,bZ,cj,ay];refine eu _ ?_ ?_ ?_ ?_ ?_
  all_goals simp only[go_sem,seval,bq,FO,AG,bZ,bu]
theorem ajS{s:List Nat}(aA:rl s)(au:s.length<=1000){aJ:H}[ca:aK aJ][eZ:aj a aJ]{bU bC:P}{neg:Bool}(_:eC bC a)(_:dp bU bC)(bd:aJ.get bU=some (.af [.bool false,.al] 304))(bO:aJ.get bC=some (.af [.bool neg,.al] 304)){I:Fr}{k:c4}
  (bq:I.gt 0=.str s) (cq:I.gt 2=.ptr bU 0 0 2) (aR:I.gt 3=.ptr bC 0 0 2) (bZ:I.gt 4=.ad (s.length:Nat))
  (eu:∀aQ aa v out,aj a aa->aa.get bU=some (.af [.bool false,.al] 304) ->aa.get bC=some (.af [.bool neg,v] 304) ->gP aa v out->l1 (aH aJ.next) v->out.length<=1000->val bw out=dec s->aQ.gt 2=.ptr bU 0 0 2->aQ.gt 3=.ptr bC 0 0 2->k.run J (.exit 0 ⟨aQ,[],aa⟩)):dA J alz ⟨I,[],aJ⟩ k:=by
 have xd:=u7;have gx:=aP bO;have dD:=aP bd;have im:aH bC<aH aJ.next:=gx.lt
 have k7:aH bU<aH aJ.next:=dD.lt
 unfold alz;refine lU (fun lx t=>∃I h1 v out e,t=⟨I,[],h1⟩/\lx=Int.toNat e/\(e:Int)<=s.length/\-1000<=e/\aj a h1/\aH aJ.next<=aH h1.next/\h1.get bU=some (.af [.bool false,.al] 304)/\h1.get bC=some (.af [.bool neg,v] 304)/\bD 3 1 (aH aJ.next) h1 v (dY .i64 out)/\fA bw out/\out.length+e.toNat<=s.length/\val bw out+bw^out.length*dec (s.take e.toNat)=dec s/\
  I.gt 0=.str s/\I.gt 2=.ptr bU 0 0 2/\I.gt 3=.ptr bC 0 0 2/\I.gt 4=.ad e) ?_ (m:=s.length) ⟨I,aJ,.al,[],(s.length:Int),rfl,by simp,Int.le_refl _,by omega,eZ,a1 _,bd,bO,.nil _ _ _ _,Po,by simp,by simp[val],bq,cq,aR,bZ⟩
 rintro lx t ⟨I,h1,v,out,e,rfl,rfl,yQ,tJ,aB,pf,a8,cc,dt,br,hlen,ar,bq,cq,aR,bZ⟩;have bW:=aB.bx;have gx:=aP cc;have dD:=aP a8;by_cases he:0<e
 ·obtain⟨m,rfl⟩:∃m:Nat,e=(m:Int):=⟨e.toNat,by omega⟩;rw[Ld]at*;have atF:(0:Int)<(m:Int):=he;have hm:m<=s.length:=by omega
  have iq:b8 .i64 ((m:Int) -4)=(m:Int) -4:=gz (by omega) (by omega)
  have Cz:=aK3 (s:=s) hm;have Nk:rl ((s.take m).drop (m-4)):=fun x ab=>aA x (wO (wN ab))
  have aOo:=ajR Nk (by rw[jG,el];omega);simp only[go_sem,seval,bq,bZ,atF,rW,iq,aBB];refine ayF aA au hm (by simp only[go_sem,seval,bq]) (by simp only[go_sem,seval,bZ]) (by simp only[go_sem,seval]) (by simp only[go_sem,seval]) ?_;intro aQ fy cO c5 fw uy;replace cO:=cO.trans (by simp only[go_sem,seval,cq]:_=V.ptr bU 0 0 2);replace c5:=c5.trans (by simp only[go_sem,seval,aR]:_=V.ptr bC 0 0 2);generalize dec ((s.take m).drop (m-4))=c at*
  have ee:bB (h1.new (.af [.ad (c:Nat)] 3)) (.ag h1.next 0 0 1 1 (some 1)) 1 (dY .i64 [c]):=nY (l:=[c]) ef _;obtain⟨eU,az,atG,iH,et⟩:=uh (bytes:=8) (dt.aO (aa:=h1.new (.af [.ad (c:Nat)] 3)) an) ee (by rw[fF,gu];omega) (by simp only[dy,eG,eJ];omega) (by simp only[dy,eG,eJ];omega);have fo:=et.ok;have vC:=et.dW;have b4:aj a az:=et.aO a eZ.g.next
  have JF:az.get bU=some (.af [.bool false,.al] 304):=by rw[et.gt (by omega),j9,a8]
  have JG:az.get bC=some (.af [.bool neg,v] 304):=by rw[et.gt (by omega),j9,cc]
  have aOp:=aP JG;have iH:bD 3 1 (aH aJ.next) az eU (dY .i64 (out++[c])):=by
   have:dY .i64 out++dY .i64 [c]=dY .i64 (out++[c]):=by simp[dY]
   rwa[this]at iH
  have atH:=et.next
  rw[fF,gu]at atH;simp only[go_sem,seval,c5,fw,uy,nh,oV,cc,Gk,atG,Wm _ _ _ _ iH.ag.cell,JG,rW,iq];have IX:=alN bw (c6:=val bw out) (p:=bw^out.length) (q:=dec (s.take (m-4))) (c:=c) ar Cz;have em:((m:Int) -4).toNat=m-4:=by omega
  refine⟨((m:Int) -4).toNat,by omega,_,_,eU,out++[c],(m:Int) -4,rfl,rfl,by omega,by omega,an,by rw[Hf];omega,by simp only[go_sem,seval,JF],jt,iH.iA im _,Xh br (by omega),?_,?_,?_,?_,?_,?_⟩
  ·rw[em,fi,eG,eJ];omega
  ·rw[em,zX,fi,eG,eJ,Nat.pow_add];simpa[val,oq,qs]using IX
  all_goals simp only[go_sem,seval,fy,cO,c5]
 ·have Ru:e.toNat=0:=by omega
  rw[Ru,BO]at ar;simp only[go_sem,seval,bZ,he];refine eu _ _ v out aB a8 cc (gP.own dt br) dt.rt (by omega) (by simpa[dec]using ar) ?_ ?_
  all_goals simp only[go_sem,seval,cq,aR]
theorem ajT[bP:aK a]{s:List Nat}(bV:s≠[])(aA:rl (body s))(au:(body s).length<=1000):cJ J a 232 [.str s] (fun z h=>∃b k5,z=.agg [.bool b,k5]/\jj (dec (body s)) k5 h):=by
 refine cJ.bE ak.agY rfl fun h ca g=>?_;obtain⟨bU,e8⟩:∃b:P,b=h.next:=⟨_,rfl⟩
 obtain⟨bC,fW⟩:∃b:P,b=(h.new (.af [.bool false,.al] 304)).next:=⟨_,rfl⟩
 obtain⟨H1,cR⟩:∃H:H,H=(h.new (.af [.bool false,.al] 304)).new (.af [.bool false,.al] 304):=⟨_,rfl⟩;have bW:aK H1:=by rw[cR];exact an
 have aB:aj h H1:=by rw[cR];exact an
 have a8:H1.get bU=some (.af [.bool false,.al] 304):=by rw[cR,e8];simp only[go_sem,seval]
 have cc:H1.get bC=some (.af [.bool false,.al] 304):=by rw[cR,fW];exact ef
 have Nh:dp bU bC:=by rw[e8,fW];exact an
 have acK:dp bC bU:=by rw[e8,fW];exact an
 have o5:eC bU h:=by rw[e8];exact an
 have ux:eC bC h:=by rw[fW];exact an
 have dD:=aP a8;have gx:=aP cc;have fin:∀(neg:Bool) (aQ:Fr) (aa:H) (v:V) (out:List Nat),aj h aa->aa.get bU=some (.af [.bool false,.al] 304) ->aa.get bC=some (.af [.bool neg,v] 304) ->gP aa v out->out.length<=1000->val bw out=dec (body s) ->aQ.gt 2=.ptr bU 0 0 2->aQ.gt 3=.ptr bC 0 0 2->
   c4.run J (.bS 0 (.seq (.seq (.cF [fv 41 (.load true 2 (T 3)),ru 42 (w5 346) [(T 41)],uw (.wr (.store 2 (T 2) (T 42)))]) .ret) (.ret [.cell (a0 2) true 2] fun w aa=>aj h aa/\∃b k5,w=.agg [.bool b,k5]/\jj (dec (body s)) k5 aa))) (.exit 0 ⟨aQ,[],aa⟩):=by
  intro neg aQ aa v out bR cO c5 pX a6 ar cq aR;have ch:=bR.bx;have aOq:=aP cO;have Tr:=aP c5;have gO:=Bj (J:=J) pX (by omega) neg;have vH:=pX.trim;have lh:∀(b:Bool) (y:V) (h:H) (f:P),fz (some (.af [.bool false,.al] 304)) h f 2 0 0 2 (.agg [.bool b,y])=some (.bk [],h.set f (.af [.bool b,y] 304)):=fun b y h f=>Bh _ _ _ _ rfl h f;simp only[go_sem,seval,cq,aR,cO,c5,Bi,gO.cl,lh];have fN:jj (dec (body s)) (r5 v out) aa:=⟨strip out,vH,yj pX.lim,by rw[yi];exact ar⟩;refine⟨_,_,rfl,jj.vh (b:=false) (x:=.al) (ty:=304) fN.aO ?_ (fun _ _ e=>by cases e)⟩;simp only[go_sem,seval,cO]
 cases s with
 |nil=>exact absurd rfl bV
 |cons c r=>
  by_cases U:c=45
  ·subst U;have v8:=Ev (45::r) (n:=1) (by simp);simp only[go_sem,seval]at v8;have ah:body (45::r)=r:=rfl;rw[ah]at aA au fin⊢;obtain⟨eb,ff⟩:∃H:H,H=H1.set bC (.af [.bool true,.al] 304):=⟨_,rfl⟩;have c3:aK eb:=by rw[ff];exact an
   have aY:aj h eb:=by rw[ff];exact an
   have cO:eb.get bU=some (.af [.bool false,.al] 304):=by rw[ff];simp only[go_sem,seval,a8]
   have c5:eb.get bC=some (.af [.bool true,.al] 304):=by rw[ff];exact jt
   simp only[Kf,go_sem,seval,rK];simp only[<-fW];simp only[<-e8];simp only[<-cR];simp only[go_sem,seval,wy,cc,OT,v8,gS];simp only[<-ff];refine ajS (a:=h) (bU:=bU) (bC:=bC) (neg:=true) aA au ux Nh cO c5 (by simp only[go_sem,seval]) (by simp only[go_sem,seval]) (by simp only[go_sem,seval]) (by simp only[go_sem,seval]) ?_;intro aQ aa v out bR dX e3 pX rt a6 ar cq aR;exact fin true aQ aa v out bR dX e3 pX a6 ar cq aR
  ·have ah:=Yo (r:=r) U;rw[ah]at aA au fin⊢;have iw:¬((c:Int)=45):=by omega
   simp only[Kf,go_sem,seval,rK,iw,gS];simp only[<-fW];simp only[<-e8];simp only[<-cR];refine ajS (a:=h) (bU:=bU) (bC:=bC) (neg:=false) aA au ux Nh a8 cc (by simp only[go_sem,seval]) (by simp only[go_sem,seval]) (by simp only[go_sem,seval]) (by simp only[go_sem,seval];try rfl) ?_;intro aQ aa v out bR dX e3 pX rt a6 ar cq aR;exact fin false aQ aa v out bR dX e3 pX a6 ar cq aR
def Xn(h:H)(v:V):Option V:=match v with
 |.al=>some (.str [])
 |.ag f k off len es _=>match Nat.beq es 1 with
  |true=>match lu (live h f k) off len with
   |some cs=>match zL cs with
    |some s=>some (.str s)
    |none=>none
   |none=>none
  |false=>none
 |_=>none
theorem aGP(x:X)(I:Fr)(h:H):(IR.FW x).f I h=Xn h (x.a7 I):=rfl
theorem aoA:∀l:List Nat,(∀b∈l,b<256) ->zL (d8 .u8 l)=some l
 |[],_=>rfl
 |x::l,h=>by
  have:=aoA l fun b ah=>h b (x9 _ ah);have ab:Nat.blt x 256=true:=by rw[lv];exact h x (by simp)
  show(match Nat.blt x 256 with|true=>(match zL (d8 .u8 l)with|some s=>some (x::s)|none=>none)|false=>none)=_;rw[ab,this]
theorem bB.FW{h:H}{v:V}{l:List Nat}(s:bB h v 1 (dY .u8 l))(ah:∀b∈l,b<256):Xn h v=some (.str l):=by
 obtain⟨au,⟨rfl,e⟩|⟨f,k,off,cap,rfl,c⟩⟩:=s
 ·have:l=[]:=by
   have:=lP List.length e;rw[dy]at this;exact tb this
  subst this;rfl
 ·have:=c.all (n:=l.length) (by rw[yd,zK]);rw[yd]at this;have aN:Nat.beq 1 1=true:=rfl;simp only[Xn,aN,dy,this,aoA l ah]
def sP(x:Nat):List Nat:=(List.range 4).map fun k=>48+x/10^k%10
def jJ(l:List Nat):List Nat:=(l.map sP).flatten
theorem Hb(x:Nat):(sP x).length=4:=rfl
theorem Eh(x:Nat){k:Nat}(h:k<4):(sP x)[k]?=some (48+x/10^k%10):=by
 unfold sP;rw[ij,List.getElem?_range h];rfl
theorem XY:∀l:List Nat,(jJ l).length=4*l.length
 |[]=>rfl
 |x::l=>by
  have:=XY l;show(sP x++jJ l).length=_;rw[fi,this,Hb,eG];omega
theorem aGQ{l:List Nat}{i x:Nat}(h:l[i]?=some x):jJ (l.take (i+1))=jJ (l.take i)++sP x:=by
 rw[nq h];simp[jJ]
theorem ayG{x:Nat}(ab:x<bw)(h:∀y∈sP x,y=48):x=0:=by
 have av:=h (48+x/10^0%10) (c0 (Eh x (k:=0) (by omega)));have h1:=h (48+x/10^1%10) (c0 (Eh x (k:=1) (by omega)));have ae:=h (48+x/10^2%10) (c0 (Eh x (k:=2) (by omega)));have az:=h (48+x/10^3%10) (c0 (Eh x (k:=3) (by omega)));have xd:=u7;simp at av h1 ae az;omega
theorem Yp:∀{l:List Nat},d3.Can bw l->(∀y∈jJ l,y=48) ->l=[]
 |[],_,_=>rfl
 |x::l,c,h=>by
  have au:jJ (x::l)=sP x++jJ l:=rfl;have aN:x=0:=ayG (c.1 x (by simp)) fun y ax=>h y (by rw[au];exact List.mem_append_left _ ax);have bd:l=[]:=Yp c.tail fun y ax=>h y (by rw[au];exact List.mem_append_right _ ax);subst aN;subst bd;exact(c.2 rfl).elim
theorem aEl{l:List Nat}(c:d3.Can bw l){n:Nat}(aq:0<n)(qU:n<=(jJ l).length)(h1:(jJ l)[n-1]?≠some 48)(ae:∀j y,n<=j->(jJ l)[j]?=some y->y=48):((jJ l).take n).reverse=[49]↔val bw l=1:=by
 have xd:=u7;constructor
 ·intro e;have oC:n=1:=by
   have:=lP List.length e;rw[List.length_reverse,el]at this;simp at this;omega
  subst oC;cases l with
  |nil=>simp[jJ]at qU
  |cons x l=>
   have au:jJ (x::l)=sP x++jJ l:=rfl;have rz:(jJ (x::l))[0]?=some (48+x/10^0%10):=by rw[au,nP (by rw[Hb];omega)];exact Eh x (by omega)
   have HE:∀k,k<4->(jJ (x::l))[k]?=some (48+x/10^k%10):=fun k hk=>by rw[au,nP (by rw[Hb];omega)];exact Eh x hk
   have fk:(jJ (x::l)).take 1=[48+x/10^0%10]:=by rw[nq rz];rfl
   rw[fk]at e;simp at e;have bW:=ae 1 _ (by omega) (HE 1 (by omega));have c3:=ae 2 _ (by omega) (HE 2 (by omega));have fo:=ae 3 _ (by omega) (HE 3 (by omega));have ab:=c.1 x (by simp);simp at bW c3 fo;have ex:x=1:=by omega
   have bA:l=[]:=Yp c.tail fun y ax=>by
    obtain⟨j,a5⟩:=List.mem_iff_getElem?.1 ax;refine ae (4+j) y (by omega) ?_;rw[au,oo (by rw[Hb];omega),Hb,Nat.add_sub_cancel_left];exact a5
   subst ex;subst bA;simp[val]
 ·intro e;have c1:d3.Can bw [1]:=⟨fun x ab=>by simp at ab;omega,by simp⟩;have:l=[1]:=d3.Can.ext c c1 (by rw[e];simp[val]);subst this;have a3:jJ [1]=[49,48,48,48]:=rfl;rw[a3]at h1 qU⊢
  match n,aq,qU,h1 with
  |1,_,_,_=>rfl
  |2,_,_,h1=>exact absurd rfl h1
  |3,_,_,h1=>exact absurd rfl h1
  |4,_,_,h1=>exact absurd rfl h1
  |n+5,_,h,_=>simp at h
theorem ajU(ty:TypeId)(x:Int):g6 ty 1 1 [.int .u8 0] [(0,1,.int .u8 x)]=some (.af [.int .u8 x] ty,fun f=>.ag f 0 0 1 1 (some 1)):=rfl
theorem akW{fb:Nat}{av h:H}{d:V}{D:List Nat}[k:aK h](g:aj av h)(tG:aH av.next<=fb)(rJ:fb<=aH h.next)(dt:bD 5 1 fb h d (dY .u8 D))(gC:D.length<=10000000)(y:Nat):
  ∃o4 aa,pt (h.new (.af [.int .u8 (y:Nat)] 5)) 5 1 1 d (.ag h.next 0 0 1 1 (some 1))=some (o4,aa)/\bD 5 1 fb aa o4 (dY .u8 (D++[y]))/\aj av aa/\fb<=aH aa.next:=by
 have ee:bB (h.new (.af [.int .u8 (y:Nat)] 5)) (.ag h.next 0 0 1 1 (some 1)) 1 (dY .u8 [y]):=nY (l:=[y]) ef _;obtain⟨eU,az,bO,iH,et⟩:=uh (bytes:=1) (dt.aO (aa:=h.new (.af [.int .u8 (y:Nat)] 5)) an) ee (by rw[fF,gu];omega) (by simp only[dy,eG,eJ];omega) (by simp only[dy,eG,eJ];omega);have aq:=et.next
 rw[fF,gu]at aq;refine⟨eU,az,bO,?_,et.aO av tG,by omega⟩;have:dY .u8 D++dY .u8 [y]=dY .u8 (D++[y]):=by simp[dY]
 rwa[this]at iH
theorem ayH{fb:Nat}{av aJ:H}[ca:aK aJ](g:aj av aJ)(tG:aH av.next<=fb)(rJ:fb<=aH aJ.next){d:V}{D:List Nat}(dt:bD 5 1 fb aJ d (dY .u8 D))(gC:D.length<=1000000){x:Nat}(ab:x<bw){I:Fr}{k:c4}
  (aR:I.gt 3=d) (bu:I.gt 5=.ad (x:Nat)) (cj:I.gt 6=.ad 0)
  (eu:∀aQ aa o4,aj av aa->fb<=aH aa.next->bD 5 1 fb aa o4 (dY .u8 (D++sP x)) ->aQ.gt 1=I.gt 1->aQ.gt 3=o4->aQ.gt 4=I.gt 4->k.run J (.exit 2 ⟨aQ,[],aa⟩)):dA J alx ⟨I,[],aJ⟩ k:=by
 have xd:=u7;generalize NH:I.gt 1=v1 at eu;generalize tO:I.gt 4=v4 at eu;unfold alx;refine dK 4 (fun j t=>∃I h1 o4,t=⟨I,[],h1⟩/\aj av h1/\fb<=aH h1.next/\bD 5 1 fb h1 o4 (dY .u8 (D++(sP x).take j))/\I.gt 1=v1/\I.gt 3=o4/\I.gt 4=v4/\I.gt 5=.ad (x/10^j:Nat)/\I.gt 6=.ad (j:Nat)) ?_ ?_ (dk _) ⟨I,aJ,d,rfl,g,rJ,by rw[BO,qy];exact dt,NH,aR,tO,by rw[bu,Nat.pow_zero,Nat.div_one],cj⟩
 ·rintro j t a5 ⟨I,h1,o4,rfl,aB,pf,dt,f1,aR,bZ,bu,cj⟩;have bW:=aB.bx;have ay:((j:Int)<4):=by omega
  have a3:=Eh x a5;have aM:x/10^(j+1)=x/10^j/10:=by rw[pK,Nat.div_div_eq_div_mul]
  have hle:x/10^j<=x:=Nat.div_le_self _ _;have hlen:(D++(sP x).take j).length<=10000000:=by rw[fi,el,Hb];omega
  obtain⟨d2,ae,bd,dD,aY,iP⟩:=akW aB tG pf dt hlen (48+x/10^j%10);rw[nk,<-nq a3]at dD;generalize aq:x/10^j=n at*;have gw:=Km .int .i64 n 10 (by omega);have jy:=DH .int .i64 n 10 (by omega);have Ce:((10:Nat):Int)=10:=rfl
  rw[Ce]at gw jy;have aI:n%10<10:=qv _ (by omega);have atI:n/10<=n:=Nat.div_le_self _ _;generalize n%10=r at gw aI bd;generalize n/10=q at jy atI aM;have w7:b8 .i64 (q:Int)=(q:Int):=wrap_i64 (by omega);rw[w7]at jy;have b5:b8 .i64 (48+(r:Int))=((48+r:Nat):Int):=by rw[show 48+(r:Int)=((48+r:Nat):Int) by omega];exact wrap_i64 (by omega)
  have d7:b8 .u8 ((48+r:Nat):Int)=((48+r:Nat):Int):=wrap_u8 (by omega)
  simp only[go_sem,seval,aR,bu,cj,ay,q9,amd,gw,jy,b5,d7,ajU,bd,cG (show j<9223372036854775807 by omega)];refine⟨_,ae,d2,rfl,aY,iP,dD,?_,?_,?_,?_,?_⟩
  all_goals simp only[go_sem,seval,f1,bZ,aM]
 ·rintro t ⟨I,h1,o4,rfl,aB,pf,dt,f1,aR,bZ,bu,cj⟩;have bW:=aB.bx;have ay:¬((4:Int)<4):=by decide
  have JC:I.gt 6=.ad 4:=cj;simp only[go_sem,seval,JC,ay];rw[show(sP x).take 4=sP x from rfl]at dt;refine eu _ h1 o4 aB pf dt ?_ ?_ ?_
  all_goals simp only[go_sem,seval,f1,aR,bZ]
theorem ayI{aJ:H}[ca:aK aJ]{d:V}{D:List Nat}(s:bB aJ d 1 (dY .u8 D))(gC:D.length<=1000000){p y:Nat}(bh:D[p]?=some y)(ax:y≠48){I:Fr}{k:c4}
  (aR:I.gt 3=d) (cH:I.gt 7=.ad (D.length:Nat))
  (eu:∀aQ n,0<n->n<=D.length->D[n-1]?≠some 48->(∀j y,n<=j->D[j]?=some y->y=48) ->aQ.gt 1=I.gt 1->aQ.gt 3=d->aQ.gt 7=.ad (n:Nat) ->k.run J (.exit 4 ⟨aQ,[],aJ⟩)):dA J alw ⟨I,[],aJ⟩ k:=by
 generalize NH:I.gt 1=v1 at eu;have AI: p<D.length:=by
  rcases dz p D.length with q|q
  ·exact q
  ·rw[ei q]at bh;cases bh
 unfold alw;refine lU (fun n t=>∃I,t=⟨I,[],aJ⟩/\p<n/\n<=D.length/\(∀j y,n<=j->D[j]?=some y->y=48)/\I.gt 1=v1/\I.gt 3=d/\I.gt 7=.ad (n:Nat)) ?_ (m:=D.length) ⟨I,rfl,AI,a1 _,(fun j y a5 e=>by rw[ei a5]at e;cases e),NH,aR,cH⟩;rintro n t ⟨I,rfl,aOr,aq,aX,f1,aR,cH⟩;obtain⟨c,U⟩:=bI (l:=D) (i:=n-1) (by omega);have b5:b8 .i64 ((n:Int) -1)=((n-1:Nat):Int):=pM (by omega) (by omega)
 have bJ:=s.addr (i:=n-1) (by rw[dy];omega);have cY:=s.bM (jr U);by_cases vW:c=48
 ·subst vW;simp only[go_sem,seval,aR,cH,b5,bJ,cY];refine⟨n-1,by omega,_,rfl,?_,by omega,?_,?_,?_,?_⟩
  ·have: p≠n-1:=by rintro rfl;rw[bh]at U;cases U;exact ax rfl
   omega
  ·intro j y a5 e;rcases dz j n with q|q
   ·have:j=n-1:=by omega
    subst this;rw[U]at e;cases e;rfl
   ·exact aX j y q e
  all_goals simp only[go_sem,seval,f1,aR]
 ·have ayJ:¬((c:Int)=48):=by omega
  simp only[go_sem,seval,aR,cH,b5,bJ,cY,ayJ];refine eu _ n (by omega) aq (by rw[U];simpa using vW) aX ?_ ?_ ?_
  all_goals simp only[go_sem,seval,f1,aR,cH]
theorem ayK{aJ:H}[ca:aK aJ]{d:V}{D:List Nat}(s:bB aJ d 1 (dY .u8 D))(gC:D.length<=1000000){n:Nat}(aq:n<=D.length){I:Fr}{k:c4}
  (aR:I.gt 3=d) (cQ:I.gt 8=.al) (dm:I.gt 9=.ad ((n:Int) -1))
  (eu:∀aQ aa o,aj aJ aa->bD 5 1 (aH aJ.next) aa o (dY .u8 (D.take n).reverse) ->aQ.gt 8=o->k.run J (.exit 6 ⟨aQ,[],aa⟩)):dA J alv ⟨I,[],aJ⟩ k:=by
 unfold alv;refine lU (fun m t=>∃I h1 o,t=⟨I,[],h1⟩/\m<=n/\aj aJ h1/\aH aJ.next<=aH h1.next/\bD 5 1 (aH aJ.next) h1 o (dY .u8 ((D.take n).drop m).reverse)/\I.gt 3=d/\I.gt 8=o/\I.gt 9=.ad ((m:Int) -1)) ?_ (m:=n) ⟨I,aJ,.al,rfl,a1 _,an,a1 _,by rw[Eo (by rw[el];omega)];exact .nil _ _ _ _,aR,cQ,dm⟩
 rintro m t ⟨I,h1,o,rfl,hm,aB,pf,dt,aR,cQ,dm⟩;have bW:=aB.bx;cases m with
 |zero=>
  have dm:I.gt 9=.ad (-1):=dm;have av:¬((0:Int)<=-1):=by decide
  simp only[go_sem,seval,dm,av];refine eu _ h1 o aB dt ?_;simp only[go_sem,seval,cQ]
 |succ m=>
  have aN:(((m+1:Nat):Int) -1)=(m:Int):=by omega
  rw[aN]at dm;have av:(0:Int)<=(m:Int):=by omega
  obtain⟨c,U⟩:=bI (l:=D) (i:=m) (by omega);have JH:(D.take n)[m]?=some c:=by rw[List.getElem?_take,bl (by omega)];exact U
  have bJ:=s.addr (i:=m) (by rw[dy];omega);have cY:=s.bM (jr U);have o1:b8 .i64 ((m:Int) -1)=(m:Int) -1:=gz (by omega) (by omega)
  obtain⟨d2,ae,bd,dD,aY,iP⟩:=akW aB (a1 _) pf dt (by rw[List.length_reverse,jG,el];omega) c;have aI:((D.take n).drop (m+1)).reverse++[c]=((D.take n).drop m).reverse:=by rw[en JH,List.reverse_cons]
  rw[aI]at dD;simp only[go_sem,seval,aR,cQ,dm,av,bJ,cY,ajU,bd,o1];refine⟨m,by omega,_,ae,d2,rfl,by omega,aY,iP,dD,?_,?_,?_⟩
  all_goals simp only[go_sem,seval,aR]
theorem aBC{l:List Nat}:∀y∈jJ l,y<256:=by
 intro y ax;obtain⟨d,a3,ax⟩:=List.mem_flatten.1 ax;obtain⟨x,_,rfl⟩:=List.mem_map.1 a3;obtain⟨k,_,rfl⟩:=List.mem_map.1 ax;have:x/10^k%10<10:=qv _ (by omega);omega
theorem aGR{l:List Nat}(c:d3.Can bw l)(h:l≠[]):∃p y:Nat,(jJ l)[p]?=some y/\y≠48:=by
 by_cases aX:∀y∈jJ l,y=48
 ·exact absurd (Yp c aX) h
 ·obtain⟨y,ax⟩:=Classical.not_forall.1 aX;obtain⟨hm,bV⟩:=Classical.not_imp.1 ax;obtain⟨p,bh⟩:=List.mem_iff_getElem?.1 hm;exact⟨p,y,bh,bV⟩
theorem ayL[bP:aK a]{z:V}{l:List Nat}(n1:gP a z l)(hU:d3.Can bw l)(au:l.length<=100000):cJ J a 230 [.agg [.bool false,z]] (fun w _=>∃s,w=.str s/\(s=[49]↔val bw l=1)):=by
 refine cJ.bE ak.agV rfl fun h ca g=>?_;obtain⟨cB,mN⟩:∃b:P,b=h.next:=⟨_,rfl⟩
 obtain⟨H1,cR⟩:∃H:H,H=h.new (.af [.bool false,z] 304):=⟨_,rfl⟩;have bW:aK H1:=by rw[cR];exact an
 have aB:aj h H1:=by rw[cR];exact an
 have bj:H1.get cB=some (.af [.bool false,z] 304):=by rw[cR,mN];exact ef
 have fZ:=aP bj;by_cases av:l=[]
 ·subst av;have bA:((0:Nat):Int)=0:=rfl
  simp only[Gb,go_sem,seval,nh,oV,n1.ag.a2,dy];exact⟨_,rfl,by simp[val]⟩
 ·have pe:¬((l.length:Int)=0):=by
   have:l.length≠0:=fun e=>av (tb e);omega
  simp only[Gb,go_sem,seval,nh,oV,n1.ag.a2,dy,pe];simp only[<-mN];simp only[<-cR];refine dK l.length (fun i t=>∃I h1 d,t=⟨I,[],h1⟩/\aj H1 h1/\aH H1.next<=aH h1.next/\bD 5 1 (aH H1.next) h1 d (dY .u8 (jJ (l.take i)))/\I.gt 1=.ptr cB 0 0 2/\I.gt 3=d/\I.gt 4=.ad (i:Nat)) ?_ ?_ (dk _) ⟨_,H1,.al,rfl,an,a1 _,.nil _ _ _ _,?_,?_,?_⟩
  ·rintro i t ai ⟨I,h1,d,rfl,aY,pf,dt,f1,aR,bZ⟩;have c3:=aY.bx;have lF:aj h h1:=aB.aG aY;have dx:aj a h1:=g.aG lF;have kC:=aY.dW;have e5:=(aY.gt cB).trans bj;obtain⟨x,ab⟩:=bI ai;have ay:((i:Int)<(l.length:Int)):=by omega
   have bJ:=n1.ag.addr (i:=i) (by rw[dy];exact ai);simp only[go_sem,seval,f1,bZ,e5,nh,oV,n1.ag.a2,dy,ay,bJ,n1.ag.bM (jr ab)];refine ayH aY (a1 _) pf dt (by rw[XY,el];omega) (n1.lim x (c0 ab)) (by simp only[go_sem,seval,aR]) (by simp only[go_sem,seval]) (by simp only[go_sem,seval]) ?_;intro aQ aa o4 bR gN atJ je e3 j1;replace je:=je.trans (by simp only[go_sem,seval,f1]:_=V.ptr cB 0 0 2);replace j1:=j1.trans (by simp only[go_sem,seval,bZ]:_=V.ad (i:Nat));simp only[go_sem,seval,j1,cG (show i<9223372036854775807 by omega)];refine⟨_,aa,o4,rfl,bR,gN,by rw[aGQ ab];exact atJ,?_,?_,?_⟩
   all_goals simp only[go_sem,seval,je,e3]
  ·rintro t ⟨I,h1,d,rfl,aY,pf,dt,f1,aR,bZ⟩;have c3:=aY.bx;have lF:aj h h1:=aB.aG aY;have dx:aj a h1:=g.aG lF;have kC:=aY.dW;have e5:=(aY.gt cB).trans bj;have ay:¬((l.length:Int)<(l.length:Int)):=by omega
   rw[g5]at dt;obtain⟨p,y,bh,ax⟩:=aGR hU av;have gC:(jJ l).length<=1000000:=by rw[XY];omega
   have Ag:=dt.ag;simp only[go_sem,seval,f1,aR,bZ,e5,nh,oV,n1.ag.a2,dy,ay,Ag.a2];refine ayI Ag gC bh ax (by simp only[go_sem,seval,aR]) (by simp only[go_sem,seval]) ?_;intro aQ n kn qU nO hzero je e3 yx;replace je:=je.trans (by simp only[go_sem,seval,f1]:_=V.ptr cB 0 0 2);have wn:b8 .i64 ((n:Int) -1)=(n:Int) -1:=gz (by omega) (by omega)
   simp only[go_sem,seval,je,e3,yx,e5,wy,Xl,wn];refine ayK Ag gC qU (by simp only[go_sem,seval,e3]) (by simp only[go_sem,seval]) (by simp only[go_sem,seval]) ?_;intro vZ ae o b4 ap3 HW;have fo:=b4.bx;have ey:aj h ae:=lF.aG b4;have Ad:=ap3.ag.FW (fun b ah=>aBC b (wO (List.mem_reverse.1 ah)));simp only[go_sem,seval,aGP,HW,Ad];exact⟨_,rfl,aEl hU kn qU nO hzero⟩
  all_goals simp only[go_sem,seval]
  all_goals rfl
theorem aI5(x:Nat)(r:List Nat):dec (x::r)=(x-48)*10^r.length+dec r:=by
 have:=QK [x] r;simpa[dec]using this
theorem aI6{s:b9}(aE:d9 s=0)(hm:minus s=false)(a3:dec s=0):s=[48]:=by
 have ah:=QH hm;have h1:oY s=true:=by
  unfold d9 at aE;by_cases q:oY s=true
  ·exact q
  ·rw[bf q]at aE;cases aE
 have D:=(Lw aE).1;rw[ah]at D;unfold oY at h1;rw[ah,hm]at h1;cases s with
 |nil=>simp at h1
 |cons x r=>
  rw[aI5]at a3;have ab:=D x (by simp);have ae:(x-48)*10^r.length=0:=by omega
  have az:x=48:=by
   rcases Nat.mul_eq_zero.1 ae with q|q
   ·omega
   ·exact absurd q (Nat.pos_iff_ne_zero.1 (Nat.pow_pos (by omega)))
  subst az;cases r with
  |nil=>rfl
  |cons y r=>simp at h1
theorem Yq{s:List Nat}(h:rl s){K:Nat}(au:s.length<=K):dec s<bw^K:=by
 have h1:=dec_lt h;have ae:10^s.length<=10^K:=vk (by omega) au;have az:10^K<=bw^K:=Nat.pow_le_pow_left (by rw[u7];omega) K;omega
theorem int_ne{s:b9}(h:d9 s=0):s≠[]:=by
 rintro rfl;cases h
theorem aGS{s p q:b9}(h:cut s=some (p,q)): p.length<=s.length/\q.length<=s.length:=by
 have key:∀(r fy:b9),s3 fy r=some (p,q) ->p.length<=fy.length+r.length/\q.length<=r.length:=by
  intro r
  induction r with
  |nil=>intro fy e;cases e
  |cons c r ih=>
   intro fy e;unfold s3 at e;by_cases AR:c=47
   ·rw[bl AR]at e;split at e
    ·cases e
    ·cases e;simp
   ·rw[bf AR]at e;have:=ih _ e;simp at this⊢;omega
 have:=key s [] h;simpa using this
theorem Wq[bP:aK a](s:b9)(aA:s.length<1000000):aS J a 110 [.str s] (.ad (jR s)):=by
 refine aS.bE ak.afZ rfl fun h ca g=>?_;have fx:=ayw (J:=J) (a:=h) s aA;have af:=fun(b:Bool) (e:Int)=>AY (J:=J) (a:=h) b e;cases Ky:cut s with
 |none=>
  have aI:jR s=1:=by unfold jR;rw[Ky]
  rw[Ky]at fx;have fx:aS J h 229 [.str s] (.bk [.str [],.str [],.bool false]):=fx;rw[aI];simp only[Og,go_sem,seval,fx.cl]
 |some ap4=>
  obtain⟨p,q⟩:=ap4;obtain⟨bh,aM⟩:=aGS Ky;rw[Ky]at fx;have fx:aS J h 229 [.str s] (.bk [.str p,.str q,.bool true]):=fx;have aI:jR s=if cm [d9 p,d9 q]≠0 then cm [d9 p,d9 q]else if minus q=true\/dec q=0\/Nat.gcd (dec (body p)) (dec q)≠1 then 1 else 0:=by
   unfold jR;rw[Ky]
  have c1:=OS (J:=J) (a:=h) p (by omega);have c2:=OS (J:=J) (a:=h) q (by omega);obtain⟨qN,y4⟩:∃H:H,H=cg c2 (cg c1 (cg fx h an) an) an:=⟨_,rfl⟩;have eu:aK qN:=by rw[y4];exact an
  have jK:aj h qN:=by rw[y4];exact an
  have be:=NF (J:=J) (a:=qN.new (.af [.ad (d9 p),.ad (d9 q)] 3)) (l:=[d9 p,d9 q]) (wH qN [d9 p,d9 q] 3) (by simp);have be:aS J (qN.new (.af [.ad (d9 p),.ad (d9 q)] 3)) 41 [.ag qN.next 0 0 2 1 (some 2)] (.ad (cm [d9 p,d9 q])):=be;by_cases he:cm [d9 p,d9 q]=0
  ·obtain⟨aN,bd⟩:=(am3 _ _).1 he;obtain⟨H2,dG⟩:=Lw aN;obtain⟨Ac,o8⟩:=Lw bd;rw[he]at be;obtain⟨H1,cR⟩:∃H:H,H=cg be (qN.new (.af [.ad (d9 p),.ad (d9 q)] 3)) an:=⟨_,rfl⟩;have bW:aK H1:=by rw[cR];exact an
   have aB:aj h H1:=by rw[cR];exact aj.aG jK an
   rw[aI,bf (by rw[he];simp)];simp only[Og,go_sem,seval,fx.cl,c1.cl,c2.cl];simp only[<-y4];simp only[go_sem,seval,be.cl,he];simp only[<-cR];by_cases Kz:q=[48]
   ·rw[bl (.inr (.inl (by rw[Kz];rfl)))];simp only[go_sem,seval,Kz,(af _ _).cl,cd]
   ·cases hm:minus q with
    |true=>
     rw[bl (.inl rfl)];obtain⟨r,rfl⟩:∃r,q=45::r:=by
      unfold minus at hm;split at hm
      ·exact⟨_,rfl⟩
      ·cases hm
     simp only[go_sem,seval,Kz,rK,(af _ _).cl,cd]
    |false=>
     have FP:=QH hm;have aX:dec q≠0:=fun e=>Kz (aI6 bd hm e);rw[FP]at Ac o8;cases q with
     |nil=>exact absurd rfl (int_ne bd)
     |cons x r=>
      obtain⟨E,bX⟩:∃E:Int,E=(if false=true\/dec (x::r)=0\/Nat.gcd (dec (body p)) (dec (x::r))≠1 then(1:Int)else 0):=⟨_,rfl⟩;rw[<-bX];have ayM:¬((x:Int)=45):=by
       have:x≠45:=by rintro rfl;cases hm
       omega
      have iD:=ajT (J:=J) (a:=H1) (int_ne aN) H2 (by omega);have lf:=ajT (J:=J) (a:=H1) (s:=x::r) (int_ne bd) (by rw[FP];exact Ac) (by rw[FP];omega);rw[FP]at lf;simp only[go_sem,seval,Kz,rK,ayM];refine iD.run fun b5 ae aY c3 je=>?_;obtain⟨iO,i2,rfl,mi⟩:=je;simp only[go_sem,seval];refine lf.run fun d7 az b4 fo dX=>?_;obtain⟨iP,k8,rfl,nv⟩:=dX;have xM:aj H1 az:=aY.aG b4;obtain⟨K,j0⟩:∃K,K=120:=⟨_,rfl⟩;have lb:=ayE (J:=J) (a:=az) (xa:=iO) (Ab:=iP) (mi.aO (aa:=az)) nv (K:=K) (by omega) (Yq H2 (by omega)) (Yq Ac (by omega));simp only[go_sem,seval];refine lb.run fun jW bo eE mE e3=>?_;obtain⟨hS,rfl,HO⟩:=e3;have mD:Nat.gcd (dec (body p)) (dec (x::r))<bw^K:=Nat.lt_of_le_of_lt (Nat.gcd_le_right _ (Nat.pos_of_ne_zero aX)) (Yq Ac (by omega));obtain⟨im,atK,atL,atM,aQw⟩:=HO.len mD;have ba:=ayL (J:=J) atK atL (by omega);simp only[go_sem,seval];refine ba.run fun iq cb eg lX j1=>?_;obtain⟨yt,rfl,TD⟩:=j1;rw[atM]at TD;have oP:aj h cb:=((aB.aG xM).aG eE).aG eg
      by_cases a6:Nat.gcd (dec (body p)) (dec (x::r))=1
      ·have hz:=TD.2 a6;subst hz;have TE:E=0:=by rw[bX,bf (fun q=>q.elim (fun e=>by cases e) (fun q=>q.elim aX (fun q=>q a6)))]
       rw[TE];simp only[go_sem,seval,(af _ _).cl,cd]
      ·have hz:¬yt=[49]:=fun e=>a6 (TD.1 e);have TE:E=1:=by rw[bX,bl (.inr (.inr a6))]
       rw[TE];simp only[go_sem,seval,hz,(af _ _).cl,cd]
  ·rw[aI,bl he];simp only[Og,go_sem,seval,fx.cl,c1.cl,c2.cl];simp only[<-y4];simp only[go_sem,seval,be.cl,he]
end
end Go.ao
