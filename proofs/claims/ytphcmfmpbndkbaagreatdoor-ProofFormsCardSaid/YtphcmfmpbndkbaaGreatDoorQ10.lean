/- A part of the proof that ProofForms holds for every input. -/
import Derived.Test.YtphcmfmpbndkbaaGreatDoorQ09
set_option maxRecDepth 100000
set_option maxHeartbeats 4000000
set_option linter.all false
noncomputable section
namespace Go.ao
section
open Form d3
variable {J:Prog}[ak J]{a:H}
theorem amh{B:Nat}{l:List Nat}{n:Nat}(c:d3.Can B l)(au:l.length=n+1):0<gI l n:=by
 rcases nS (gI l n)with e|e
 ·exfalso;refine c.2 ?_;rw[List.getLast?_eq_getElem?,au,GH];have ay:n<l.length:=by omega
  unfold gI at e;rw[hN ay]at e⊢;simpa using e
 ·exact e
theorem apK(B:Nat){x prev b:Nat}(ab:x<B)(bh: prev<b):x+B*prev<b*B:=by
 have:B*(prev+1)<=B*b:=sc _ bh;rw[mT,js B b]at this;omega
theorem axa[bP:aK a]{v EL:V}{A tx:List Nat}{b n N K:Nat}(dd:fI a v A)(gB:A.length<1000000)(uC:fI a EL tx)(h3:d3.Can a9 tx)(dr:val a9 tx=b)(M4:tx.length=n+2)(aq:n<1000000)(aNn:A.length<=N)(vt:N<1000000)(j0:K+10<=100000)(M5:b<a9^K)
  {aJ:H} [ca:aK aJ] [eZ:aj a aJ] {j2 la m7 m8 sK jC f fN:P} {p4:Fr} {k:c4}
  (gL:a.get j2=some (.af [EL] 291)) (oF:a.get la=some (.af [.ad (n+2:Nat)] 3)) (xv:a.get m7=some (.af [.int .u64 (gI tx (n+1):Nat)] 419)) (vV:a.get m8=some (.af [.int .u64 (gI tx n:Nat)] 419))
  (mn:aJ.get sK=some (.af [.ag f 0 0 N 1 (some N)] 289)) (ob:aJ.get jC=some (.af [.al] 291)) (ha:aJ.get f=some (.af (d8 .u32 (List.replicate N 0)) 397)) (lC:aJ.get fN=some (.af [v] 289))
  (cQ: p4.gt 8=.ptr j2 0 0 1) (dm: p4.gt 9=.ptr la 0 0 1) (ew: p4.gt 10=.ptr m7 0 0 1) (iT: p4.gt 11=.ptr m8 0 0 1) (kW: p4.gt 12=.ptr sK 0 0 1) (h9: p4.gt 13=.ptr jC 0 0 1) (AE: p4.gt 85=.fn (.func 516) [] [.ptr fN 0 0 1])
  (_:dp sK f) (_:dp sK jC) (_:dp jC f) (_:dp f jC) (_:dp fN f) (_:dp fN jC) (_:eC f a) (_:eC jC a)
  (tt:∀aa Q R w,aj a aa->aa.get sK=some (.af [.ag f 0 0 N 1 (some N)] 289) ->aa.get jC=some (.af [w] 291) ->fI aa w R->d3.Can a9 R->aa.get f=some (.af (d8 .u32 Q) 397) ->Q.length=N->fA a9 Q->val a9 Q*b+val a9 R=val a9 A->val a9 R<b->k.run J (.norm ⟨p4,[],aa⟩)):dA J alB ⟨p4,[],aJ⟩ k:=by
 have arh:=aP mn;have ab5:=aP ob;have p5:=aP ha;have on:=aP lC;have aNo:=aP gL;have ari:=aP oF;have axb:=aP xv;have axc:=aP vV;have tw:=jF;have tT:0<a9:=by rw[tw];decide
 have xz:1<a9:=by rw[tw];decide
 have AJ:0<gI tx (n+1):=amh h3 M4;have M6:=BN tT uC.lim (n+1);have ajp:=BN tT uC.lim n;obtain⟨ar,ah⟩:=aIR a9 tT uC.lim (k:=n) (by omega);have SM:a9^n*a9<=val a9 tx:=by
  have:=h3.ge (by rintro rfl;simp at M4);rwa[M4,show n+2-1=n+1 by omega,pK]at this
 have Jb:=sa uC.lim;rw[M4]at Jb;rw[dr]at ar ah SM Jb;have tG:0<b:=by
  have:0<a9^n*a9:=Nat.mul_pos (Nat.pow_pos tT) tT;omega
 generalize Cf:a9^n=Z at ar ah SM;generalize aP7:gI tx (n+1)=top at ar ah AJ M6 xv;generalize aRh:gI tx n=next at ar ah ajp vV
 unfold alB;refine aD6 (β:=Unit) (Yk (b:=fN) (ty:=289) dd (by omega)) (by simp only[go_sem,seval,AE]) a
  (fun _ (x:List Nat×List Nat×V)=>[(sK,.af [.ag f 0 0 N 1 (some N)] 289),(jC,.af [x.2.2] 291),(f,.af (d8 .u32 x.1) 397),(fN,.af [v] 289),(aJ.next,.loop .ready none p4 [(a0 86),(a0 87)] Ed Ee)])
  (fun i x h=>x.1.length=N/\fA a9 x.1/\fI h x.2.2 x.2.1/\d3.Can a9 x.2.1/\val a9 x.2.1<b/\val a9 (x.1.drop (A.length-i))*b+val a9 x.2.1=val a9 (A.drop (A.length-i)))
  (fun _=>[]) (fun _ _=>False) ?_ ?_ ?_ ?_ ?_ ?_ ?_
 ·intro m x aa bR _ G _;exact⟨bR,G.2.2.2.1⟩
 ·rintro i x h aa k g ⟨e5,cO,c5,fw⟩;exact⟨e5,cO,c5.aO,fw⟩
 ·intro _ _ _ _ _ aE;exact aE
 ·refine⟨an,(List.replicate N 0,[],.al),⟨by simp only[j9,mn],by simp only[j9,ob],by simp only[j9,ha],by simp only[j9,lC],ef,trivial⟩,te,fun x ab=>by rw[Lv]at ab;rw[ab.2];exact tT,⟨⟨by simp[dY],.inl ⟨rfl,rfl⟩⟩,trivial,GU⟩,⟨GU,by simp⟩,tG,?_⟩;rw[x5,fp,List.drop_replicate,LW];simp[val]
 ·rintro j ⟨Q,R,w⟩ aa a5 bR ch G ⟨lB,oG,d6,vB,xA,sL⟩ jJ os aQ gG yV U _;obtain⟨m9,kr,hG,eh,ea,_⟩:=G;simp only at lB oG d6 vB xA sL kr hG;have arj:=aP m9;have ark:=aP kr;have e4:=aP hG;have Md:=aP eh;have pl:=aP ea;have ai:A.length-1-j<A.length:=by omega
  obtain⟨x,ab⟩:=bI ai;have vX:=dd.lim x (c0 ab);rw[ab];have ab6:A.length-j=A.length-1-j+1:=by omega
  have ab7:A.length-(j+1)=A.length-1-j:=by omega
  have arl:((A.length-1-j:Nat):Int)<(N:Int):=by omega
  generalize oB:A.length-1-j=bn at*;have SN:bn<Q.length:=by omega
  refine Ec (aa:=aa) ea rfl (by simp only[Ed,go_sem,seval,jV];rfl) ea ?_;obtain⟨av,xB⟩:∃av:H,av=aa.set aJ.next (.loop .busy none p4 [(a0 86),(a0 87)] Ed Ee):=⟨_,rfl⟩
  rw[<-xB];have fa:aK av:=by rw[xB];exact an
  have rz:aj a av:=by rw[xB];exact an
  have sM:av.get jC=some (.af [w] 291):=by rw[xB];simp only[go_sem,seval,kr]
  have y0:av.get sK=some (.af [.ag f 0 0 N 1 (some N)] 289):=by rw[xB];simp only[go_sem,seval,m9]
  have yu:av.get f=some (.af (d8 .u32 Q) 397):=by rw[xB];simp only[go_sem,seval,hG]
  have yv:av.get fN=some (.af [v] 289):=by rw[xB];simp only[go_sem,seval,eh]
  have yw:av.get aJ.next=some (.loop .busy none p4 [(a0 86),(a0 87)] Ed Ee):=by rw[xB];simp only[go_sem,seval]
  have arn:fI av w R:=by rw[xB];exact⟨d6.ag.Lt _ ea,d6.cap,d6.lim⟩
  have aNp:R.length<=K:=vl vB (Nat.lt_trans xA M5);have apL:bD 397 1 (aH av.next) (av.new (.af [.int .u32 (x:Nat)] 397)) (.ag av.next 0 0 1 1 (some 1)) (dY .u32 [x]):=BM (l:=dY .u32 [x]) (XU _ _) (some 1) (fun n e=>by cases e;rfl);obtain⟨v2,ae,bd,dD,et⟩:=uh (bytes:=4) apL (Pm arn.ag (av.new (.af [.int .u32 (x:Nat)] 397))) (by rw[fF,gu];omega) (by simp only[dy,eG,eJ];omega) (by simp only[dy,eG,eJ];omega);have c3:=et.ok;have kC:=et.dW;have aY:aj a ae:=et.aO a rz.g.next
  have aro:=aP sM;have Wa:aH jC<aH av.next:=aro.lt
  have SO:=aP y0;have axd:aH sK<aH av.next:=SO.lt
  have Mf:=aP yu;have arp:aH f<aH av.next:=Mf.lt
  have un:=aP yv;have arq:aH fN<aH av.next:=un.lt
  have ul:=aP yw;have ars:aH aJ.next<aH av.next:=ul.lt
  replace sM:ae.get jC=some (.af [w] 291):=by rw[et.gt Wa];simp only[go_sem,seval,sM]
  replace y0:ae.get sK=some (.af [.ag f 0 0 N 1 (some N)] 289):=by rw[et.gt axd];simp only[go_sem,seval,y0]
  replace yu:ae.get f=some (.af (d8 .u32 Q) 397):=by rw[et.gt arp];simp only[go_sem,seval,yu]
  replace yv:ae.get fN=some (.af [v] 289):=by rw[et.gt arq];simp only[go_sem,seval,yv]
  replace yw:ae.get aJ.next=some (.loop .busy none p4 [(a0 86),(a0 87)] Ed Ee):=by rw[et.gt ars];simp only[go_sem,seval,yw]
  have ab8:fA a9 (x::R):=fun y ax=>by
   rcases List.mem_cons.1 ax with e|e
   ·rw[e];exact vX
   ·exact vB.1 y e
  have nv:fI ae v2 (x::R):=⟨dD.ag,dD.cap,ab8⟩;have cs:=Be (J:=J) (a:=ae) nv (by simp;omega);obtain⟨b5,SP⟩:∃b5,b5=kb v2 (x::R):=⟨_,rfl⟩;have ab9:fI ae b5 (strip (x::R)):=by rw[SP];exact nv.kb
  rw[<-SP]at cs;have M7:l1 (aH av.next) b5:=by rw[SP];exact Hs dD.rt _
  have ab5:fQ jC ae:=aP sM;obtain⟨cx,fe⟩:∃cx:H,cx=(cg cs ae an).set jC (.af [b5] 291):=⟨_,rfl⟩;have fo:aK cx:=by rw[fe];exact an
  have b4:aj a cx:=by rw[fe];exact an
  have CU:fI cx b5 (strip (x::R)):=by rw[fe];exact(ab9.aO (aa:=cg cs ae an)).iA M7 Wa _
  have art:=aP yu;have aP8:=aP y0;have aNq:=aP yv;have aca:=aP yw;replace sM:cx.get jC=some (.af [b5] 291):=by rw[fe];simp only[go_sem,seval]
  replace y0:cx.get sK=some (.af [.ag f 0 0 N 1 (some N)] 289):=by rw[fe];simp only[go_sem,seval,bQ,y0]
  replace yu:cx.get f=some (.af (d8 .u32 Q) 397):=by rw[fe];simp only[go_sem,seval,bQ,yu]
  replace yv:cx.get fN=some (.af [v] 289):=by rw[fe];simp only[go_sem,seval,bQ,yv]
  replace yw:cx.get aJ.next=some (.loop .busy none p4 [(a0 86),(a0 87)] Ed Ee):=by rw[fe];simp only[go_sem,seval,bQ,yw]
  have vC:=b4.dW;have hs:=(b4.gt j2).trans gL;have hI:=(b4.gt la).trans oF;have AK:=(b4.gt m7).trans xv;have xC:=(b4.gt m8).trans vV;have aP9:=aP sM;have aQa:=aP y0;have acb:=aP yu;have Fp:=aP yv;have aru:=aP yw;have Fq:val a9 (strip (x::R))=x+a9*val a9 R:=by rw[yi];rfl
  have cf:d3.Can a9 (strip (x::R)):=yj ab8;have sJ:=apK a9 vX xA;generalize n8:x+a9*val a9 R=r at Fq sJ;have arv:r<a9^(n+3):=by
   have h1:=Nat.mul_lt_mul_of_pos_right Jb tT;rw[<-pK]at h1;exact Nat.lt_trans sJ h1
  have acd:r<a9^(K+1):=by
   have h1:=Nat.mul_lt_mul_of_pos_right M5 tT;rw[<-pK]at h1;exact Nat.lt_trans sJ h1
  have arw:(strip (x::R)).length<=n+3:=vl cf (by rw[Fq];exact arv);obtain⟨rC,rD⟩:=amg a9 tT cf.1 arw;have ace:=Kn (J:=J) CU (n+2);have acf:=Kn (J:=J) CU (n+1);have acg:=BN tT cf.1 (n+2);have ach:=BN tT cf.1 (n+1);have SQ:=BN tT cf.1 n;rw[Fq,Cf]at rC rD;generalize gI (strip (x::R)) (n+2)=ct at rC rD ace acg;generalize gI (strip (x::R)) (n+1)=bG at rC rD acf ach;generalize kG:gI (strip (x::R)) n=br at rC rD SQ;obtain⟨p,bh,arx,Ko,aci⟩:=ab1 a9 tw acg ach;have SR:b8 .u64 ((ct:Int)*1000000000)=(p:Int):=by rw[arx];exact wrap_u64 Ko
  have M8:b8 .u64 ((p:Int)+(bG:Int))=((p+bG:Nat):Int):=by rw[<-se];exact wrap_u64 aci
  rw[<-bh]at rC rD;generalize akR: p+bG=head at rC rD M8 aci;have jy:=DH .int .u64 head top AJ;have gw:=Km .int .u64 head top AJ;have M9:=Lb head top;have ay:=qv head AJ;have qV:head/top<=head:=Nat.div_le_self _ _;rw[js]at M9;generalize head/top=dj at jy M9 qV;generalize head%top=left at gw M9 ay;have ary:b8 .u64 (dj:Int)=(dj:Int):=wrap_u64 (by omega);rw[ary]at jy;have axe:r<(dj+1)*b:=aBs ar rD SQ (by rw[eP,r9];omega);have arz:b8 .i64 (((n+2:Nat):Int) -1)=((n+1:Nat):Int):=by rw[gz (by omega) (by omega)];omega
  have tQ:∀(k:IntKind) (x:Int) (ty:TypeId),ec (some (.af [.int k x] ty)) false 1 0 0 1=some (.int k x):=fun _ _ _=>rfl;have yt:=fK CU.ag;have arA:=Qd ab9.cell;simp only[aDS,XP,go_sem,seval,hC];refine YJ ?_;have ajq:(av.new (.af [.int .u32 (x:Int)] 397)).get jC=some (.af [w] 291):=by rw[j9,xB];simp only[go_sem,seval,kr]
  have aBu:ae.get jC=some (.af [w] 291):=by rw[et.gt Wa];exact ajq
  simp only[go_sem,seval,Pn,h9,ajq,aBu,qA,ld1,bd,cs.cl,arA,bQ,st1];simp only[<-fe];simp only[go_sem,seval,dm,ew,h9,sM,hI,AK,ld1,tQ,arz,ace.bL,acf.bL,bQ,yt,q9,rW,xV,SR,M8,jy,gw];refine aw8 (a:=cx) (R:=strip (x::R)) (la:=la) (m7:=m7) (m8:=m8) (jC:=jC) (dj:=dj) (left:=left) aq kG CU M6 ajp ar ah SM rC rD sJ SQ (by simp only[go_sem,seval,bQ,hI]) (by simp only[go_sem,seval,bQ,AK]) (by simp only[go_sem,seval,bQ,xC]) (by simp only[go_sem,seval,bQ,sM]) (by simp only[go_sem,seval,dm]) (by simp only[go_sem,seval,ew]) (by simp only[go_sem,seval,iT]) (by simp only[go_sem,seval,h9]) (by simp only[go_sem,seval]) (by simp only[go_sem,seval]) M9 (by omega) axe (by omega) ?_;intro vM cb g acj SS Fs Ja ys vS vT Na Jc;replace ys:=ys.trans (by simp only[go_sem,seval,cQ]:_=V.ptr j2 0 0 1);replace vS:=vS.trans (by simp only[go_sem,seval,kW]:_=V.ptr sK 0 0 1);replace vT:=vT.trans (by simp only[go_sem,seval,h9]:_=V.ptr jC 0 0 1);replace Na:=Na.trans (by simp only[go_sem,seval]:_=V.ad (bn:Nat));have lX:=acj.bx;have AL:aj cx cb:=aj.aG an acj;have eg:aj a cb:=b4.aG AL;have Rc:=AL.dW;have arB:=(AL.gt j2).trans hs;have Re:b8 .u32 (g:Int)=(g:Int):=V8 SS;have ZZ:fA a9 [g]:=fun y ax=>by simp at ax;omega
  have eY:(cb.new (.af [.int .u32 (g:Int)] 397)).get cb.next=some (.af (d8 .u32 [g]) 397):=ef
  have SU:fI (cb.new (.af [.int .u32 (g:Int)] 397)) (.ag cb.next 0 0 1 1 (some 1)) [g]:=⟨nY eY (some 1),a1 _,ZZ⟩;have gO:=Be (J:=J) SU (by simp);have arC:=Qd SU.kb.cell;have arD:=fK uC.ag;obtain⟨sN,Kp⟩:∃sN:P,sN=(cb.new (.af [.int .u32 (g:Int)] 397)).next:=⟨_,rfl⟩
  obtain⟨w8,Ft⟩:∃w8:H,w8=cg gO ((cb.new (.af [.int .u32 (g:Int)] 397)).new (.af [.al] 291)) an:=⟨_,rfl⟩
  have Q0:aK w8:=by rw[Ft];exact an
  have ack:aj cb w8:=by rw[Ft];exact an
  have aNr:aj (cb.new (.af [.int .u32 (g:Int)] 397)) w8:=by rw[Ft];exact an
  have arE:aj a w8:=eg.aG ack;have arF:aj cx w8:=AL.aG ack;have axf:fQ sN w8:=by rw[Ft,Kp];exact an
  have axg:w8.get sN=some (.af [.al] 291):=by rw[Ft,Kp,bQ];exact ef
  simp only[go_sem,seval,ys,Jc,arB,ld1,Re,Pn,gO.bL,arC,bQ,arD];simp only[<-Kp];simp only[<-Ft];have aQb:g<a9^K\/True:=.inr trivial;have lb:=V5 (J:=J) (a:=w8) (n:=b) (m:=g) (v:=.agg [EL]) (w:=.agg [kb (.ag cb.next 0 0 1 1 (some 1)) [g]]) ⟨EL,tx,rfl,uC.aO,h3,dr⟩ ⟨_,_,rfl,SU.kb.aO,yj ZZ,by rw[yi];simp[val]⟩ (K:=K+1) (by omega) (KV a9 xz M5 1) (XW a9 xz SS K);rw[js b g]at lb;refine lb.oR fun wp dM f4 ss pU=>?_;rw[EA];refine⟨rfl,?_⟩;obtain⟨cC,dG,rfl,mp,iD,Rf,arG⟩:=pU;have Mg:=f4.dW;have aMv:=f4.t4;have ajr:=(f4.gt sN).trans axg;have aQc:=aP ajr;have aNs:eC sN cx:=⟨by rw[Kp];exact iK AL.g.next (by rw[fF,gu];omega)⟩;have aQd:eC sN a:=⟨by rw[Kp];exact iK eg.g.next (by rw[fF,gu];omega)⟩;have aNt:aj cx dM:=arF.aG f4;have aNu:aj a dM:=arE.aG f4;obtain⟨ji,oc⟩:∃ji:H,ji=dM.set sN (.af [cC] 291):=⟨_,rfl⟩;have z7:aK ji:=by rw[oc];exact an
  have uR:aj cx ji:=by rw[oc];exact an
  have Nb:aj a ji:=by rw[oc];exact an
  have Z0:=uR.dW;have SV:fI ji cC dG:=by rw[oc];exact mp.iA arG axf.lt _
  have arH:fI ji b5 (strip (x::R)):=CU.aO (g:=uR);have Kq:ji.get sN=some (.af [cC] 291):=by rw[oc];exact jt
  have aQe:=aP Kq;have ajs:=(uR.gt jC).trans sM;have ajt:g*b<a9^(K+2):=aEb a9 xz acd M5 Fs;have Wb:r<a9^(K+2):=KV a9 xz acd 1;have co:=ajl (J:=J) (a:=ji) (n:=g*b) (m:=r) (v:=.agg [cC]) (w:=.agg [b5]) ⟨cC,dG,rfl,SV,iD,Rf⟩ ⟨b5,_,rfl,arH,cf,Fq⟩ (K:=K+2) (by omega) ajt Wb;simp only[go_sem,seval,ajr,st1];simp only[<-oc];have AH:ec (some (.af [.ag f 0 0 N 1 (some N)] 289)) false 1 0 0 1=some (.ag f 0 0 N 1 (some N)):=rfl;obtain⟨pV,IS,OK,aQf,axh⟩:=aw3 Fs Ja;have acm:((bn:Int)<(N:Int)):=arl
  have e1:=rp f 0 0 N 1 (some N) bn (by omega);have st:=fun(h:H) (y:Nat)=>BE (k:=.u32) Q 397 h f bn SN y;simp only[eH,kz]at e1 st;by_cases DI:r<g*b
  ·rw[bl DI]at IS;obtain⟨aNv,arI,MJ⟩:=axh DI;have hj:qm (g*b) r=1:=by unfold qm;rw[bf (by omega),bl DI]
   rw[hj]at co;have Jd:(0:Int)<1:=by decide
   have arJ:b8 .u64 ((g:Int) -1)=(pV:Int):=by rw[show(g:Int) -1=(pV:Int) by omega];exact wrap_u64 (by omega)
   obtain⟨o7,CV⟩:∃o7:H,o7=cg co ji an:=⟨_,rfl⟩;have Cg:aK o7:=by rw[CV];exact an
   have tU:aj ji o7:=by rw[CV];exact an
   have i8:=tU.dW;have OL:=(tU.gt sN).trans Kq;have arK:o7.get j2=_:=((Nb.aG tU).gt j2).trans gL
   have axi:=((uR.aG tU).gt jC).trans sM
   have arL:=V4 (J:=J) (a:=o7) (n:=g*b) (m:=b) (v:=.agg [cC]) (w:=.agg [EL]) ⟨cC,dG,rfl,SV.aO,iD,Rf⟩ ⟨EL,tx,rfl,uC.aO (g:=Nb.aG tU),h3,dr⟩ (K:=K+2) (by omega) ajt arI;simp only[go_sem,seval,Kq,ajs,ld1,co.cl,Jd,ys,vT,Jc];simp only[<-CV];simp only[go_sem,seval,rW,arJ,ys,OL,arK,ld1];refine arL.run fun aNw lA Mh EM mj=>?_;obtain⟨Je,acn,rfl,arM,arN,aco,arO⟩:=mj;rw[MJ]at aco;have apM:=Mh.dW;have aju:=(Mh.gt sN).trans OL;have aQg:=aP aju;obtain⟨xD,Gf⟩:∃H:H,H=lA.set sN (.af [Je] 291):=⟨_,rfl⟩;have aNx:aj cx lA:=(uR.aG tU).aG Mh;have aNy:aj a lA:=(Nb.aG tU).aG Mh;have aNz:aK xD:=by rw[Gf];exact an
   have Gg:aj cx xD:=by rw[Gf];exact an
   have axj:aj a xD:=by rw[Gf];exact an
   have axk:=aP OL;have axl:fI xD Je acn:=by rw[Gf];exact arM.iA arO axk.lt _
   have aBv:xD.get sN=some (.af [Je] 291):=by rw[Gf];exact jt
   have ajv: pV<a9:=by omega
   have arP:b8 .u32 (pV:Int)=(pV:Int):=V8 ajv;have aBw:=(Gg.gt jC).trans sM;have aNA:=Gg.dW;simp only[go_sem,seval,aju,st1];simp only[<-Gf];simp only[go_sem,seval,vT,aBw,aBv,ld1];have be:=V4 (J:=J) (a:=xD) (n:=r) (m:=pV*b) (v:=.agg [b5]) (w:=.agg [Je]) ⟨b5,_,rfl,CU.aO (g:=Gg),cf,Fq⟩ ⟨Je,acn,rfl,axl,arN,aco⟩ (K:=K+2) (by omega) Wb OK;refine be.run fun d7 aX su Z1 da=>?_;have Rg:=(aj.aG Gg su).dW;have arQ:aj a aX:=axj.aG su;have vY:aj cx aX:=Gg.aG su;obtain⟨SX,k7,rfl,HU,hU,mX,AM⟩:=da;have Jf:=(vY.gt jC).trans sM;have CW:=(vY.gt sK).trans y0;have rv:=(vY.gt f).trans yu;have z8:=(vY.gt fN).trans yv;have uD:=(vY.gt aJ.next).trans yw;have kr:=aP Jf;have arR:=aP rv;have arS:=aP uD;have m9:=aP CW;have arT:=aP z8;have n1:aH av.next<=aH xD.next:=by
    have bJ:=Gg.g.next
    have g8:aH ae.next<=aH cx.next:=by rw[fe];exact(DU cs ae an).next
    have tq:=et.next
    rw[fF,gu]at tq;omega
   have SY:aH jC<aH xD.next:=by omega
   have HV:aH f<aH xD.next:=by omega
   have Rh:aH aJ.next<aH xD.next:=by omega
   simp only[go_sem,seval,vS,vT,Na,Jc,Jf,st1,CW,AH,acm,arP,e1,rv,st,jV];refine⟨fun _ _ e=>(by cases e),?_⟩;refine x6 (by simp only[go_sem,seval,uD];rfl) ?_;refine U _ an ⟨(Q.set bn pV,k7,SX),⟨by simp only[go_sem,seval,CW],by simp only[go_sem,seval],by simp only[go_sem,seval],by simp only[go_sem,seval,z8],by simp only[go_sem,seval],trivial⟩,by rw[vm];exact lB,oG.set ajv,((HU.iA AM SY _).iA AM HV _).iA AM Rh _,hU,by rw[mX,eP,r9]at*;omega,?_⟩
   rw[ab7];have oa:(Q.set bn pV).drop bn=pV::Q.drop (bn+1):=by
    rw[List.drop_set,bf (by omega),sb,D6 SN,List.set_cons_zero]
   rw[oa,en ab];show(pV+a9*val a9 (Q.drop (bn+1)))*b+val a9 k7=x+a9*val a9 (A.drop (bn+1));rw[ab6]at sL;exact V6 a9 n8.symm OK mX sL
  ·rw[bf DI]at IS;subst IS;have hj:¬((0:Int)<qm (pV*b) r):=by
    unfold qm;by_cases aM: pV*b<r
    ·rw[bl aM];decide
    ·rw[bf aM,bf DI];decide
   obtain⟨o7,CV⟩:∃o7:H,o7=cg co ji an:=⟨_,rfl⟩;have Cg:aK o7:=by rw[CV];exact an
   have tU:aj ji o7:=by rw[CV];exact an
   have i8:=tU.dW;have OL:=(tU.gt sN).trans Kq;have axi:=((uR.aG tU).gt jC).trans sM
   have y1:aj cx o7:=uR.aG tU;have acp:aj a o7:=Nb.aG tU;simp only[go_sem,seval,Kq,ajs,ld1,co.cl,hj,vT,Jc];simp only[<-CV];have be:=V4 (J:=J) (a:=o7) (n:=r) (m:=pV*b) (v:=.agg [b5]) (w:=.agg [cC]) ⟨b5,_,rfl,CU.aO (g:=y1),cf,Fq⟩ ⟨cC,dG,rfl,SV.aO,iD,Rf⟩ (K:=K+2) (by omega) Wb OK;refine be.run fun d7 aX su Z1 da=>?_;have Rg:=(aj.aG y1 su).dW;have arQ:aj a aX:=acp.aG su;have vY:aj cx aX:=y1.aG su;obtain⟨SX,k7,rfl,HU,hU,mX,AM⟩:=da;have Jf:=(vY.gt jC).trans sM;have CW:=(vY.gt sK).trans y0;have rv:=(vY.gt f).trans yu;have z8:=(vY.gt fN).trans yv;have uD:=(vY.gt aJ.next).trans yw;have kr:=aP Jf;have arR:=aP rv;have arS:=aP uD;have m9:=aP CW;have arT:=aP z8;have n1:aH av.next<=aH o7.next:=by
    have bJ:=y1.g.next
    have g8:aH ae.next<=aH cx.next:=by rw[fe];exact(DU cs ae an).next
    have tq:=et.next
    rw[fF,gu]at tq;omega
   have SY:aH jC<aH o7.next:=by omega
   have HV:aH f<aH o7.next:=by omega
   have Rh:aH aJ.next<aH o7.next:=by omega
   simp only[go_sem,seval,vS,vT,Na,Jc,Jf,st1,CW,AH,acm,Re,e1,rv,st,jV];refine⟨fun _ _ e=>(by cases e),?_⟩;refine x6 (by simp only[go_sem,seval,uD];rfl) ?_;refine U _ an ⟨(Q.set bn pV,k7,SX),⟨by simp only[go_sem,seval,CW],by simp only[go_sem,seval],by simp only[go_sem,seval],by simp only[go_sem,seval,z8],by simp only[go_sem,seval],trivial⟩,by rw[vm];exact lB,oG.set SS,((HU.iA AM SY _).iA AM HV _).iA AM Rh _,hU,by rw[mX,eP,r9]at*;omega,?_⟩
   rw[ab7];have oa:(Q.set bn pV).drop bn=pV::Q.drop (bn+1):=by
    rw[List.drop_set,bf (by omega),sb,D6 SN,List.set_cons_zero]
   rw[oa,en ab];show(pV+a9*val a9 (Q.drop (bn+1)))*b+val a9 k7=x+a9*val a9 (A.drop (bn+1));rw[ab6]at sL;exact V6 a9 n8.symm OK mX sL
 ·rintro⟨Q,R,w⟩ aa bR _ ⟨m9,kr,hG,eh,ea,_⟩ ⟨lB,oG,d6,vB,xA,sL⟩;simp only at lB oG d6 vB xA sL kr hG;have pl:=aP ea;have arj:=aP m9;have ark:=aP kr;have e4:=aP hG;rw[EB ea];rw[sb,iL,iL]at sL;exact⟨by simp,tt _ Q R w an (by simp only[go_sem,seval,m9]) (by simp only[go_sem,seval,kr]) ⟨d6.ag.Lt _ ea,d6.cap,d6.lim⟩ vB (by simp only[go_sem,seval,hG]) lB oG sL xA⟩
 ·intro _ _ _ _ _ aE;exact aE.elim
theorem ami(n m:Nat):decide (qm n m<0)=decide (n<m):=by
 unfold qm;by_cases h:n<m
 ·rw[bl h];simp[h]
 ·rw[bf h];split<;>simp[h]
theorem axm{n m:Nat}{v w:V}[bP:aK a](tu:gZ n v a)(cU:gZ m w a){K:Nat}(j0:K+20<=100000)(aq:n<a9^K)(hm:m<a9^K)(vI:0<m):
  cJ J a 342 [v,w] (fun x h=>∃b5 d7,x=.bk [b5,d7]/\gZ (n/m) b5 h/\gZ (n%m) d7 h):=by
 have arU:=tu;have arV:=cU;obtain⟨v,l,rfl,dd,c1,rfl⟩:=tu;obtain⟨w,cr,rfl,d6,c2,rfl⟩:=cU;have tw:=jF;have tT:0<a9:=by rw[tw];decide
 have xz:1<a9:=by rw[tw];decide
 have iO:=vl c1 aq;have iP:=vl c2 hm;refine cJ.bE ak.ahU rfl fun h ca g=>?_;have co:=ajl (J:=J) (a:=h) (arU.aO (aa:=h)) (arV.aO (aa:=h)) (K:=K) (by omega) aq hm;have SZ:=dd.aO (aa:=h);have arW:=d6.aO (aa:=h);obtain⟨bU,e8⟩:∃b:P,b=h.next:=⟨_,rfl⟩
 obtain⟨bC,fW⟩:∃b:P,b=(h.new (.af [v] 291)).next:=⟨_,rfl⟩
 obtain⟨b0,fB⟩:∃b:P,b=((h.new (.af [v] 291)).new (.af [w] 291)).next:=⟨_,rfl⟩
 obtain⟨cM,hB⟩:∃b:P,b=(((h.new (.af [v] 291)).new (.af [w] 291)).new (.af [.al] 291)).next:=⟨_,rfl⟩
 obtain⟨de,hg⟩:∃H:H,H=cg co ((((h.new (.af [v] 291)).new (.af [w] 291)).new (.af [.al] 291)).new (.af [.al] 291)) an:=⟨_,rfl⟩
 have lX:aK de:=by rw[hg];exact an
 have eg:aj h de:=by rw[hg];exact an
 have S0:aj a de:=g.aG eg;have a8:de.get bU=some (.af [v] 291):=by rw[hg,e8,bQ];simp only[go_sem,seval]
 have cc:de.get bC=some (.af [w] 291):=by rw[hg,fW,bQ];simp only[go_sem,seval]
 have dc:de.get b0=some (.af [.al] 291):=by rw[hg,fB,bQ];simp only[go_sem,seval]
 have dn:de.get cM=some (.af [.al] 291):=by rw[hg,hB,bQ];simp only[go_sem,seval]
 have dD:=aP a8;have gx:=aP cc;have hT:=aP dc;have g9:=aP dn;have EK:eC b0 h:=by rw[fB];exact an
 have Cc:eC cM h:=by rw[hB];exact an
 have ab2:dp b0 cM:=by rw[fB,hB];exact an
 have ab3:dp cM b0:=by rw[fB,hB];exact an
 have arX:dp bU b0:=by rw[e8,fB];exact an
 have Ch:jQ [.al] []=some (.agg [.al]):=rfl;have Nc:=a8;have Jg:=cc;rw[hg]at Nc Jg;have EI:=fK dd.ag;by_cases ay:val a9 l<val a9 cr
 ·have bA:qm (val a9 l) (val a9 cr)<0:=by
   have:=ami (val a9 l) (val a9 cr);rw[ov]at this;exact this.2 ay
  simp only[DE,go_sem,seval,ql,ld1,qA,co.cl,bA];simp only[<-e8,<-fW,<-fB,<-hB];simp only[<-hg];simp only[go_sem,seval,a8,dc,dn,Ch,ld1,st1,EI];rw[Nat.div_eq_of_lt ay,D8 ay];exact⟨_,_,rfl,⟨.al,[],rfl,⟨⟨by simp[dY],.inl ⟨rfl,rfl⟩⟩,trivial,GU⟩,⟨GU,by simp⟩,rfl⟩,⟨v,l,rfl,SZ.aO,c1,rfl⟩⟩
 ·have bA:¬qm (val a9 l) (val a9 cr)<0:=by
   have:=ami (val a9 l) (val a9 cr);rw[ov]at this;exact fun h=>ay (this.1 h)
  by_cases jB:cr.length=1
  ·obtain⟨y,rfl⟩:∃y,cr=[y]:=by
    match cr,jB with
    |[y],_=>exact⟨y,rfl⟩
   have xw:=d6.lim y (by simp);have Ri:val a9 [y]=y:=by simp[val]
   rw[Ri]at vI⊢;have cs:=ajm (J:=J) (a:=de) (n:=val a9 l) (d:=y) (v:=.agg [v]) ⟨v,l,rfl,SZ.aO,c1,rfl⟩ (K:=K) (by omega) aq vI xw;have arY:jP 1 w (.ad 0)=_:=d6.ag.addr (i:=0) (by simp[dY]);have arZ:=d6.ag.bM (i:=0) (jr (x:=y) rfl);simp only[DE,go_sem,seval,ql,ld1,qA,co.cl,bA,Jg,d6.ag.a2,dy];simp only[<-e8,<-fW,<-fB,<-hB];simp only[<-hg];simp only[go_sem,seval,a8,cc,ld1,qA,arY,arZ];refine cs.oR fun x dM f4 ss pU=>?_;rw[EA];refine⟨rfl,?_⟩;obtain⟨b5,d7,rfl,mi,nv⟩:=pU;obtain⟨v1,cY,rfl,I6,ar0,ar1,M7⟩:=mi;obtain⟨v2,k7,rfl,Fm,ar2,ar3,acq⟩:=nv;have Mg:=f4.dW;have aNB:aj h dM:=eg.aG f4;have w3:=(f4.gt b0).trans dc;have gY:=(f4.gt cM).trans dn;simp only[go_sem,seval,w3,gY,st1,ld1];exact⟨_,_,rfl,⟨v1,cY,rfl,(I6.iA M7 hT.lt _).iA M7 g9.lt _,ar0,ar1⟩,⟨v2,k7,rfl,(Fm.iA acq hT.lt _).iA acq g9.lt _,ar2,ar3⟩⟩
  ·have nC:∃q,cr.length=q+2:=by
    have:cr.length≠0:=by
     intro e;have:=tb e;subst this;simp[val]at vI
    exact⟨cr.length-2,by omega⟩
   obtain⟨q,aM⟩:=nC;obtain⟨y,ax⟩:=bI (l:=cr) (i:=q+1) (by omega);have xw:=d6.lim y (c0 ax);have Nd:0<y:=by
    have:=amh c2 aM;unfold gI at this;rw[ax]at this;exact this
   obtain⟨qT,y2⟩:=arb a9 tw xw Nd;have ar4:¬(((q+2:Nat):Int)=1):=by omega
   have Jh:b8 .i64 (((q+2:Nat):Int) -1)=((q+1:Nat):Int):=by rw[gz (by omega) (by omega)];omega
   have EJ:b8 .u64 (y:Int)=(y:Int):=wrap_u64 (by omega);have ar5:b8 .u64 ((y:Int)+1)=((y+1:Nat):Int):=by rw[show(y:Int)+1=((y+1:Nat):Int) by omega];exact wrap_u64 (by omega)
   have jy:=DH .int .u64 a9 (y+1) (by omega);have vA:((a9:Nat):Int)=1000000000:=rfl
   rw[vA]at jy;have IU:q+1<(ra cr).length:=by rw[dy];omega
   generalize a9/(y+1)=s at jy qT y2;have ar6:b8 .u64 (s:Int)=(s:Int):=wrap_u64 (by omega);have ws:b8 .u32 (s:Int)=(s:Int):=V8 y2;rw[ar6]at jy;have bF:fA a9 [s]:=fun y ax=>by simp at ax;omega
   have acr:d3.Can a9 [s]:=⟨bF,by simp;omega⟩;have aNC:0<val a9 cr*s:=Nat.mul_pos vI qT;obtain⟨fr,p8⟩:∃b:P,b=(de.new (.af [.int .u32 (s:Int)] 397)).next:=⟨_,rfl⟩
   obtain⟨f0,xE⟩:∃b:P,b=((de.new (.af [.int .u32 (s:Int)] 397)).new (.af [.ag de.next 0 0 1 1 (some 1)] 291)).next:=⟨_,rfl⟩
   obtain⟨j2,tV⟩:∃b:P,b=(((de.new (.af [.int .u32 (s:Int)] 397)).new (.af [.ag de.next 0 0 1 1 (some 1)] 291)).new (.af [.al] 291)).next:=⟨_,rfl⟩
   obtain⟨j3,nG⟩:∃H:H,H=((((de.new (.af [.int .u32 (s:Int)] 397)).new (.af [.ag de.next 0 0 1 1 (some 1)] 291)).new (.af [.al] 291)).new (.af [.al] 291)):=⟨_,rfl⟩
   have ss:aK j3:=by rw[nG];exact an
   have CX:aj de j3:=by rw[nG];exact an
   have Mg:=CX.dW;have AN:aj h j3:=eg.aG CX;have oA:j3.get fr=some (.af [.ag de.next 0 0 1 1 (some 1)] 291):=by rw[nG,p8];simp only[go_sem,seval]
   have qJ:j3.get f0=some (.af [.al] 291):=by rw[nG,xE];simp only[go_sem,seval]
   have hs:j3.get j2=some (.af [.al] 291):=by rw[nG,tV];simp only[go_sem,seval]
   have cT:j3.get de.next=some (.af (d8 .u32 [s]) 397):=by rw[nG];simp only[go_sem,seval];rfl
   have k8:=(CX.gt bU).trans a8;have hS:=(CX.gt bC).trans cc;have w3:=(CX.gt b0).trans dc;have gY:=(CX.gt cM).trans dn;have qM:=aP oA;have z6:=aP qJ;have vD:=aP hs;have acs:fI j3 (.ag de.next 0 0 1 1 (some 1)) [s]:=⟨nY cT (some 1),a1 _,bF⟩;have aMw:eC f0 de:=by rw[xE];exact an
   have apN:eC j2 de:=by rw[tV];exact an
   have aND:dp f0 j2:=by rw[xE,tV];exact an
   have aNE:dp j2 f0:=by rw[xE,tV];exact an
   have aNF:dp fr f0:=by rw[p8,xE];exact an
   have aNG:dp fr j2:=by rw[p8,tV];exact an
   have ar7:=V5 (J:=J) (a:=j3) (n:=val a9 l) (m:=s) (v:=.agg [v]) (w:=.agg [.ag de.next 0 0 1 1 (some 1)]) ⟨v,l,rfl,SZ.aO,c1,rfl⟩ ⟨_,_,rfl,acs,acr,by simp[val]⟩ (K:=K+1) (by omega) (KV a9 xz aq 1) (XW a9 xz y2 K);have ar8:=V5 (J:=J) (a:=j3) (n:=val a9 cr) (m:=s) (v:=.agg [w]) (w:=.agg [.ag de.next 0 0 1 1 (some 1)]) ⟨w,cr,rfl,arW.aO,c2,rfl⟩ ⟨_,_,rfl,acs,acr,by simp[val]⟩ (K:=K+1) (by omega) (KV a9 xz hm 1) (XW a9 xz y2 K);have ar9:∀f,jQ [.al] [(0,1,.ag f 0 0 1 1 (some 1))]=some (.agg [.ag f 0 0 1 1 (some 1)]):=fun _=>rfl;simp only[DE,go_sem,seval,ql,ld1,qA,co.cl,bA,Jg,d6.ag.a2,dy,aM,ar4];simp only[<-e8,<-fW,<-fB,<-hB];simp only[<-hg];simp only[go_sem,seval,a8,cc,ld1,qA,d6.ag.a2,dy,aM,Jh,d6.ag.addr IU,d6.ag.bM (jr ax),q9,EJ,ar5,jy,ws,Pn,ar9,am0,st1];simp only[<-p8,<-xE,<-tV];simp only[<-nG];refine ar7.oR fun aMx jf lY z7 yx=>?_;obtain⟨bg,cZ,rfl,Mi,uE,EN,acu⟩:=yx;have Z0:=lY.dW;have s2:=fK d6.ag;have z9:=alL de.next 0 0 1 1 (some 1)
   have asa:=(lY.gt bC).trans hS;have asb:=(lY.gt fr).trans oA;simp only[go_sem,seval,asa,asb,ld1,s2,z9];refine ar8.oR fun apO fU sv Cg HW=>?_;rw[EA];refine⟨rfl,?_⟩;obtain⟨hF,fL,rfl,uC,h3,dr,acv⟩:=HW;have i8:=sv.dW;have Fu:aj j3 fU:=lY.aG sv;have Z2:=(Fu.gt f0).trans qJ;have Z3:=(Fu.gt j2).trans hs;obtain⟨kP,rN⟩:∃H:H,H=(fU.set f0 (.af [bg] 291)).set j2 (.af [hF] 291):=⟨_,rfl⟩;have aNH:=aP Z2;have aNI:=aP Z3;have EM:aK kP:=by rw[rN];exact an
   have xF:aj de fU:=CX.aG Fu;have AO:aj de kP:=by rw[rN];exact an
   have apM:=AO.dW;have acw:fI kP bg cZ:=by rw[rN];exact((Mi.aO (aa:=fU)).iA acu z6.lt _).iA acu vD.lt _
   have CY:fI kP hF fL:=by rw[rN];exact(uC.iA acv z6.lt _).iA acv vD.lt _
   have pW:kP.get j2=some (.af [hF] 291):=by rw[rN];exact jt
   have ny:kP.get f0=some (.af [bg] 291):=by rw[rN,GN];exact jt
   have yy:kP.get fr=some (.af [.ag de.next 0 0 1 1 (some 1)] 291):=by rw[rN];simp only[go_sem,seval];exact(Fu.gt fr).trans oA
   have aNJ:fQ de.next fU:=aP ((Fu.gt de.next (o:=aP cT)).trans cT)
   have aNK:dp de.next f0:=by rw[xE];exact an
   have aNL:dp de.next j2:=by rw[tV];exact an
   have acx:kP.get de.next=some (.af (d8 .u32 [s]) 397):=by rw[rN];simp only[go_sem,seval];exact(Fu.gt de.next (o:=aP cT)).trans cT
   have d7:=(AO.gt bU).trans a8;have iq:=(AO.gt b0).trans dc;have n2:=(AO.gt cM).trans dn;have acy:=aP ny;have Fv:=aP pW;have CZ:=aP yy;have asc:∃p,fL.length=p+2:=by
    have h1:=c2.ge (by rintro rfl;simp at aM);rw[aM,show q+2-1=q+1 by omega]at h1;have ae:val a9 cr<=val a9 fL:=by rw[dr];exact Nat.le_mul_of_pos_right _ qT
    have az:=sa h3.1;have bo:q+1<fL.length:=(Nat.pow_lt_pow_iff_right xz).1 (by omega);exact⟨fL.length-2,by omega⟩
   obtain⟨p,bh⟩:=asc;have aNM:fL.length<=K+1:=vl h3 (by rw[dr];exact mulPow a9 hm y2);have asd:cZ.length<=l.length+1:=vl uE (by rw[EN];exact mulPow a9 (sa c1.1) y2);obtain⟨HX,AJ⟩:=bI (l:=fL) (i:=p+1) (by omega);obtain⟨rH,sH⟩:=bI (l:=fL) (i:=p) (by omega);have M6:=h3.1 HX (c0 AJ);have vX:=h3.1 rH (c0 sH);have SR:b8 .i64 (((p+2:Nat):Int) -1)=((p+1:Nat):Int):=by rw[gz (by omega) (by omega)];omega
   have M8:b8 .i64 (((p+2:Nat):Int) -2)=((p:Nat):Int):=by rw[gz (by omega) (by omega)];omega
   have ase:b8 .u64 (HX:Int)=(HX:Int):=ajn M6;have asf:b8 .u64 (rH:Int)=(rH:Int):=ajn vX;have asg: p+1<(ra fL).length:=by rw[dy];omega
   have ash: p<(ra fL).length:=by rw[dy];omega
   have asi:∀(k:IntKind) (x y:Int) (ty:TypeId) (h:H) (f:P),fz (some (.af [.int k x] ty)) h f 1 0 0 1 (.int k y)=some (.bk [],h.set f (.af [.int k y] ty)):=fun _ _ _ _ _ _=>rfl;have tQ:∀(k:IntKind) (x:Int) (ty:TypeId),ec (some (.af [.int k x] ty)) false 1 0 0 1=some (.int k x):=fun _ _ _=>rfl;have xx:∀(h:H) (f g:P) (n:Nat),fz (some (.af [.al] 289)) h g 1 0 0 1 (.ag f 0 0 n 1 (some n))=some (.bk [],h.set g (.af [.ag f 0 0 n 1 (some n)] 289)):=fun _ _ _ _=>rfl;have h8:=wY 397 1 4 [.int .u32 (.ofNat 0)] (l.length+1) (by omega) (by omega);rw[BX]at h8;have rM:(Int.ofNat 0)=0:=rfl;simp only[rM]at h8;have asj:b8 .i64 ((l.length:Int)+1)=((l.length+1:Nat):Int):=cG (by omega)
   have S1:=fK CY.ag;simp only[go_sem,seval,Z2,Z3,st1];simp only[<-rN];simp only[go_sem,seval,pW,qA,ld1,tQ,asi,CY.ag.a2,dy,bh,rW,SR,M8,CY.ag.addr asg,CY.ag.addr ash,CY.ag.bM (jr AJ),CY.ag.bM (jr sH),ase,asf,S1];obtain⟨la,C0⟩:∃b:P,b=kP.next:=⟨_,rfl⟩
   obtain⟨m7,Kr⟩:∃b:P,b=(kP.new (.af [.ad (p+2:Nat)] 3)).next:=⟨_,rfl⟩
   obtain⟨m8,Ks⟩:∃b:P,b=((kP.new (.af [.ad (p+2:Nat)] 3)).new (.af [.int .u64 0] 419)).next:=⟨_,rfl⟩
   obtain⟨jx,Fw⟩:∃H:H,H=((((kP.new (.af [.ad (p+2:Nat)] 3)).new (.af [.int .u64 0] 419)).new (.af [.int .u64 0] 419)).set m7 (.af [.int .u64 (HX:Nat)] 419)).set m8 (.af [.int .u64 (rH:Nat)] 419):=⟨_,rfl⟩
   have aQh:fQ m7 (((kP.new (.af [.ad (p+2:Nat)] 3)).new (.af [.int .u64 0] 419)).new (.af [.int .u64 0] 419)):=by rw[Kr];exact an
   have aQi:fQ m8 (((kP.new (.af [.ad (p+2:Nat)] 3)).new (.af [.int .u64 0] 419)).new (.af [.int .u64 0] 419)):=by rw[Ks];exact an
   have aQj:eC m7 kP:=by rw[Kr];exact an
   have aQk:eC m8 kP:=by rw[Ks];exact an
   have aRi:dp m7 m8:=by rw[Kr,Ks];exact an
   have aQl:dp la m7:=by rw[C0,Kr];exact an
   have aQm:dp la m8:=by rw[C0,Ks];exact an
   have aMy:aK jx:=by rw[Fw];exact an
   have uS:aj kP jx:=by rw[Fw];exact an
   have aMz:=uS.dW;have HY:jx.get la=some (.af [.ad (p+2:Nat)] 3):=by rw[Fw];simp only[go_sem,seval];rw[C0];simp only[go_sem,seval]
   have y3:jx.get m7=some (.af [.int .u64 (HX:Nat)] 419):=by rw[Fw];simp only[go_sem,seval]
   have acz:jx.get m8=some (.af [.int .u64 (rH:Nat)] 419):=by rw[Fw];simp only[go_sem,seval]
   have apP:=(uS.gt j2).trans pW;have Rj:=(uS.gt f0).trans ny;have yz:=(uS.gt fr).trans yy;have acA:=(uS.gt de.next (o:=aP acx)).trans acx;have g8:=(uS.gt bU).trans d7;have oH:=(uS.gt b0).trans iq;have sw:=(uS.gt cM).trans n2;have axb:=aP y3;have axc:=aP acz;have ari:=aP HY;have aNN:=aP acA;have aNO:aj a jx:=S0.aG (AO.aG uS);have asl:aj h jx:=eg.aG (AO.aG uS);simp only[<-C0];simp only[<-Kr];simp only[<-Ks];simp only[<-Fw];have aMA:∀(bR:H),ec (some (.af [.al] 291)) false 1 0 0 1=some .al:=fun _=>rfl;simp only[go_sem,seval,d7,g8,Rj,qA,ld1,dd.ag.a2,dy,asj,h8,xx,Ch,st1,(DF _ acw.cell _).cl];refine axa (a:=jx) (A:=cZ) (tx:=fL) (b:=val a9 fL) (n:=p) (N:=l.length+1) (K:=K+1) (j2:=j2) (la:=la) (m7:=m7) (m8:=m8) (f:=jx.next) (sK:=(jx.new (.af (d8 .u32 (List.replicate (l.length+1) 0)) 397)).next) (jC:=((jx.new (.af (d8 .u32 (List.replicate (l.length+1) 0)) 397)).new (.af [.ag jx.next 0 0 (l.length+1) 1 (some (l.length+1))] 289)).next) (fN:=(((jx.new (.af (d8 .u32 (List.replicate (l.length+1) 0)) 397)).new (.af [.ag jx.next 0 0 (l.length+1) 1 (some (l.length+1))] 289)).new (.af [.al] 291)).next) (acw.aO (aa:=jx)) (by omega) (CY.aO (aa:=jx)) h3 rfl bh (by omega) asd (by omega) (by omega) (by rw[dr];exact mulPow a9 hm y2)
    apP HY (by rw[gI,AJ];exact y3) (by rw[gI,sH];exact acz) (by simp only[go_sem,seval]) (by simp only[go_sem,seval]) (by simp only[go_sem,seval]) (by simp only[go_sem,seval]) (by simp only[go_sem,seval]) (by simp only[go_sem,seval]) (by simp only[go_sem,seval]) (by simp only[go_sem,seval]) (by simp only[go_sem,seval]) (by simp only[go_sem,seval]) (by simp only[go_sem,seval]) ?_ ?_ ?_ ?_ ?_ ?_ ?_ ?_ ?_
   all_goals first|exact an|skip
   intro aa Q R wr bR S2 acB Rk vB hp lB oG ar xA;have ch:=bR.bx;have ZX:=bR.dW;have xy:aj h aa:=asl.aG bR;have pU:=(bR.gt fr).trans yz;have asm:=(bR.gt de.next).trans acA;have j1:=(bR.gt b0).trans oH;have nz:=(bR.gt cM).trans sw;have aQn:=aP S2;have aQo:=aP acB;have aNP:=aP hp;have acC:fI aa (.ag de.next 0 0 1 1 (some 1)) [s]:=⟨nY asm (some 1),a1 _,bF⟩;have asn:jP 1 (.ag de.next 0 0 1 1 (some 1)) (.ad 0)=_:=acC.ag.addr (i:=0) (by simp[dY]);have aso:=acC.ag.bM (i:=0) (jr (x:=s) rfl);obtain⟨AP,Kt⟩:∃b:P,b=aa.next:=⟨_,rfl⟩
   obtain⟨Fx,Ku⟩:∃b:P,b=(aa.new (.af [.al] 291)).next:=⟨_,rfl⟩
   obtain⟨yA,Ji⟩:∃H:H,H=(aa.new (.af [.al] 291)).new (.af [.al] 291):=⟨_,rfl⟩;have eR:aK yA:=by rw[Ji];exact an
   have gs:aj aa yA:=by rw[Ji];exact an
   have aNQ:=gs.dW;have acD:yA.get AP=some (.af [.al] 291):=by rw[Ji,Kt];simp only[go_sem,seval]
   have acE:yA.get Fx=some (.af [.al] 291):=by rw[Ji,Ku];simp only[go_sem,seval]
   have aRj:dp AP Fx:=by rw[Kt,Ku];exact an
   have aRk:dp Fx AP:=by rw[Kt,Ku];exact an
   have asp:eC AP aa:=by rw[Kt];exact⟨a1 _⟩
   have aNR:eC Fx aa:=by rw[Ku];exact an
   have axn:=aP acD;have axo:=aP acE;have cs:=ajm (J:=J) (a:=yA) (n:=val a9 R) (d:=s) (v:=.agg [wr]) ⟨wr,R,rfl,Rk.aO,vB,rfl⟩ (K:=K+1) (by omega) (Nat.lt_trans xA (by rw[dr];exact mulPow a9 hm y2)) qT y2;have AH:ec (some (.af [.ag jx.next 0 0 (l.length+1) 1 (some (l.length+1))] 289)) false 1 0 0 1=some (.ag jx.next 0 0 (l.length+1) 1 (some (l.length+1))):=rfl;have asq:ec (some (.af [.ag de.next 0 0 1 1 (some 1)] 291)) false 1 0 0 1=some (.ag de.next 0 0 1 1 (some 1)):=rfl;simp only[go_sem,seval,acB,pU,qA,ld1,asq,asn,aso];simp only[<-Kt,<-Ku];simp only[<-Ji];refine cs.oR fun xs aX su Z1 da=>?_;rw[EA];refine⟨rfl,?_⟩;obtain⟨w7,aMB,rfl,bE,HU⟩:=da;obtain⟨Mj,o8,rfl,asr,lf,eq,Nf⟩:=bE;obtain⟨apQ,w9,rfl,aNS,hU,mX,AM⟩:=HU;have aMC:=su.dW;have Ng:aj aa aX:=gs.aG su;have acF:=(su.gt AP).trans acD;have acG:=(su.gt Fx).trans acE;have Fy:=(Ng.gt _).trans S2;have aMD:=(Ng.gt _).trans hp;have Ci:=(Ng.gt b0).trans j1;have Rl:=(Ng.gt cM).trans nz;have aQp:=aP acF;have aQq:=aP acG;obtain⟨Aa,Jj⟩:∃H:H,H=(aX.set AP (.af [Mj] 291)).set Fx (.af [apQ] 291):=⟨_,rfl⟩;have aNT:aK Aa:=by rw[Jj];exact an
   have Fz:aj aa Aa:=by rw[Jj];exact an
   have aME:=Fz.dW;have acH:Aa.get AP=some (.af [Mj] 291):=by rw[Jj];simp only[go_sem,seval]
   have SO:=(Fz.gt _).trans S2;have Mf:=(Fz.gt _).trans hp;have pN:=(Fz.gt b0).trans j1;have mV:=(Fz.gt cM).trans nz;have aQr:=aP acH;have aNU:=aP Mf;have acI:fI Aa Mj o8:=by rw[Jj];exact(asr.iA Nf axn.lt _).iA Nf axo.lt _
   have Rm:fI Aa (.ag jx.next 0 0 (l.length+1) 1 (some (l.length+1))) Q:=⟨Y2 lB Mf _,a1 _,oG⟩;have FA:=Be (J:=J) Rm (by omega);have ass:=Qd Rm.kb.cell;have ast:=fK acI.ag;have axp:aH b0<aH jx.next:=by have:=(AO.aG uS).g.next;have:=hT.lt;omega
   have axq:aH cM<aH jx.next:=by have:=(AO.aG uS).g.next;have:=g9.lt;omega
   have aNV:aj h Aa:=xy.aG Fz;have aQs:dp AP b0:=⟨fun e=>by have h1:=(an:fQ b0 aa).lt;have ae:=asp.ge;rw[e]at ae;omega⟩;simp only[go_sem,seval,acF,acG,st1];simp only[<-Jj];simp only[go_sem,seval,SO,AH,acH,pN,mV,ld1,FA.bL,bQ,ass,st1,ast,alK,Yh];rw[dr]at ar xA;rw[EN]at ar;obtain⟨aN,bd⟩:=aIS qT vI ar xA;have acJ:l1 (aH jx.next) (kb (.ag jx.next 0 0 (l.length+1) 1 (some (l.length+1))) Q):=Hs (v:=.ag jx.next 0 0 (l.length+1) 1 (some (l.length+1))) (a1 _) _;refine⟨_,_,rfl,?_,?_⟩
   ·refine gZ.strip ((((Rm.kb).aO (aa:=cg FA Aa an)).iA acJ axp _).iA acJ axq _) oG aN
   ·have asu:aH b0<aH yA.next:=(an:fQ b0 yA).lt
    have asv:aH cM<aH yA.next:=(an:fQ cM yA).lt
    exact⟨Mj,o8,rfl,((acI.aO (aa:=cg FA Aa an)).iA Nf asu _).iA Nf asv _,lf,by rw[eq];exact bd⟩
theorem amj{h:H}{v:V}{l:List Nat}(m:fI h v l):∀k n,v≠.int k n:=by
 rintro k n rfl;rcases m.ag.2 with⟨e,_⟩|⟨_,_,_,_,e,_⟩<;>cases e
theorem gZ.vh{h:H}{n:Nat}{w:V}(m:gZ n w h){g:P}{x y:V}{ty gF:TypeId}(e:h.get g=some (.af [x] ty))(ab:∀k n,x≠.int k n):gZ n w (h.set g (.af [y] gF)):=
 let⟨v,l,HZ,q,c,z⟩:=m;⟨v,l,HZ,⟨q.ag.vh e ab,q.cap,q.lim⟩,c,z⟩
theorem gZ.ag{h:H}{n:Nat}{w:V}(m:gZ n w h):∃v l,w=.agg [v]/\fI h v l:=let⟨v,l,HZ,q,_⟩:=m;⟨v,l,HZ,q⟩
theorem axr{n m:Nat}{v w:V}[bP:aK a](tu:gZ n v a)(cU:gZ m w a){K:Nat}(j0:K+20<=100000)(aq:n<a9^K)(hm:m<a9^K):cJ J a 221 [v,w] (gZ (Nat.gcd n m)):=by
 obtain⟨v,l,rfl,dd⟩:=tu.ag;obtain⟨w,cr,rfl,d6⟩:=cU.ag;refine cJ.bE ak.agM rfl fun h ca g=>?_;obtain⟨bU,e8⟩:∃b:P,b=h.next:=⟨_,rfl⟩
 obtain⟨bC,fW⟩:∃b:P,b=(h.new (.af [v] 291)).next:=⟨_,rfl⟩
 obtain⟨b0,fB⟩:∃b:P,b=((h.new (.af [v] 291)).new (.af [w] 291)).next:=⟨_,rfl⟩
 obtain⟨e6,jD⟩:∃H:H,H=((h.new (.af [v] 291)).new (.af [w] 291)).new (.af [.al] 291):=⟨_,rfl⟩
 have mE:aK e6:=by rw[jD];exact an
 have eE:aj h e6:=by rw[jD];exact an
 have a8:e6.get bU=some (.af [v] 291):=by rw[jD,e8];simp only[go_sem,seval]
 have cc:e6.get bC=some (.af [w] 291):=by rw[jD,fW];simp only[go_sem,seval]
 have dc:e6.get b0=some (.af [.al] 291):=by rw[jD,fB];simp only[go_sem,seval]
 have dD:=aP a8;have gx:=aP cc;have hT:=aP dc;have o5:eC bU h:=by rw[e8];exact an
 have ux:eC bC h:=by rw[fW];exact an
 have EK:eC b0 h:=by rw[fB];exact an
 have Nh:dp bU bC:=by rw[e8,fW];exact an
 have acK:dp bC bU:=by rw[e8,fW];exact an
 have asw:dp b0 bU:=by rw[e8,fB];exact an
 have asx:dp b0 bC:=by rw[fW,fB];exact an
 simp only[agL,go_sem,seval,ql];simp only[<-e8,<-fW,<-fB];simp only[<-jD];have Ni:aj a e6:=g.aG eE;refine lU (fun y t=>∃I h1 bg hF x,t=⟨I,[],h1⟩/\aj h h1/\h1.get bU=some (.af [bg] 291)/\h1.get bC=some (.af [hF] 291)/\h1.get b0=some (.af [.al] 291)/\
  gZ x (.agg [bg]) h1/\gZ y (.agg [hF]) h1/\Nat.gcd x y=Nat.gcd n m/\x<a9^K/\y<a9^K/\I.gt 2=.ptr bU 0 0 1/\I.gt 3=.ptr bC 0 0 1/\I.gt 4=.ptr b0 0 0 1) ?_ (m:=m) ⟨_,e6,v,w,n,rfl,eE,a8,cc,dc,tu.aO,cU.aO,rfl,aq,hm,?_,?_,?_⟩
 ·rintro y t ⟨I,h1,bg,hF,x,rfl,aB,cO,c5,fw,eo,Rn,aC,ab,ax,cq,aR,bZ⟩;have bW:=aB.bx;have dX:=aP cO;have e3:=aP c5;have j1:=aP fw;have hU:=OJ (J:=J) Rn;by_cases Nd:y=0
  ·subst Nd;rw[Nat.gcd_zero_right]at aC;rw[<-aC];simp only[go_sem,seval,cq,aR,bZ,cO,c5,fw,ld1,hU.cl,bQ,st1];obtain⟨Jk,cZ,e,acL⟩:=eo.ag;cases e;have:gZ x (.agg [bg]) ((cg hU h1 an)):=eo.aO
   exact this.vh (x:=.al) (ty:=291) (by rw[bQ];exact fw) (fun k n h=>by cases h)
  ·simp only[Nd,qw]at hU;have uF:=axm (J:=J) (eo.aO (aa:=cg hU h1 an)) (Rn.aO (aa:=cg hU h1 an)) (K:=K) j0 ab ax (by omega);simp only[go_sem,seval,cq,aR,cO,c5,ld1,hU.cl,bQ];refine uF.run fun aMF ae aY c3 r=>?_;obtain⟨b5,d7,rfl,mi,nv⟩:=r;obtain⟨v1,cY,rfl,I6⟩:=mi.ag;obtain⟨v2,k7,rfl,Fm⟩:=nv.ag;have kC:=aY.dW;have Nj:aj h1 (cg hU h1 an):=an;have s2:=((Nj.aG aY).gt bU).trans cO
   have n0:=((Nj.aG aY).gt bC).trans c5
   have sx:=((Nj.aG aY).gt b0).trans fw
   have oZ:=aP s2;have tj:=aP n0;have pN:=aP sx;have ey:aj h ae:=(aB.aG Nj).aG aY;have asy:=Rn.aO (aa:=cg hU h1 an);have acM:gZ y (.agg [hF]) ae:=asy.aO;obtain⟨_,fL,e,acN⟩:=acM.ag;cases e;have xa:∀k n,bg≠.int k n:=by
    obtain⟨Jk,cZ,e,acL⟩:=eo.ag;cases e;exact amj acL
   have Ab:=amj acN;obtain⟨cM,hB⟩:∃b:P,b=ae.next:=⟨_,rfl⟩
   obtain⟨fr,p8⟩:∃b:P,b=(ae.new (.af [.al] 291)).next:=⟨_,rfl⟩
   have S1:=fK acN.ag;have asz:=fK Fm.ag;simp only[go_sem,seval,cq,aR,bZ,s2,n0,st1,ld1,S1,asz];have ay:x%y<y:=qv _ (by omega);refine⟨x%y,ay,_,_,hF,v2,y,rfl,an,?_,?_,?_,?_,?_,?_,ax,Nat.lt_trans ay ax,?_,?_,?_⟩
   ·simp only[go_sem,seval]
   ·simp only[go_sem,seval]
   ·simp only[go_sem,seval,sx]
   ·refine gZ.vh (gZ.vh (x:=bg) (ty:=291) ?_ ?_ xa) (x:=hF) (ty:=291) ?_ Ab
    ·exact acM.aO
    ·simp only[go_sem,seval,s2]
    ·simp only[go_sem,seval,n0]
   ·refine gZ.vh (gZ.vh (x:=bg) (ty:=291) ?_ ?_ xa) (x:=hF) (ty:=291) ?_ Ab
    ·exact(nv.aO)
    ·simp only[go_sem,seval,s2]
    ·simp only[go_sem,seval,n0]
   ·rw[Nat.gcd_comm,<-Nat.gcd_rec,Nat.gcd_comm,aC]
   ·simp only[go_sem,seval,cq]
   ·simp only[go_sem,seval,aR]
   ·simp only[go_sem,seval,bZ]
 all_goals simp only[go_sem,seval]
theorem Po{B:Nat}:fA B []:=fun _ h=>by cases h
theorem Xh{B:Nat}{D:List Nat}(h:fA B D){d:Nat}(a3:d<B):fA B (D++[d]):=fun x ab=>by
 rcases List.mem_append.1 ab with q|q
 ·exact h x q
 ·simp at q;subst q;exact a3
theorem Wc(s:List Nat)(ty:TypeId):ec (some (.af [.str s] ty)) false 1 0 0 1=some (.str s):=rfl
theorem aBx(m:Nat):Dk (.ad 0) (.ad ((m:Int) -9))=some (.ad ((m-9:Nat):Int)):=by
 show some (V.ad (match oI 0 ((m:Int) -9)with|true=>(m:Int) -9|false=>0))=_
 rw[pE];by_cases h:(0:Int)<(m:Int) -9
 ·simp only[h,hX];congr 2;omega
 ·simp only[h,qw];congr 2;omega
theorem aKd{s:List Nat}{m:Nat}(hm:m<=s.length):dec (s.take m)=dec (s.take (m-9))*a9+dec ((s.take m).drop (m-9))\/(dec (s.take (m-9))=0/\dec (s.take m)=dec ((s.take m).drop (m-9))):=by
 by_cases h:9<=m
 ·left;have e:s.take m=s.take (m-9)++(s.take m).drop (m-9):=by
   have:=zI (m-9) (s.take m);rw[wV,nl (by omega)]at this;exact this.symm
  have au:((s.take m).drop (m-9)).length=9:=by rw[jG,el];omega
  conv=>lhs;rw[e]
  rw[QK,au];rfl
 ·right;have:m-9=0:=by omega
  rw[this];exact⟨by simp[dec],by simp⟩
theorem axt[bP:aK a]{s:List Nat}(aA:rl s)(au:s.length<=1000){aJ:H}[ca:aK aJ][eZ:aj a aJ]{cM n3:P}{I:Fr}{k:c4}
  (bu:I.gt 5=.ptr cM 0 0 1) (qZ:I.gt 16=.fn (.func 417) [] [.ptr n3 0 0 1]) (_:dp cM n3) (_:dp n3 cM) (_:eC cM a) (_:eC n3 a)
  (eY:aJ.get cM=some (.af [.al] 289)) (nx:aJ.get n3=some (.af [.str s] 9))
  (tt:∀aa v l,aj a aa->aa.get cM=some (.af [v] 289) ->fI aa v l->val a9 l=dec s->l.length<=s.length->l1 (aH aJ.next) v->k.run J (.norm ⟨I,[],aa⟩)):dA J alu ⟨I,[],aJ⟩ k:=by
 have g9:=aP eY;have apS:=aP nx;have tw:=jF;have kj:aH cM<aH aJ.next:=g9.lt
 have lc:aH n3<aH aJ.next:=apS.lt
 have uD:eC aJ.next a:=an
 unfold alu;refine Xe (g:=417) (first:=[]) (cap:=[.ptr n3 0 0 1]) (by simp only[go_sem,seval,qZ]) ?_;refine PJ ak.aip.1 rfl ?_;simp only[aio,go_sem,seval];refine lU (fun m t=>∃vM h1 v l,t=⟨vM,[],h1⟩/\aj a h1/\h1.get n3=some (.af [.str (s.take m)] 9)/\h1.get cM=some (.af [v] 289)/\h1.get aJ.next=some (.loop .ready none I [(a0 17)] GO GP)/\
  bD 397 1 (aH aJ.next+1) h1 v (ra l)/\fA a9 l/\m<=s.length/\val a9 l+a9^l.length*dec (s.take m)=dec s/\l.length+m<=s.length/\vM.gt 0=.jk aJ.next/\vM.gt 1=.ptr n3 0 0 1) ?_ (m:=s.length) ⟨_,_,.al,[],rfl,an,by simp only[go_sem,seval,nx,g5],by simp only[go_sem,seval,eY],ef,.nil _ _ _ _,Po,a1 _,by rw[g5];simp[val],by simp,by simp only[go_sem,seval],by simp only[go_sem,seval]⟩
 rintro m t ⟨vM,h1,v,l,rfl,aB,H0,dn,ea,dt,Z4,hm,ar,qX,bq,f1⟩;have bW:=aB.bx;have mV:=aP dn;have aMG:=aP H0;have ul:=aP ea;cases m with
 |zero=>
  rw[BO]at H0 ar;simp only[go_sem,seval,f1,H0,Wc];rw[EB ea];refine⟨by simp,tt _ v l an (by simp only[go_sem,seval,dn]) ⟨dt.ag.Lt _ ea,dt.cap,Z4⟩ (by simpa[dec]using ar) (by omega) (dt.rt.mono (by omega))⟩
 |succ m=>
  generalize bT:m+1=M at*;have h4:0<M:=by omega
  have AQ:(s.take M).length=M:=by rw[el];omega
  have axu:(0:Int)<(M:Int):=by omega
  have apT:b8 .i64 ((M:Int) -9)=(M:Int) -9:=gz (by omega) (by omega)
  have ez:=Ev (s.take M) (n:=M-9) (by omega);have ft:=PT (s.take M) (n:=M-9) (by omega);have asB:(s.take M).take (M-9)=s.take (M-9):=by rw[wV,nl (by omega)]
  rw[asB]at ft;have Cz:=aKd (s:=s) hm;have Nk:rl ((s.take M).drop (M-9)):=fun x ab=>aA x (wO (wN ab))
  have kp:((s.take M).drop (M-9)).length<=9:=by rw[jG,AQ];omega
  generalize U:(s.take M).drop (M-9)=c at*;have aNW:=ajw Nk kp;simp only[go_sem,seval,bq,f1,H0,Wc,AQ,axu,rW,apT,aBx,ez];refine Ec (aa:=h1) ea rfl (by simp only[GO,go_sem,seval,jV];rfl) ea ?_;obtain⟨ah,C1⟩:∃ah:H,ah=h1.set aJ.next (.loop .busy none I [(a0 17)] GO GP):=⟨_,rfl⟩
  rw[<-C1];have ki:aK ah:=by rw[C1];exact an
  have Cj:aj a ah:=by rw[C1];exact an
  have asC:bD 397 1 (aH aJ.next+1) ah v (ra l):=by rw[C1];exact dt.iA (Nat.lt_succ_self _) _
  have acO:ah.get n3=some (.af [.str (s.take M)] 9):=by rw[C1];simp only[go_sem,seval,H0]
  have acP:ah.get cM=some (.af [v] 289):=by rw[C1];simp only[go_sem,seval,dn]
  have acQ:ah.get aJ.next=some (.loop .busy none I [(a0 17)] GO GP):=by rw[C1];simp only[go_sem,seval]
  have asD:=aP acQ;have aNX:aH aJ.next<aH ah.next:=asD.lt
  simp only[aDR,XO,go_sem,seval];refine axs (bi:=ah.next) (c:=c) Nk kp (by simp only[go_sem,seval];rfl) (by simp only[go_sem,seval]) (by simp only[go_sem,seval]) ?_;intro vZ ae oZ Ca EH;replace Ca:=Ca.trans (by simp only[go_sem,seval,bu]:_=V.ptr cM 0 0 1);have c3:=oZ.bx;have Ro:eC ah.next ah:=⟨a1 _⟩
  have FB:aj ah ae:=oZ.t4 ah;have aY:aj a ae:=Cj.aG FB;have kC:=FB.dW;have acR:=(FB.gt n3 (o:=aP acO)).trans acO;have C2:=(FB.gt cM (o:=aP acP)).trans acP;have acS:=(FB.gt aJ.next).trans acQ;have Nl:bD 397 1 (aH aJ.next+1) ae v (ra l):=asC.aO FB;have aNY:=aP C2;have aNZ:=aP acR;have aca:=aP acS;have p3:aH aJ.next+1<=aH (ae.new (.af [.int .u32 (dec c:Nat)] 397)).next:=by rw[fF,gu];have:=aca.lt;omega
  have ee:bB (ae.new (.af [.int .u32 (dec c:Nat)] 397)) (.ag ae.next 0 0 1 1 (some 1)) 1 (ra [dec c]):=nY (k:=.u32) (l:=[dec c]) (ty:=397) ef (some 1);obtain⟨eU,az,bO,iH,et⟩:=uh (bytes:=4) (Nl.aO (aa:=ae.new (.af [.int .u32 (dec c:Nat)] 397)) an) ee p3 (by simp only[dy,eG,eJ];omega) (by simp only[dy,eG,eJ];omega);have fo:=et.ok;have vC:=et.dW;have b4:aj a az:=et.aO a (by have:=uD.ge;omega);have acT:az.get n3=some (.af [.str (s.take M)] 9):=by rw[et.gt (by omega),j9,acR]
  have FC:az.get cM=some (.af [v] 289):=by rw[et.gt (by omega),j9,C2]
  have acU:az.get aJ.next=some (.loop .busy none I [(a0 17)] GO GP):=by rw[et.gt (by omega),j9,acS]
  have aBy:g6 397 1 1 [.int .u32 0] [(0,1,.int .u32 (dec c:Nat))]=some (.af [.int .u32 (dec c:Nat)] 397,fun f=>.ag f 0 0 1 1 (some 1)):=rfl;have S3:∀v:V,ec (some (.af [v] 289)) false 1 0 0 1=some v:=fun _=>rfl;have dF:eU.cells=[eU]:=iH.ag.cell;have mq:∀(h:H) (x y:V),y.cells=[y] ->fz (some (.af [x] 289)) h cM 1 0 0 1 y=some (.bk [],h.set cM (.af [y] 289)):=fun h x y e=>aGi x _ h cM 1 (a1 _) y e;have asE:∀(h:H) (x y:List Nat),fz (some (.af [.str x] 9)) h n3 1 0 0 1 (.str y)=some (.bk [],h.set n3 (.af [.str y] 9)):=fun _ _ _=>rfl;have aN0:=aP FC;have aN1:=aP acT;have aru:=aP acU;simp only[go_sem,seval,Ca,EH,C2,FC,S3,aBy,bO,mq _ _ eU dF,jV];refine x6 (by simp only[go_sem,seval,acU];rfl) ?_;simp only[go_sem,seval,bq,f1,acT,Wc,ft,asE];have hlen:(dY .u32 l++dY .u32 [dec c])=dY .u32 (l++[dec c]):=by simp[dY]
  rw[hlen]at iH;refine⟨M-9,by omega,_,_,eU,l++[dec c],rfl,an,by simp only[go_sem,seval],by simp only[go_sem,seval],by simp only[go_sem,seval],((iH.iA (by omega) _).iA (by omega) _).iA (by omega) _,Xh Z4 (by omega),by omega,?_,by simp;omega,by simp only[go_sem,seval,bq],by simp only[go_sem,seval,f1]⟩
  rw[zX,fi];have:=alN a9 ar Cz;simp only[val,eG,eJ,eH,Nat.mul_zero,ud];rw[show a9^(l.length+1)=a9^l.length*a9 from pK ..];exact this
end
section
open Form d3
def u6(h:H):Prop:=∃md ty,h.get (gQ 4)=some (.cells [.num .i64] 0 0 md ty)
theorem u6.aO{a h:H}(m:u6 a)[k:aK a](g:aj a h):u6 h:=let⟨md,ty,e⟩:=m;⟨md,ty,g.at e⟩
class vE(J:Prog):Prop where
 rS:∀(s b:List Nat) (h:H),u6 h->s.length<4294967281->J.spec 287 [.str s,.str b] h=some (.ad (rS s b),h)
variable {J:Prog}[ak J][vE J]{a:H}
theorem ajx[bP:aK a](bT:u6 a)(s b:b9)(aA:s.length<4294967281):aS J a 287 [.str s,.str b] (.ad (rS s b)):=fun h i=>
 ⟨h,(rI.is (LJ (vE.rS s b h (bT.aO i) aA) ⟨rfl,rfl⟩)).val,.refl i.g.ok⟩
theorem axv[bP:aK a](bT:u6 a)(s b:b9)(aA:s.length<4294967281):aS J a 282 [.str s,.str b] (.ad (rS s b)):=by
 refine aS.bE ak.ahx rfl fun h _ _=>?_;simp only[ahw,go_sem,seval,(ajx (J:=J) bT s b aA).cl]
theorem axw[bP:aK a](bT:u6 a)(s b:b9)(aA:s.length<4294967281):aS J a 215 [.str s,.str b] (.bool (decide (0<=rS s b))):=by
 refine aS.bE ak.agE rfl fun h _ _=>?_;simp only[agD,go_sem,seval,(axv (J:=J) bT s b aA).cl]
theorem YL:∀(s:List Nat) (c:Nat),rS s [c]=jm s c
 |[],c=>rfl
 |b::l,c=>by
  have ih:=YL l c;have aN:rS (b::l) [c]=(match Cs [c] (b::l)with
   |true=>.ofNat 0
   |false=>match rS l [c]with
    |.ofNat n=>.ofNat (n+1)
    |.negSucc _=>.negSucc 0):=rfl
  have bd:jm (b::l) c=(match Nat.beq b c with
   |true=>.ofNat 0
   |false=>match jm l c with
    |.ofNat n=>.ofNat (n+1)
    |.negSucc _=>.negSucc 0):=rfl
  have bO:Cs [c] (b::l)=(match Nat.beq c b with|true=>true|false=>false):=rfl;rw[aN,bd,bO,ih,hE,hE];by_cases h:b=c
  ·simp[h]
  ·have:¬c=b:=fun e=>h e.symm;simp[h,this]
theorem Qt:∀(s p:List Nat),(47∉s/\jm s 47=-1/\s3 p s=none)\/∃i:Nat,jm s 47=(i:Int)/\i<s.length/\s3 p s=if 47∈s.drop (i+1)then none else some (p++s.take i,s.drop (i+1))
 |[],p=>.inl ⟨by simp,rfl,rfl⟩
 |b::l,p=>by
  have e:jm (b::l) 47=(match Nat.beq b 47 with
   |true=>.ofNat 0
   |false=>match jm l 47 with
    |.ofNat n=>.ofNat (n+1)
    |.negSucc _=>.negSucc 0):=rfl
  rw[e,hE];by_cases h:b=47
  ·right;refine⟨0,by simp[h],by simp,?_⟩;rw[s3,bl h];simp
  ·have acV:s3 p (b::l)=s3 (p++[b]) l:=by rw[s3,bf h]
   rcases Qt l (p++[b])with⟨h1,ae,az⟩|⟨i,h1,ae,az⟩
   ·left;refine⟨by simp[h1];exact fun e=>h e.symm,by simp[h,ae];rfl,by rw[acV];exact az⟩
   ·right;refine⟨i+1,by simp[h,h1],by simp;exact ae,?_⟩;rw[acV,az];simp
theorem axx[bP:aK a](bT:u6 a)(s:b9)(aA:s.length<1000000):aS J a 159 [.str s,.str [47]] (match jm s 47 with|.ofNat i=>.bk [.str (s.take i),.str (s.drop (i+1)),.bool true]|.negSucc _=>.bk [.str s,.str [],.bool false]):=by
 refine aS.bE ak.agj rfl fun h _ g=>?_;have ci:=ajx (J:=J) bT s [47] (by omega);rw[YL]at ci;rcases Qt s []with⟨_,ae,_⟩|⟨i,h1,ae,_⟩
 ·rw[ae]at ci⊢;have av:¬((0:Int)<=-1):=by decide
  simp only[Vu,go_sem,seval,ci.cl,av];rfl
 ·rw[h1]at ci⊢;have av:((0:Int)<=(i:Int)):=by omega
  have b5:b8 .i64 ((i:Int)+1)=((i+1:Nat):Int):=cG (by omega)
  have s1:=PT s (n:=i) (by omega);have s2:=Ev s (n:=i+1) (by omega);have cY:uZ true (.str [47])=some (.ad 1):=rfl;simp only[Vu,go_sem,seval,ci.cl,av,b5,s1,s2,cY]
theorem asF[bP:aK a](bT:u6 a)(s:b9)(aA:s.length<1000000):aS J a 64 [.str s,.str [47]] (match jm s 47 with|.ofNat i=>.bk [.str (s.take i),.str (s.drop (i+1)),.bool true]|.negSucc _=>.bk [.str s,.str [],.bool false]):=by
 refine aS.bE ak.f64 rfl fun h _ g=>?_;have ci:=axx (J:=J) bT s aA;rcases Qt s []with⟨_,ae,_⟩|⟨i,h1,ae,_⟩
 ·rw[ae]at ci⊢;have ci:aS J a 159 [.str s,.str [47]] (.bk [.str s,.str [],.bool false]):=ci;simp only[Sm,go_sem,seval,ci.cl];rfl
 ·rw[h1]at ci⊢;have ci:aS J a 159 [.str s,.str [47]] (.bk [.str (s.take i),.str (s.drop (i+1)),.bool true]):=ci;simp only[Sm,go_sem,seval,ci.cl]
theorem gZ.Yi{h:H}{n:Nat}{w:V}(m:gZ n w h){g:P}{xs cV:List V}{ty gF:TypeId}(e:h.get g=some (.af xs ty))(ab:∀x∈xs,∀k n,x≠.int k n)(ax:cV.length=xs.length):gZ n w (h.set g (.af cV gF)):=
 let⟨v,l,HZ,q,c,z⟩:=m;⟨v,l,HZ,⟨q.ag.Yi e ab ax,q.cap,q.lim⟩,c,z⟩
omit [vE J]in
theorem Kh(s:b9)(h:H):oi J 339 [.str s] h (.fn (.func 417) [] [.ptr h.next 0 0 1]) (h.new (.af [.str s] 9)):=by
 refine(ya (ak.Kh.2 _ _) ak.Kh.1 rfl ?_).is;simp only[ahQ,go_sem,seval]
omit [vE J]in
theorem ajy[bP:aK a](s:b9)(aA:rl (body s))(au:(body s).length<=1000):cJ J a 218 [.str s] (ZW (dec (body s)) (minus s&&!decide (dec (body s)=0))):=by
 refine cJ.bE ak.agH rfl fun h ca g=>?_;have fx:=ajh (J:=J) (a:=h) s;obtain⟨H1,cR⟩:∃H:H,H=cg fx (h.new (.af [.al,.bool false] 293)) an:=⟨_,rfl⟩;have bW:aK H1:=by rw[cR];exact an
 have aB:aj h H1:=by rw[cR];exact an
 have a8:H1.get h.next=some (.af [.al,.bool false] 293):=by rw[cR,bQ];simp only[go_sem,seval]
 have dD:=aP a8;have o5:eC h.next h:=⟨a1 _⟩
 simp only[Ke,go_sem,seval,fx.cl];simp only[<-cR];simp only[go_sem,seval,(Kh _ _).cl];refine axt (a:=H1) (cM:=H1.next) (n3:=(H1.new (.af [.al] 289)).next) aA au (by simp only[go_sem,seval]) (by simp only[go_sem,seval]) an an ⟨a1 _⟩ an (by simp only[go_sem,seval]) (by simp only[go_sem,seval]) ?_;intro aa v l bR dn dd a7 hlen rt;have ch:=bR.bx;have ZX:=bR.dW;have xy:aj h aa:=aB.aG bR;have g9:=aP dn;have cO:=(bR.gt h.next).trans a8;have cs:=Be (J:=J) dd (by omega);have asG:=Qd dd.kb.cell;have S3:ec (some (.af [v] 289)) false 1 0 0 1=some v:=rfl;have ZV:gZ (dec (body s)) (.agg [kb v l]) (cg cs aa an):=gZ.strip (dd.kb.aO) dd.lim a7;have asH:=awX (J:=J) ZV (minus s);have pT:∀(h:H) (f:P) (v:V) (b:Bool) (x y:V),fz (some (.af [x,y] 293)) h f 2 0 0 2 (.agg [v,.bool b])=some (.bk [],h.set f (.af [v,.bool b] 293)):=fun _ _ _ _ _ _=>rfl;have cZ:∀(v:V) (b:Bool),ec (some (.af [v,.bool b] 293)) true 2 0 0 2=some (.agg [v,.bool b]):=fun _ _=>rfl;simp only[go_sem,seval,dn,S3,cs.cl,asG];refine asH.run fun w ae aY c3 r=>?_;obtain⟨w',rfl,d6⟩:=r;have S4:aj aa ae:=aj.aG an aY;have kC:=S4.dW;have S5:=(S4.gt h.next).trans cO;have ey:aj h ae:=xy.aG S4;have acW:=aP S5;simp only[go_sem,seval,S5,pT,cZ];refine⟨w',rfl,d6.Yi S5 ?_ rfl⟩;intro x ab k n e;simp at ab;rcases ab with rfl|rfl<;>cases e
end
abbrev BQ:=@not_true_eq_false
abbrev Qe:=@Bool.and_false
section
open Form d3
variable {J:Prog}[ak J][vE J]{a:H}
theorem Lw{s:b9}(h:d9 s=0):rl (body s)/\(body s).length<=120:=by
 unfold d9 at h;split at h
 ·rename_i aE;split at h
  ·cases h
  ·rename_i au;refine⟨fun c U=>?_,by omega⟩;unfold oY at aE;simp only[dJ]at aE;have:=List.all_eq_true.1 aE.1.2 c U;simpa[isDigit]using this
 ·cases h
theorem akT{s:b9}(h:rl s)(au:s.length<=120):dec s<a9^14:=by
 have h1:=dec_lt h;have ae:10^s.length<=10^(9*14):=vk (by omega) (by omega);rw[Nat.pow_mul]at ae;exact oW h1 ae
theorem aIV(s:List Nat):decide (0<=jm s 47)=decide (47∈s):=by
 rcases QL 47 s with⟨h1,ae⟩|⟨h1,ae⟩
 ·simp[h1,ae]
 ·simp[h1,ae]
theorem QH{s:b9}(h:minus s=false):body s=s:=by
 unfold minus at h;unfold body;split
 ·split at h
  ·cases h
  ·rename_i aq;exact absurd rfl (aq _)
 ·rfl
theorem am3(x y:Int):cm [x,y]=0↔x=0/\y=0:=by
 unfold cm cm cm;by_cases h:x=0
 ·by_cases k:y=0<;>simp[h,k]
 ·simp[h]
theorem asP[bP:aK a](bT:u6 a)(s:b9)(ok:s0 s):aS J a 95 [.str s] (.ad (jR s)):=by
 refine aS.bE ak.abM rfl fun h ca g=>?_;have fx:=asF (J:=J) bT s ok.1;rcases Qt s []with⟨_,ae,az⟩|⟨i,h1,ae,az⟩
 ·have aI:jR s=1:=by
   unfold jR cut;rw[az]
  rw[ae]at fx;have fx:aS J a 64 [.str s,.str [47]] (.bk [.str s,.str [],.bool false]):=fx;rw[aI];simp only[I3,go_sem,seval,fx.cl]
 ·rw[h1]at fx;have fx:aS J a 64 [.str s,.str [47]] (.bk [.str (s.take i),.str (s.drop (i+1)),.bool true]):=fx;have bh:(s.take i).length<1000000:=by rw[el];have:=ok.1;omega
  have aM:(s.drop (i+1)).length<1000000:=by rw[jG];have:=ok.1;omega
  rw[nR]at az;generalize s.take i=p at*;generalize s.drop (i+1)=q at*;have gO:=axw (J:=J) bT q [47] (by omega);rw[YL,aIV]at gO;by_cases hm:47∈q
  ·have aI:jR s=1:=by
    unfold jR cut;rw[az,bl hm]
   rw[aI];simp only[hm,hX]at gO;simp only[I3,go_sem,seval,fx.cl,gO.cl]
  ·rw[bf hm]at az;have aI:jR s=if cm [d9 p,d9 q]≠0 then cm [d9 p,d9 q]else if minus q=true\/dec q=0\/Nat.gcd (dec (body p)) (dec q)≠1 then 1 else 0:=by
    unfold jR cut;rw[az]
   simp only[hm,qw]at gO;have c1:=OI (J:=J) (a:=a) p bh;have c2:=OI (J:=J) (a:=a) q aM;have af:=fun b e=>aji (J:=J) (a:=a) b e;obtain⟨qN,y4⟩:∃H:H,H=cg c2 (cg c1 (cg gO (cg fx h an) an) an) an:=⟨_,rfl⟩;have eu:aK qN:=by rw[y4];exact an
   have jK:aj h qN:=by rw[y4];exact an
   have aN2:aj a qN:=g.aG jK;have be:=awY (J:=J) (a:=qN.new (.af [.ad (d9 p),.ad (d9 q)] 28)) (l:=[d9 p,d9 q]) (wH qN [d9 p,d9 q] 28) (by simp);have be:aS J (qN.new (.af [.ad (d9 p),.ad (d9 q)] 28)) 216 [.ag qN.next 0 0 2 1 (some 2)] (.ad (cm [d9 p,d9 q])):=be;by_cases he:cm [d9 p,d9 q]=0
   ·obtain⟨aN,bd⟩:=(am3 _ _).1 he;obtain⟨H2,dG⟩:=Lw aN;obtain⟨Ac,o8⟩:=Lw bd;have apU:=akT H2 dG;have H3:=akT Ac o8;rw[he]at be;obtain⟨H1,cR⟩:∃H:H,H=cg be (qN.new (.af [.ad (d9 p),.ad (d9 q)] 28)) an:=⟨_,rfl⟩;have bW:aK H1:=by rw[cR];exact an
    have aB:aj h H1:=by rw[cR];exact an
    have dx:aj a H1:=g.aG aB;have iD:=ajy (J:=J) (a:=H1) p H2 (by omega);have lf:=ajy (J:=J) (a:=H1) q Ac (by omega);simp only[I3,go_sem,seval,fx.cl,gO.cl,c1.cl,c2.cl];simp only[<-y4];simp only[go_sem,seval,be.cl,he];simp only[<-cR];refine iD.run fun b5 ae aY c3 je=>?_;obtain⟨v1,rfl,mi⟩:=je;have aMI:=aY.t4;simp only[go_sem,seval];refine lf.run fun d7 az b4 fo dX=>?_;obtain⟨v2,rfl,nv⟩:=dX;have aMJ:=b4.t4;obtain⟨_,cY,e,I6⟩:=mi.ag;cases e;obtain⟨_,k7,e,Fm⟩:=nv.ag;cases e;have tp:∀cB bU:Bool,jQ [.al,.bool false,.al,.bool false] [(0,2,.agg [v1,.bool cB]),(2,2,.agg [v2,.bool bU])]=some (.agg [v1,.bool cB,v2,.bool bU]):=fun _ _=>rfl;have pT:∀(cB bU:Bool) (h:H) (f:P),fz (some (.af [.al,.bool false,.al,.bool false] 296)) h f 4 0 0 4 (.agg [v1,.bool cB,v2,.bool bU])=some (.bk [],h.set f (.af [v1,.bool cB,v2,.bool bU] 296)):=fun _ _ _ _=>rfl;have uQ:∀f:P,hM 2 2 (.ptr f 0 0 4)=some (.ptr f 0 2 2):=fun _=>rfl;have Nn:∀f:P,hM 0 2 (.ptr f 0 0 4)=some (.ptr f 0 0 2):=fun _=>rfl;have iT:∀f:P,hM 1 1 (.ptr f 0 2 2)=some (.ptr f 0 3 1):=fun _=>rfl;have OM:∀f:P,hM 0 1 (.ptr f 0 2 2)=some (.ptr f 0 2 1):=fun _=>rfl;have ON:∀f:P,hM 0 1 (.ptr f 0 0 2)=some (.ptr f 0 0 1):=fun _=>rfl;have im:∀(cB bU:Bool),ec (some (.af [v1,.bool cB,v2,.bool bU] 296)) false 1 0 3 1=some (.bool bU):=fun _ _=>rfl;have No:∀(cB bU:Bool),ec (some (.af [v1,.bool cB,v2,.bool bU] 296)) true 1 0 2 1=some (.agg [v2]):=fun _ _=>rfl;have Np:∀(cB bU:Bool),ec (some (.af [v1,.bool cB,v2,.bool bU] 296)) true 1 0 0 1=some (.agg [v1]):=fun _ _=>rfl;rw[aI];simp only[ne_eq,he,BQ,qu];have asQ:gZ (dec (body p)) (.agg [v1]) az:=mi.aO;by_cases C4:minus q=true
    ·have hw:(if minus q=true\/dec q=0\/¬Nat.gcd (dec (body p)) (dec q)=1 then(1:Int)else 0)=1:=by rw[bl (.inl C4)]
     rw[hw,C4];by_cases aX:dec (body q)=0
     ·have hU:=OJ (J:=J) (nv.aO (aa:=az.new (.af [v1,.bool (minus p&&!decide (dec (body p)=0)),v2,.bool false] 296)));simp only[aX,hX]at hU;simp only[aX,hX,K9,Qe];simp only[go_sem,seval,tp,pT,uQ,Nn,iT,OM,ON,im,No,Np,hU.cl,(af _ _).cl,bQ];rfl
     ·simp only[aX,qw,Bool.not_false,Bool.and_true];simp only[go_sem,seval,tp,pT,uQ,Nn,iT,OM,ON,im,No,Np,(af _ _).cl,bQ];rfl
    ·have C4:minus q=false:=by simpa using C4
     rw[QH C4]at nv Ac o8 H3;rw[QH C4,C4];have hU:=OJ (J:=J) (nv.aO (aa:=az.new (.af [v1,.bool (minus p&&!decide (dec (body p)=0)),v2,.bool false] 296)));simp only[mg];by_cases aX:dec q=0
     ·simp only[aX,hX]at hU;simp only[go_sem,seval,tp,pT,uQ,Nn,iT,OM,ON,im,No,Np,hU.cl,(af _ _).cl,bQ,aX];rfl
     ·simp only[aX,qw]at hU;have rA:=axr (J:=J) (asQ.aO (aa:=cg hU (az.new (.af [v1,.bool (minus p&&!decide (dec (body p)=0)),v2,.bool false] 296)) an)) (nv.aO (aa:=cg hU (az.new (.af [v1,.bool (minus p&&!decide (dec (body p)=0)),v2,.bool false] 296)) an)) (K:=14) (by omega) apU H3;simp only[go_sem,seval,tp,pT,uQ,Nn,iT,OM,ON,im,No,Np,hU.cl,bQ];refine rA.run fun Re bo eE mE j1=>?_;have aMK:=eE.t4;have co:=awW (J:=J) j1;have aN3:aj a bo:=aj.aG (an:aj a (cg hU (az.new (.af [v1,.bool (minus p&&!decide (dec (body p)=0)),v2,.bool false] 296)) an)) eE;have aN4:aj h bo:=aj.aG (an:aj h (cg hU (az.new (.af [v1,.bool (minus p&&!decide (dec (body p)=0)),v2,.bool false] 296)) an)) eE;by_cases a6:Nat.gcd (dec (body p)) (dec q)=1
      ·simp only[a6,hX]at co;simp only[go_sem,seval,co.cl,(af _ _).cl,aX,a6,cd];rfl
      ·simp only[a6,qw]at co;simp only[go_sem,seval,co.cl,(af _ _).cl,aX,a6,cd];rfl
   ·rw[aI,bl he];simp only[I3,go_sem,seval,fx.cl,gO.cl,c1.cl,c2.cl];simp only[<-y4];simp only[go_sem,seval,be.cl,he]
end
end Go.ao
