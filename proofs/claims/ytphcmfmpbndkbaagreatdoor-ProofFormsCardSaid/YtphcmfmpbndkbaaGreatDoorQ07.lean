/- A part of the proof that ProofForms holds for every input. -/
import Derived.Test.YtphcmfmpbndkbaaGreatDoorQ06
set_option maxRecDepth 100000
set_option maxHeartbeats 4000000
set_option linter.all false
noncomputable section
namespace Go.ao
section
open Form
variable {J:Prog}[ak J]{a:H}
theorem Gd(b:Bool)(e:Int):aS J a 142 [.bool b,.ad e] (.ad (cd b e)):=by
 refine aS.bE ak.age rfl fun h _ _=>?_;cases b<;>simp only[agd,go_sem,seval,cd]
theorem ajf(n:Int):aS J a 335 [.ad n] (.bool (tM n)):=by
 refine aS.bE ak.ahK rfl fun h _ _=>?_;by_cases h1:n=17<;>simp[ahJ,go_sem,seval,h1,tM]
theorem awI(s:b9):aS J a 336 [.str s] (.bool (isNum s)):=by
 refine aS.bE ak.ahM rfl fun h _ _=>?_;by_cases h1:s=[73,110,116]<;>simp[ahL,go_sem,seval,h1,isNum,zk,Bq]<;>rfl
theorem wH(H:H)(l:List Int)(ty:TypeId):bB (H.new (.af (l.map fun n=>.ad n) ty)) (.ag H.next 0 0 l.length 1 (some l.length)) 1 (dH l):=by
 refine⟨fun e he=>?_,.inr ⟨H.next,0,0,some l.length,by rw[c7],_,rm ef (a1 _) (a1 _),?_,?_⟩⟩
 ·unfold dH at he;obtain⟨n,_,rfl⟩:=List.mem_map.1 he;rfl
 ·have:(dH l).flatten=l.map fun n=>V.ad n:=by
   unfold dH;induction l with
   |nil=>rfl
   |cons x l ih=>simp only[nQ,El,ih];rfl
  rw[this];simp
 ·have:(dH l).flatten=l.map fun n=>V.ad n:=by
   unfold dH;induction l with
   |nil=>rfl
   |cons x l ih=>simp only[nQ,El,ih];rfl
  rw[this,iL];exact kM (by simp)
theorem GR{g:FuncId}(dw:J.funcs g=some Vt)(aA:∀args h,J.spec g args h=none){v:V}{l:List Int}[aK a](s:bB a v 1 (dH l))(au:l.length<1000000000):aS J a g [v] (.ad (cm l)):=by
 refine aS.mk (fun h=>aA _ h) dw rfl fun h _ g=>?_;simp only[Vt,go_sem,seval,s.a2,c7];refine dK l.length (fun i t=>∃I,t=⟨I,[],h⟩/\cm l=cm (l.drop i)/\I.gt 5=v/\I.gt 6=.ad (l.length:Nat)/\I.gt 7=.ad (i:Nat)) ?_ ?_ (dk _) ⟨_,rfl,rfl,?_,?_,?_⟩
 ·rintro i t ai ⟨I,rfl,e,eY,eI,gl⟩;obtain⟨x,ab⟩:=bI ai;have a3:=en ab;have ck:i<(dH l).length:=by rw[c7];exact ai
  by_cases av:x=0
  ·simp only[go_sem,seval,eY,eI,gl,ai,s.addr ck,s.bM (gn ab),av,cG (show i<9223372036854775807 by omega)];refine⟨_,rfl,?_,?_,?_,?_⟩
   ·rw[e,a3,av];rfl
   all_goals simp only[go_sem,seval,eY,eI,gl]
  ·simp[go_sem,seval,eY,eI,gl,ai,s.addr ck,s.bM (gn ab),av,e,a3,cm]
 ·rintro t ⟨I,rfl,e,eY,eI,gl⟩;simp only[go_sem,seval,eY,eI,gl,nW,e,fp,cm]
 all_goals simp only[go_sem,seval]
theorem LK(H:H)[mZ:aK H](b7 bG:Int):aS J (H.new (.af [.ad b7,.ad bG] 28)) 141 [.ag H.next 0 0 2 1 (some 2)] (.ad (cm [b7,bG])):=
 GR ak.Dy.1 ak.Dy.2 (l:=[b7,bG]) (wH H [b7,bG] 28) (by simp)
theorem Qs(H:H)[mZ:aK H](b7 bG:Int)(d:Option S)(os:List bH)(I:Fr)(ds:dB)(k:c4):oL J (.fn (.func 141) [] []) [.ag H.next 0 0 2 1 (some 2)] (H.new (.af [.ad b7,.ad bG] 28)) d os I ds k=fu J os (cX d (.ad (cm [b7,bG])) I) (cg (LK (J:=J) H b7 bG) (H.new (.af [.ad b7,.ad bG] 28)) an) ds k:=(LK H b7 bG).cl _ _ _
theorem Hm(H:H)[mZ:aK H](b7 bG:Int)(d:Option S)(b:List Nat)(os:List (bH×List Nat))(n:Nat)(aD:List Rec)(I:Fr)(ds:dB)(k:c4):tL J (.fn (.func 141) [] []) [.ag H.next 0 0 2 1 (some 2)] (H.new (.af [.ad b7,.ad bG] 28)) d b os n aD I ds k=(kK (cg (LK (J:=J) H b7 bG) (H.new (.af [.ad b7,.ad bG] 28)) an) b aD=true/\wd J os (n+1) aD (cX d (.ad (cm [b7,bG])) I) (cg (LK (J:=J) H b7 bG) (H.new (.af [.ad b7,.ad bG] 28)) an) ds k):=(LK H b7 bG).bL _ _ _ _ _ _
theorem LL(H:H)[mZ:aK H](b7 bG ct:Int):aS J (H.new (.af [.ad b7,.ad bG,.ad ct] 28)) 141 [.ag H.next 0 0 3 1 (some 3)] (.ad (cm [b7,bG,ct])):=
 GR ak.Dy.1 ak.Dy.2 (l:=[b7,bG,ct]) (wH H [b7,bG,ct] 28) (by simp)
theorem aIN(H:H)[mZ:aK H](b7 bG ct:Int)(d:Option S)(os:List bH)(I:Fr)(ds:dB)(k:c4):oL J (.fn (.func 141) [] []) [.ag H.next 0 0 3 1 (some 3)] (H.new (.af [.ad b7,.ad bG,.ad ct] 28)) d os I ds k=fu J os (cX d (.ad (cm [b7,bG,ct])) I) (cg (LL (J:=J) H b7 bG ct) (H.new (.af [.ad b7,.ad bG,.ad ct] 28)) an) ds k:=(LL H b7 bG ct).cl _ _ _
theorem aIO(H:H)[mZ:aK H](b7 bG ct:Int)(d:Option S)(b:List Nat)(os:List (bH×List Nat))(n:Nat)(aD:List Rec)(I:Fr)(ds:dB)(k:c4):tL J (.fn (.func 141) [] []) [.ag H.next 0 0 3 1 (some 3)] (H.new (.af [.ad b7,.ad bG,.ad ct] 28)) d b os n aD I ds k=(kK (cg (LL (J:=J) H b7 bG ct) (H.new (.af [.ad b7,.ad bG,.ad ct] 28)) an) b aD=true/\wd J os (n+1) aD (cX d (.ad (cm [b7,bG,ct])) I) (cg (LL (J:=J) H b7 bG ct) (H.new (.af [.ad b7,.ad bG,.ad ct] 28)) an) ds k):=(LL H b7 bG ct).bL _ _ _ _ _ _
theorem LM(H:H)[mZ:aK H](b7 bG ct dR:Int):aS J (H.new (.af [.ad b7,.ad bG,.ad ct,.ad dR] 28)) 141 [.ag H.next 0 0 4 1 (some 4)] (.ad (cm [b7,bG,ct,dR])):=
 GR ak.Dy.1 ak.Dy.2 (l:=[b7,bG,ct,dR]) (wH H [b7,bG,ct,dR] 28) (by simp)
theorem Hn(H:H)[mZ:aK H](b7 bG ct dR:Int)(d:Option S)(os:List bH)(I:Fr)(ds:dB)(k:c4):oL J (.fn (.func 141) [] []) [.ag H.next 0 0 4 1 (some 4)] (H.new (.af [.ad b7,.ad bG,.ad ct,.ad dR] 28)) d os I ds k=fu J os (cX d (.ad (cm [b7,bG,ct,dR])) I) (cg (LM (J:=J) H b7 bG ct dR) (H.new (.af [.ad b7,.ad bG,.ad ct,.ad dR] 28)) an) ds k:=(LM H b7 bG ct dR).cl _ _ _
theorem Ho(H:H)[mZ:aK H](b7 bG ct dR:Int)(d:Option S)(b:List Nat)(os:List (bH×List Nat))(n:Nat)(aD:List Rec)(I:Fr)(ds:dB)(k:c4):tL J (.fn (.func 141) [] []) [.ag H.next 0 0 4 1 (some 4)] (H.new (.af [.ad b7,.ad bG,.ad ct,.ad dR] 28)) d b os n aD I ds k=(kK (cg (LM (J:=J) H b7 bG ct dR) (H.new (.af [.ad b7,.ad bG,.ad ct,.ad dR] 28)) an) b aD=true/\wd J os (n+1) aD (cX d (.ad (cm [b7,bG,ct,dR])) I) (cg (LM (J:=J) H b7 bG ct dR) (H.new (.af [.ad b7,.ad bG,.ad ct,.ad dR] 28)) an) ds k):=(LM H b7 bG ct dR).bL _ _ _ _ _ _
theorem awJ{b:P}{eT:b9}(x:b9×b9)[bP:aK a](ah:a.get b=some (.af [.str eT] 9)):gp J a (.fn (.func 382) [] [.ptr b 0 0 1]) [.agg [.str x.1,.str x.2]] (.bool (decide (x.1=eT))):=by
 refine gp.bE ak.aih rfl fun h ca g=>?_;have dr:=g.g.wi bP.ok ah;have:fQ b h:=⟨ca.ok.lt dr⟩;simp only[aif,go_sem,seval,dr]
theorem alM{g:FuncId}(dw:J.funcs g=some VP)(aA:∀args h,J.spec g args h=none){v f:V}{aV:List (List V)}[aK a](s:bB a v 2 aV)(au:aV.length<1000000000)(p:List V->Bool)(aE:∀(i:Nat) (x:List V),aV[i]?=some x->gp J a f [.agg x] (.bool (p x))):aS J a g [v,f] (.ad (sW p aV 0)):=by
 refine aS.mk (fun h=>aA _ h) dw rfl fun h _ g=>?_;simp only[VP,go_sem,seval,s.a2];refine dK aV.length (fun i t=>∃I h1,t=⟨I,[],h1⟩/\aj h h1/\sW p aV 0=sW p (aV.drop i) i/\I.gt 0=v/\I.gt 1=f/\I.gt 7=.ad (aV.length:Nat)/\I.gt 8=.ad (i:Nat)) ?_ ?_ (dk _) ⟨_,_,rfl,an,rfl,?_,?_,?_,?_⟩
 ·rintro i t ai ⟨I,h1,rfl,aB,e,bA,aN,gl,gL⟩;obtain⟨x,ab⟩:=bI ai;have a3:=en ab;have:=aB.bx;have Cb:=g.aG aB;have c:=aE i x ab;cases bh: p x with
  |true=>simp[go_sem,seval,bA,aN,gl,gL,ai,s.addr ai,s.bM ab,c.cl,bh,e,a3,sW]
  |false=>
   simp only[go_sem,seval,bA,aN,gl,gL,ai,s.addr ai,s.bM ab,c.cl,bh,cG (show i<9223372036854775807 by omega)];refine⟨_,_,rfl,an,?_,?_,?_,?_,?_⟩
   ·rw[e,a3];simp only[sW,bh];rfl
   all_goals simp only[go_sem,seval,bA,aN,gl,gL]
 ·rintro t ⟨I,h1,rfl,aB,e,bA,aN,gl,gL⟩;have:=aB.bx;simp only[go_sem,seval,bA,aN,gl,gL,nW,e,fp,sW]
 all_goals simp only[go_sem,seval]
theorem awK{v f:V}{aV:List (List V)}[aK a](s:bB a v 2 aV)(au:aV.length<1000000000)(p:List V->Bool)(aE:∀(i:Nat) (x:List V),aV[i]?=some x->gp J a f [.agg x] (.bool (p x))):aS J a 276 [v,f] (.bool (aV.any p)):=by
 refine aS.bE ak.ahv rfl fun h _ _=>?_;simp only[ahu,go_sem,seval,(alM ak.VQ.1 ak.VQ.2 s au p aE).cl,YH]
def XV(eT:b9)(e:List V):Bool:=match e with|[.str n,_]=>decide (n=eT)|_=>false
theorem aou(eT:b9):∀l:List (b9×b9),(hi l).any (XV eT)=decide (eT∈l.map Prod.fst)
 |[]=>by simp[hi]
 |b::l=>by
  have ih:=aou eT l;have e:hi (b::l)=[.str b.1,.str b.2]::hi l:=rfl;rw[e,yc,ih];have:XV eT [.str b.1,.str b.2]=decide (b.1=eT):=rfl;rw[this,nQ];by_cases h:b.1=eT
  ·simp[h]
  ·have:¬eT=b.1:=fun e=>h e.symm;simp[h,this]
theorem awL{v:V}{l:List (b9×b9)}[bP:aK a](s:bB a v 2 (hi l))(au:l.length<1000000000)(eT:b9):aS J a 288 [v,.str eT] (.bool (decide (eT∈l.map Prod.fst))):=by
 refine aS.bE ak.ahA rfl fun h _ g=>?_;have c:=awK (J:=J) (a:=h.new (.af [.str eT] 9)) (s.aO bP.ok an) (by rw[jd];exact au) (XV eT) (fun i x ab=>by
  obtain⟨b,ah⟩:=bI (l:=l) (i:=i) (by
   rcases dz i l.length with q|q
   ·exact q
   ·rw[ei (by rw[jd];exact q)]at ab;cases ab)
  rw[nX ah]at ab;cases ab;exact awJ b ef)
 rw[aou]at c;simp only[ahz,go_sem,seval,c.cl]
theorem aD7{g:FuncId}(dw:J.funcs g=some VR){a:H}[aK a]{b:P}{ty:TypeId}{v:V}{aV:List (List V)}(s:bB a v 1 aV)(au:aV.length<1000000000)(Y:Nat->V)(jX:∀j,j<aV.length->aV[j]?=some [Y j]):
  Iter J g [] [.ptr b 0 0 1] (fun h=>aj a h/\h.get b=some (.af [v] ty)) aV.length (fun i=>[.ad ((aV.length-1-i:Nat):Int),Y (aV.length-1-i)]):=by
 intro l bn D h sq mD abW abX step av;refine PJ dw rfl ?_;have dr:=(sq 0 h av).1.2;simp only[VR,go_sem,seval,dr,s.a2];refine dK aV.length (fun i t=>∃I h1,t=⟨I,[],h1⟩/\bn i h1/\I.gt 0=.jk l/\I.gt 1=.ptr b 0 0 1/\I.gt 3=.ad (((aV.length-i:Nat):Int) -1)) ?_ ?_ (dk _) ⟨_,_,rfl,av,?_,?_,?_⟩
 ·rintro i t ai ⟨I,h1,rfl,oB,bA,aN,bO⟩;obtain⟨⟨Cb,dr⟩,bW⟩:=sq i h1 oB;have:aK h1:=⟨bW⟩;have em:(((aV.length-i:Nat):Int) -1)=((aV.length-1-i:Nat):Int):=by omega
  have hm:aV.length-1-i<aV.length:=by omega
  have aP6:¬((aV.length-1-i:Nat):Int)<0:=by omega
  simp only[go_sem,seval,bA,aN,bO,em,dr,Int.natCast_nonneg,s.addr hm,s.bM (jX _ hm)];refine step i h1 ai oB _ _ _ _ _ ?_;rintro v aa (⟨rfl,I5⟩|⟨rfl,gC⟩)
  ·have oF:b8 .i64 (((aV.length-1-i:Nat):Int) -1)=((aV.length-(i+1):Nat):Int) -1:=by rw[gz (by omega) (by omega)];omega
   simp only[go_sem,seval,bA,aN,bO,em,oF];refine⟨_,_,rfl,I5,?_,?_,?_⟩
   all_goals simp only[go_sem,seval,bA,aN]
  ·simp only[go_sem,seval];exact .inr gC
 ·rintro t ⟨I,h1,rfl,oB,bA,aN,bO⟩;have:decide ((0:Int)<=((aV.length-aV.length:Nat):Int) -1)=false:=by simp
  simp only[go_sem,seval,bO,this];exact .inl oB
 ·simp only[go_sem,seval]
 ·simp only[go_sem,seval]
 ·simp only[go_sem,seval];rw[gz (by omega) (by omega)];simp
end
abbrev Eo:=@List.drop_of_length_le
section
open Form
variable {J:Prog}[ak J]{a:H}
theorem V3[bP:aK a]{v:V}{t:List bb}{S W:Nat->V}(aU:fc a v t S W){k:Nat}(hk:k<t.length)(ok:∀j,j<=k->pI t j):aS J a 212 [v,.ad (k:Nat)] (.ad (lN t k:Nat)):=by
 refine aS.bE ak.agz rfl fun h _ g=>?_;simp only[agy,go_sem,seval];refine lU (fun m s=>∃I,s=⟨I,[],h⟩/\m<=k/\lN t m=lN t k/\I.gt 0=v/\I.gt 1=.ad (m:Nat)) ?_ ⟨_,rfl,a1 _,rfl,?_,?_⟩
 ·rintro m s ⟨I,rfl,hm,em,bA,aN⟩;obtain⟨n,aq⟩:=bI (l:=t) (i:=m) (by omega);have ai:=aU.lt (i:=m) (by omega);have r:=aU.row m n aq;cases aM:n.kids with
  |nil=>
   have e:=aKb aq aM;have au:uZ false (W m)=some (.ad (0:Nat)):=by have:=r.kids.a2;rw[aM]at this;exact this
   have aq3:decide (((0:Nat):Int)>0)=false:=by simp
   simp only[go_sem,seval,bA,aN,aU.ag.addr ai,aU.ag.er ai,aU.ag.hn (aU.at aq),au,aq3,Int.natCast_zero,Int.lt_irrefl,<-em,e]
  |cons x l=>
   have e:=aIP (ok m hm) aq aM;have ab:=(ok m hm).hJ aq x (by rw[aM];simp);obtain⟨y,rfl⟩:∃y:Nat,x=y:=⟨x.toNat,by omega⟩;have au:uZ false (W m)=some (.ad ((l.length+1:Nat):Int)):=by have:=r.kids.a2;rw[aM]at this;rw[this,c7];rfl
   have pq:(0:Int)<((l.length+1:Nat):Int):=by omega
   have av:0<(dH n.kids).length:=by rw[aM,c7];simp
   have bN:=r.kids.addr av;have ax:=r.kids.bM (gn (l:=n.kids) (i:=0) (x:=(y:Int)) (by rw[aM];rfl));simp only[go_sem,seval,bA,aN,aU.ag.addr ai,aU.ag.er ai,aU.ag.hn (aU.at aq),au,pq,Int.natCast_zero]at bN⊢;simp only[go_sem,seval,bN,ax];refine⟨y,by omega,_,rfl,by omega,?_,?_,?_⟩
   ·rw[<-em,e];rfl
   all_goals simp only[go_sem,seval,bA]
 all_goals simp only[go_sem,seval]
theorem Kg(w:V)(hw:w.cells=[w])(h:H):oi J 334 [w] h (.fn (.func 415) [] [.ptr h.next 0 0 1]) (h.new (.af [w] 58)):=by
 refine(ya (ak.Kg.2 _ _) ak.Kg.1 rfl ?_).is;simp only[ahI,go_sem,seval,PS 58 w hw]
theorem aD8{α:Type}{l:List α}{i:Nat}{x:α}(ai:i<l.length)(h:l[l.length-1-i]?=some x):l.reverse.drop i=x::l.reverse.drop (i+1):=by
 refine en ?_;rw[List.getElem?_reverse ai];exact h
theorem awM[bP:aK a]{v:V}{t:List bb}{S W:Nat->V}(aU:fc a v t S W){i:Nat}{n:bb}(aq:t[i]?=some n)(ai:i<1000000)(ok:∀j,j<i->pI t j){aJ:H}[aK aJ][eZ:aj a aJ]{bU b0 cM HR:P}{I:Fr}{k:c4}
  (cq:I.gt 2=.ptr bU 0 0 1) (bZ:I.gt 4=.ptr b0 0 0 1) (bu:I.gt 5=.ptr cM 0 0 1) (h9:I.gt 13=.fn (.func 415) [] [.ptr HR 0 0 1])
  (_:dp bU cM) (_:dp b0 cM) (_:dp cM b0) (_:dp HR cM) (_:eC cM a) (_:eC b0 a)
  (bd:aJ.get bU=some (.af [v] 52)) (fY:aJ.get b0=some (.af [.bool false] 4)) (eY:aJ.get cM=some (.af [.ad (i:Nat)] 3)) (w6:aJ.get HR=some (.af [W i] 58))
  (tt:∀aa,aj a aa->aa.get b0=some (.af [.bool false] 4) ->ordered (dN t []) i n=true->k.run J (.norm ⟨I,[],aa⟩))
  (ht:∀aa,aj a aa->aa.get b0=some (.af [.bool false] 4) ->ordered (dN t []) i n=false->k.run J (.ret ⟨I,[],aa⟩)):dA J alp ⟨I,[],aJ⟩ k:=by
 have r:=aU.row i n aq;have hit:i<t.length:=by
  rcases dz i t.length with q|q
  ·exact q
  ·rw[ei q]at aq;cases aq
 have dD:=aP bd;have hT:=aP fY;have g9:=aP eY;have aNb:=aP w6;have Fl:=r.ki;unfold alp;refine Le (β:=Unit) (aD7 ak.ail.1 (ty:=58) (b:=HR) r.kids (by rw[c7];omega) (fun j=>.ad ((n.kids[j]?).getD 0)) (fun j a5=>?_)) (by simp only[go_sem,seval,h9]) a
  (fun _ (x:Nat)=>[(bU,.af [v] 52),(cM,.af [.ad (x:Nat)] 3),(b0,.af [.bool false] 4),(HR,.af [W i] 58),(aJ.next,.loop .ready none I [(a0 14),(a0 15)] PK PL)])
  (fun m x=>x<=i/\ordered (dN t []) i n=oj (dN t []) x (n.kids.reverse.drop m))
  (fun _=>[(b0,.af [.bool false] 4),(aJ.next,.loop .done (some .ret) I [(a0 14),(a0 15)] PK PL)]) (fun _=>ordered (dN t []) i n=false) ?_ ?_ ?_ ?_ ?_
 ·rw[c7]at a5;obtain⟨x,ab⟩:=bI a5;rw[gn ab,ab];rfl
 ·intro m x aa bR _ G _;exact⟨bR,G.2.2.2.1⟩
 ·exact⟨an,i,⟨by simp only[j9,bd],by simp only[j9,eY],by simp only[j9,fY],by simp only[j9,w6],ef,trivial⟩,a1 _,by rw[iL];rfl⟩
 ·intro m x aa hm bR ch G ⟨ab,a6⟩ d os aQ gG yV U a3;rw[c7]at hm;obtain⟨a8,dn,dc,Rb,ea,_⟩:=G;have cO:=aP a8;have fw:=aP dc;have uy:=aP dn;have ZU:=aP Rb;have pl:=aP ea;have a5:n.kids.length-1-m<n.kids.length:=by omega
  obtain⟨y,ax⟩:=bI a5;have awN:=aD8 (l:=n.kids) hm ax;rw[awN]at a6;unfold oj at a6;rw[c7,ax];refine Ec (aa:=aa) ea rfl (by simp only[PK,go_sem,seval,jV];rfl) ea ?_;have c:=V3 (J:=J) aU (k:=x-1);by_cases sF:y<0
  ·rw[bl (.inl sF)]at a6;simp only[XK,Lf,go_sem,seval,hC,cq,bZ,bu,dc,sF,jV];refine ug (by simp only[go_sem,seval];rfl) ?_;exact a3 _ an ⟨(),⟨by simp only[go_sem,seval],by simp only[go_sem,seval],trivial⟩,a6⟩
  ·by_cases nD:y=(x:Int) -1
   ·have jl:1<=x:=by omega
    have Su:y=((x-1:Nat):Int):=by omega
    rw[bf (by omega)]at a6;have c:=c (by omega) (fun j a5=>ok j (by omega));have hw:b8 .i64 ((x:Int) -1)=((x-1:Nat):Int):=pM jl (by omega)
    have Fb:¬(((x-1:Nat):Int)<0):=by omega
    simp only[XK,Lf,go_sem,seval,hC,cq,bZ,bu,dc,a8,dn,Fb,Su,hw,c.cl,jV];refine x6 (by simp only[go_sem,seval];rfl) ?_;refine U _ an ⟨lN t (x-1),⟨by simp only[go_sem,seval,a8],by simp only[go_sem,seval],by simp only[go_sem,seval,dc],by simp only[go_sem,seval,Rb],by simp only[go_sem,seval],trivial⟩,?_,?_⟩
    ·have:=En t (x-1);omega
    ·rw[a6,Su];rfl
   ·rw[bl (.inr nD)]at a6;have hw:b8 .i64 ((x:Int) -1)=(x:Int) -1:=gz (by omega) (by omega)
    simp only[XK,Lf,go_sem,seval,hC,cq,bZ,bu,dc,dn,sF,nD,hw,jV];refine ug (by simp only[go_sem,seval];rfl) ?_;exact a3 _ an ⟨(),⟨by simp only[go_sem,seval],by simp only[go_sem,seval],trivial⟩,a6⟩
 ·intro x aa bR _ ⟨a8,dn,dc,Rb,ea,_⟩ ⟨ab,a6⟩;have pl:=aP ea;rw[EB ea];refine⟨by simp,tt _ an ?_ ?_⟩
  ·simp only[go_sem,seval,dc]
  ·rw[a6,c7,Eo (by simp)];rfl
 ·intro _ aa bR _ ⟨dc,ea,_⟩ a6;have pl:=aP ea;rw[YZ ea];refine⟨by simp,ht _ an ?_ a6⟩;simp only[go_sem,seval,dc]
theorem awO[bP:aK a]{v:V}{t:List bb}{S W:Nat->V}(aU:fc a v t S W){i:Nat}{n:bb}(aq:t[i]?=some n)(ai:i<1000000)(ok:∀j,j<i->pI t j):aS J a 207 [v,l2 n (S i) (W i) i] (.bool (ordered (dN t []) i n)):=by
 refine aS.bE ak.agr rfl fun h ca g=>?_;have r:=aU.row i n aq;simp only[Oi,l2,go_sem,seval,aU.ag.box,(Kg _ r.kids.cell _).cl];refine awM (aU.aO bP.ok g) aq ai ok (by simp only[go_sem,seval];rfl) (by simp only[go_sem,seval];rfl) (by simp only[go_sem,seval];rfl) (by simp only[go_sem,seval];rfl) (by exact an) (by exact an) (by exact an) (by exact an) (by exact an) (by exact an) (by simp only[go_sem,seval]) (by simp only[go_sem,seval]) (by simp only[go_sem,seval]) (by simp only[go_sem,seval]) ?_ ?_
 ·intro aa bR dc a6;have hT:=aP (k:=bR.bx) dc;have:=bR.bx;simp only[go_sem,seval,dc,a6]
 ·intro aa bR dc a6;have:=bR.bx;simp only[go_sem,seval,dc,a6]
theorem amf{t:List bb}{k:Nat}{n:bb}(h:t[k]?=some n):q8 t (k:Int)=n.op:=by
 unfold q8;rw[show((k:Int).toNat)=k by omega,h];rfl
theorem awP[bP:aK a]{v:V}{t:List bb}{S W:Nat->V}(aU:fc a v t S W){i:Nat}{n:bb}(aq:t[i]?=some n)(ai:i<1000000)(ok: pI t i):aS J a 208 [v,l2 n (S i) (W i) i] (.ad (cd (!s9 t n) 11)):=by
 refine aS.bE ak.agt rfl fun h ca g=>?_;have r:=aU.row i n aq;have hit:i<t.length:=by
  rcases dz i t.length with q|q
  ·exact q
  ·rw[ei q]at aq;cases aq
 simp only[ags,l2,go_sem,seval,r.kids.a2,c7];refine dK n.kids.length (fun m s=>∃I h1,s=⟨I,[],h1⟩/\aj (h.new (.af [.ad n.op,.str n.sort,.str n.name,S i,W i,.ad (i:Nat)] 278)) h1/\s9 t n=BW t (tM n.op) (n.kids.drop m)/\I.gt 0=v/\I.gt 3=.ptr h.next 0 0 6/\I.gt 10=W i/\I.gt 11=.ad (n.kids.length:Nat)/\I.gt 12=.ad (m:Nat)) ?_ ?_ (dk _) ⟨_,_,rfl,an,rfl,?_,?_,?_,?_,?_⟩
 ·rintro m s hm ⟨I,h1,rfl,aB,a6,bA,bO,xv,vV,mn⟩;have bW:=aB.bx;have dr:=aB.at ef;have cL:=aP dr;have aY:aj h h1:=aj.aG an aB;have b4:=g.aG aY;obtain⟨x,ab⟩:=bI hm;have a3:=en ab;have hk:=ok.hJ aq x (c0 ab);obtain⟨y,rfl⟩:∃y:Nat,x=y:=⟨x.toNat,by omega⟩;obtain⟨c,U⟩:=bI (l:=t) (i:=y) (by omega);have lk:m<(dH n.kids).length:=by rw[c7];exact hm
  have nO:=aK0 hm;have hw:b8 .i64 ((n.kids.length:Int) -1)=((n.kids.length-1:Nat):Int):=pM (by omega) (by have:=r.ki;omega)
  rw[a3]at a6;unfold BW at a6;rw[amf U]at a6;have Sv:=r.ki;have q:=ajf (J:=J) (a:=h) n.op;cases aM:tM n.op<;>cases abY:decide (c.op=19)<;>cases CO:(n.kids.drop (m+1)).isEmpty<;>rw[aM]at q a6<;>rw[abY,CO]at a6<;>rw[CO]at nO
  all_goals simp only[go_sem,seval,bA,bO,xv,vV,mn,hm,r.kids.addr lk,r.kids.bM (gn ab),aU.ag.addr (aU.lt (show y<t.length by omega)),aU.ag.er (aU.lt (show y<t.length by omega)),aU.ag.hn (aU.at U),abY,dr,q.cl,r.kids.a2,c7,hw,nO,cG (show m<9223372036854775807 by omega)]
  all_goals first
   |(refine⟨_,_,rfl,an,?_,?_,?_,?_,?_,?_⟩<;>first|(simp only[go_sem,seval,bA,bO,xv,vV];done)|(rw[a6];simp[aM]))
   |(rw[a6];simp[cd])
 ·rintro s ⟨I,h1,rfl,aB,a6,bA,bO,xv,vV,mn⟩;have bW:=aB.bx;have aY:aj h h1:=aj.aG an aB;have:s9 t n=true:=by rw[a6,fp];rfl
  simp only[go_sem,seval,vV,mn,nW,this,cd]
 all_goals simp only[go_sem,seval]
theorem ajg(s:b9):aS J a 376 [.str s,.str [45]] (.bool (minus s)):=by
 refine aS.bE ak.aic rfl fun h _ _=>?_;cases s with
 |nil=>simp[Oq,go_sem,seval,minus]
 |cons x r=>
  have h1:(1:Int)<=((r.length+1:Nat):Int):=by omega
  have ae:=PT (x::r) (n:=1) (by simp);by_cases ab:x=45
  ·subst ab;simp only[Oq,go_sem,seval,minus,h1];simp only[go_sem,seval]at ae;simp only[go_sem,seval,ae]
  ·have:minus (x::r)=false:=by
    unfold minus;split
    ·rename_i e;cases e;exact absurd rfl ab
    ·rfl
   simp only[Oq,go_sem,seval,this,h1];simp only[go_sem,seval]at ae;simp[go_sem,seval,ae,ab]
theorem awQ(s:b9):aS J a 283 [.str s,.str [45]] (.bk [.str (body s),.bool (minus s)]):=by
 refine aS.bE ak.ahy rfl fun h _ _=>?_;cases hm:minus s with
 |false=>
  have ah:body s=s:=by
   unfold body;split
   ·simp[minus]at hm
   ·rfl
  have c:=ajg (J:=J) (a:=h) s;rw[hm]at c;simp only[VK,go_sem,seval,c.cl,ah]
 |true=>
  have c:=ajg (J:=J) (a:=h) s;rw[hm]at c;obtain⟨r,rfl⟩:∃r,s=45::r:=by
   unfold minus at hm;split at hm
   ·exact⟨_,rfl⟩
   ·cases hm
  have ae:=Ev (45::r) (n:=1) (by simp);simp only[VK,go_sem,seval,c.cl,body];simp only[go_sem,seval]at ae;simp only[go_sem,seval,ae]
theorem ajh(s:b9):aS J a 153 [.str s,.str [45]] (.bk [.str (body s),.bool (minus s)]):=by
 refine aS.bE ak.agi rfl fun h _ _=>?_;simp only[agh,go_sem,seval,(awQ (J:=J) (a:=h) s).cl]
theorem aji(b:Bool)(e:Int):aS J a 219 [.bool b,.ad e] (.ad (cd b e)):=by
 refine aS.bE ak.Vy rfl fun h _ _=>?_;cases b<;>simp only[agI,go_sem,seval,cd]
theorem awR(s:b9):aS J a 338 [.str s] (.bool (!s.isEmpty&&s.all isDigit)):=by
 refine aS.bE ak.ahP rfl fun h _ _=>?_;simp only[ahO,go_sem,seval];refine lU (fun m t=>∃I h1 r pos,t=⟨I,[],h1⟩/\aj h h1/\m=r.length/\s.all isDigit=r.all isDigit/\h1.get h.next=some (.mz r pos)/\I.gt 0=.str s/\I.gt 6=.ptr h.next 0 0 0) ?_ ⟨_,_,s,0,rfl,an,rfl,rfl,ef,?_,?_⟩
 ·rintro m t ⟨I,h1,r,pos,rfl,aB,rfl,a3,dr,bA,eI⟩;have bW:=aB.bx;have cL:=aP dr;cases r with
  |nil=>
   cases s with
   |nil=>simp[go_sem,seval,bA,eI,dr]
   |cons x q=>
    have a3:(x::q).all isDigit=true:=a3;simp[go_sem,seval,bA,eI,dr,a3]
  |cons b r=>
   by_cases ah:b<128
   ·by_cases vW:(b:Int)<48
    ·have aq:isDigit b=false:=by unfold isDigit;simp;omega
     have a3:s.all isDigit=false:=by rw[a3];simp[aq]
     simp[go_sem,seval,bA,eI,dr,EC ah,vW,a3]
    ·by_cases MW:(57:Int)<b
     ·have aq:isDigit b=false:=by unfold isDigit;simp;omega
      have a3:s.all isDigit=false:=by rw[a3];simp[aq]
      simp[go_sem,seval,bA,eI,dr,EC ah,vW,MW,a3]
     ·have aq:isDigit b=true:=by unfold isDigit;simp;omega
      simp only[go_sem,seval,bA,eI,dr,EC ah,vW,MW];refine⟨r.length,by simp,_,_,r,_,rfl,an,rfl,?_,jt,?_,?_⟩
      ·rw[a3];simp[aq]
      all_goals simp only[go_sem,seval,bA,eI]
   ·obtain⟨d1,d2⟩:=aot (show 128<=b by omega) r;have vW:¬(((lS (b::r)).1:Nat):Int)<48:=by omega
    have MW:(57:Int)<(((lS (b::r)).1:Nat):Int):=by omega
    have aq:isDigit b=false:=by unfold isDigit;simp;omega
    have a3:s.all isDigit=false:=by rw[a3];simp[aq]
    simp[go_sem,seval,bA,eI,dr,vW,MW,a3]
 all_goals simp only[go_sem,seval]
end
abbrev mg:=@Bool.false_and
section
open Form
variable {J:Prog}[ak J]{a:H}
theorem OI(s:b9)(aA:s.length<1000000):aS J a 217 [.str s] (.ad (d9 s)):=by
 refine aS.bE ak.Vx rfl fun h _ _=>?_;have c1:=ajh (J:=J) (a:=h) s;have c2:=awR (J:=J) (a:=h) (body s);have dF:=fun b e=>aji (J:=J) (a:=h) b e;cases ah:body s with
 |nil=>
  have he:d9 s=1:=by unfold d9 oY;rw[ah];rfl
  rw[ah]at c1 c2;simp only[List.isEmpty_nil,K9,mg]at c2;simp only[DD,go_sem,seval,c1.cl,c2.cl,he]
 |cons x r=>
  rw[ah]at c1 c2;simp only[List.isEmpty_cons,Bool.not_false,ju]at c2;cases a3:(x::r).all isDigit with
  |false=>
   have he:d9 s=1:=by unfold d9 oY;rw[ah,a3];simp
   rw[a3]at c2;simp only[DD,go_sem,seval,c1.cl,c2.cl,he]
  |true=>
   rw[a3]at c2;have au:decide ((1:Int)<((r.length+1:Nat):Int))=decide (1<(x::r).length):=by simp;omega
   have awS:decide ((120:Int)<((r.length+1:Nat):Int))=decide (120<(x::r).length):=by simp;omega
   by_cases vW:x=48
   ·subst vW;cases hm:minus s with
    |true=>
     have he:d9 s=1:=by unfold d9 oY;rw[ah,hm];simp
     rw[hm]at c1;simp only[DD,go_sem,seval,c1.cl,c2.cl,he]
    |false=>
     rw[hm]at c1;cases r with
     |nil=>
      have he:d9 s=0:=by unfold d9 oY;rw[ah,hm];rfl
      simp only[DD,go_sem,seval,c1.cl,c2.cl,he,(dF _ _).cl,cd]
     |cons y r=>
      have he:d9 s=1:=by unfold d9 oY;rw[ah,hm];simp
      have p6:(1:Int)<(r.length:Int)+1+1:=by omega
      simp[DD,go_sem,seval,c1.cl,c2.cl,he,p6]
   ·have ab:¬((x:Int)=48):=by omega
    have he:d9 s=cd (decide (120<(x::r).length)) 4:=by
     unfold d9 oY;rw[ah,a3];simp[vW,cd]
    simp only[DD,go_sem,seval,c1.cl,c2.cl,he,ab];simp only[go_sem,seval,awS,(dF _ _).cl]
def jT:Nat->Int
 |0=>0
 |1=>0
 |2=>0
 |3=>0
 |4=>(-1)
 |5=>1
 |6=>(-1)
 |7=>(-1)
 |8=>2
 |9=>2
 |10=>3
 |11=>2
 |12=>2
 |13=>2
 |14=>2
 |15=>2
 |16=>2
 |17=>(-2)
 |18=>(-2)
 |19=>(-2)
 |_=>0
def k4:Nat->b9
 |0=>[66,111,111,108]
 |1=>[66,111,111,108]
 |2=>[110]
 |3=>[115]
 |4=>[115]
 |5=>[66,111,111,108]
 |6=>[66,111,111,108]
 |7=>[66,111,111,108]
 |8=>[66,111,111,108]
 |9=>[66,111,111,108]
 |10=>[115]
 |11=>[66,111,111,108]
 |12=>[110]
 |13=>[110]
 |14=>[110]
 |15=>[66,111,111,108]
 |16=>[66,111,111,108]
 |17=>[66,111,111,108]
 |18=>[66,111,111,108]
 |19=>[45]
 |_=>[]
def mS:Nat->List V
 |0=>[.str [116,114,117,101],.ad 0,.str [66,111,111,108],(.fn (.func 328) [] [])]
 |1=>[.str [102,97,108,115,101],.ad 0,.str [66,111,111,108],(.fn (.func 328) [] [])]
 |2=>[.str [],.ad 0,.str [110],(.fn (.func 328) [] [])]
 |3=>[.str [],.ad 0,.str [115],(.fn (.func 328) [] [])]
 |4=>[.str [],.ad (-1),.str [115],.lK]
 |5=>[.str [110,111,116],.ad 1,.str [66,111,111,108],(.fn (.func 328) [] [])]
 |6=>[.str [97,110,100],.ad (-1),.str [66,111,111,108],(.fn (.func 328) [] [])]
 |7=>[.str [111,114],.ad (-1),.str [66,111,111,108],(.fn (.func 328) [] [])]
 |8=>[.str [61,62],.ad 2,.str [66,111,111,108],(.fn (.func 328) [] [])]
 |9=>[.str [105,102,102],.ad 2,.str [66,111,111,108],(.fn (.func 328) [] [])]
 |10=>[.str [105,116,101],.ad 3,.str [115],(.fn (.func 329) [] [])]
 |11=>[.str [61],.ad 2,.str [66,111,111,108],(.fn (.func 330) [] [])]
 |12=>[.str [43],.ad 2,.str [110],(.fn (.func 331) [] [])]
 |13=>[.str [45],.ad 2,.str [110],(.fn (.func 331) [] [])]
 |14=>[.str [42],.ad 2,.str [110],(.fn (.func 331) [] [])]
 |15=>[.str [60],.ad 2,.str [66,111,111,108],(.fn (.func 331) [] [])]
 |16=>[.str [60,61],.ad 2,.str [66,111,111,108],(.fn (.func 331) [] [])]
 |17=>[.str [102,111,114,97,108,108],.ad (-2),.str [66,111,111,108],(.fn (.func 332) [] [])]
 |18=>[.str [101,120,105,115,116,115],.ad (-2),.str [66,111,111,108],(.fn (.func 333) [] [])]
 |19=>[.str [33],.ad (-2),.str [45],.lK]
 |_=>[]
def conn:List V:=mS 0++mS 1++mS 2++mS 3++mS 4++mS 5++mS 6++mS 7++mS 8++mS 9++mS 10++mS 11++mS 12++mS 13++mS 14++mS 15++mS 16++mS 17++mS 18++mS 19
theorem vn:∀op:Nat,op<20->Bu true 4 20 (.agg conn) (.ad (op:Nat))=some (.agg (mS op))
 |0,_=>rfl
 |1,_=>rfl
 |2,_=>rfl
 |3,_=>rfl
 |4,_=>rfl
 |5,_=>rfl
 |6,_=>rfl
 |7,_=>rfl
 |8,_=>rfl
 |9,_=>rfl
 |10,_=>rfl
 |11,_=>rfl
 |12,_=>rfl
 |13,_=>rfl
 |14,_=>rfl
 |15,_=>rfl
 |16,_=>rfl
 |17,_=>rfl
 |18,_=>rfl
 |19,_=>rfl
 |n+20,h=>absurd h (by omega)
theorem wZ:∀op:Nat,op<20->Dj false 1 1 (.agg (mS op))=some (.ad (jT op))
 |0,_=>rfl
 |1,_=>rfl
 |2,_=>rfl
 |3,_=>rfl
 |4,_=>rfl
 |5,_=>rfl
 |6,_=>rfl
 |7,_=>rfl
 |8,_=>rfl
 |9,_=>rfl
 |10,_=>rfl
 |11,_=>rfl
 |12,_=>rfl
 |13,_=>rfl
 |14,_=>rfl
 |15,_=>rfl
 |16,_=>rfl
 |17,_=>rfl
 |18,_=>rfl
 |19,_=>rfl
 |n+20,h=>absurd h (by omega)
theorem aKe:∀op:Nat,op<20->Dj false 2 1 (.agg (mS op))=some (.str (k4 op))
 |0,_=>rfl
 |1,_=>rfl
 |2,_=>rfl
 |3,_=>rfl
 |4,_=>rfl
 |5,_=>rfl
 |6,_=>rfl
 |7,_=>rfl
 |8,_=>rfl
 |9,_=>rfl
 |10,_=>rfl
 |11,_=>rfl
 |12,_=>rfl
 |13,_=>rfl
 |14,_=>rfl
 |15,_=>rfl
 |16,_=>rfl
 |17,_=>rfl
 |18,_=>rfl
 |19,_=>rfl
 |n+20,h=>absurd h (by omega)
theorem vo(g:Bool)(es n:Nat)(x i:X)(I:Fr):(d5.OZ g es n x i).f I=Bu g es n (x.a7 I) (i.a7 I):=rfl
theorem ajz:aS J a 206 [] (.agg conn):=by
 refine aS.bE ak.agq rfl fun h _ _=>?_;simp only[agp,go_sem,seval,jQ,oU,V.cells,mO,Nat.succ_eq_add_one];rfl
def BP(n:bb)(o:Nat):Bool:=
 if k4 o=[110]then(!isNum n.sort||(decide (n.op=2)&&(decide (d9 n.name=0) !=decide (n.sort=zk))))
 else if k4 o=[115]then decide (n.sort=[])
 else if k4 o=[45]then !decide (n.sort=[])
 else !decide (n.sort=k4 o)
theorem axy{n:bb}{s w:V}{i o:Nat}(aA:s.cells=[s])(hw:w.cells=[w])(a6:n.op=(o:Int))(ay:o<20)(aq:n.name.length<1000000):aS J a 211 [l2 n s w i] (.ad (cd (BP n o) 13)):=by
 refine aS.bE ak.agx rfl fun h _ _=>?_;have c1:=ajz (J:=J) (a:=h);have c2:=awI (J:=J) (a:=h) n.sort;have dF:=OI (J:=J) (a:=h) n.name aq;have fs:=fun b=>Gd (J:=J) (a:=h) b 13;have bd:decide ((o:Int)=2)=decide (n.op=2):=by rw[a6]
 simp only[agw,l2,a6,go_sem,seval,vo,c1.cl,c1.bL,vn o ay,aKe o ay];unfold BP;by_cases h1:k4 o=[110]
 ·rw[bl h1];cases ajA:isNum n.sort with
  |false=>
   rw[ajA]at c2;simp only[go_sem,seval,h1,c2.cl,c2.bL,(fs _).cl]
  |true=>
   rw[ajA]at c2;by_cases ae:n.op=2
   ·have p9:((o:Int)=2):=by rw[<-a6];exact ae
    simp only[go_sem,seval,h1,c2.cl,c2.bL,dF.cl,dF.bL,ae,p9,(fs _).cl,zk]
    all_goals rfl
   ·have p9:¬((o:Int)=2):=by rw[<-a6];exact ae
    simp only[go_sem,seval,h1,c2.cl,c2.bL,ae,p9,(fs _).cl]
    all_goals rfl
 ·rw[bf h1];by_cases ae:k4 o=[115]
  ·rw[bl ae];simp only[go_sem,seval,h1,ae,(fs _).cl,oS]
  ·rw[bf ae];by_cases az:k4 o=[45]
   ·rw[bl az];simp only[go_sem,seval,h1,ae,az,(fs _).cl,oS]
   ·rw[bf az];simp only[go_sem,seval,h1,ae,az,(fs _).cl]
theorem aoO(seen:List b9)(v:b9×b9)(l:List (b9×b9)):nU seen (v::l)=if plain v.1=true then(if v.1∈seen then 7 else nU (seen++[v.1]) l)else 6:=rfl
theorem axz[bP:aK a]{n:bb}{s w:V}{i:Nat}(r:qY a n s w)(hP:∀(h:H) (s:b9),s0 s->aS J h 143 [.str s] (.bool (plain s)))(au:∀v∈n.vars,s0 v.1){aJ:H}[eZ:aj a aJ]{cB:P}{I:Fr}{k:c4}
  (f1:I.gt 1=.ptr cB 0 0 6) (CM:I.gt 40=s) (Fh:I.gt 41=.ad (n.vars.length:Nat)) (Fi:I.gt 42=.ad (0:Nat)) (aN:aJ.get cB=some (.af [.ad n.op,.str n.sort,.str n.name,s,w,.ad (i:Nat)] 278))
  (eu:∀I aa,aj a aa->nU [] n.vars=0->k.run J (.exit 0 ⟨I,[],aa⟩))
  (ht:∀I aa,aj a aa->I.gt 2=.ad (nU [] n.vars) ->k.run J (.ret ⟨I,[],aa⟩)):dA J alq ⟨I,[],aJ⟩ k:=by
 have asI:=r.hF;refine dK n.vars.length (fun m t=>∃I h1,t=⟨I,[],h1⟩/\aj aJ h1/\nU [] n.vars=nU ((n.vars.take m).map Prod.fst) (n.vars.drop m)/\I.gt 1=.ptr cB 0 0 6/\I.gt 40=s/\I.gt 41=.ad (n.vars.length:Nat)/\I.gt 42=.ad (m:Nat)) ?_ ?_ (dk _) ⟨I,aJ,rfl,@aj.akH _ eZ.bx,rfl,f1,CM,Fh,Fi⟩
 ·rintro m t hm ⟨I,h1,rfl,aB,he,bA,Jl,FD,Jm⟩;have fa:=eZ.bx;have bW:=aB.bx;have dr:=aB.at aN;have cL:=aP dr;have Cb:=eZ.aG aB;obtain⟨x,ab⟩:=bI hm;have a3:=en ab;have lk:m<(hi n.vars).length:=by rw[jd];exact hm
  have asJ:(n.vars.take (m+1)).map Prod.fst=(n.vars.take m).map Prod.fst++[x.1]:=by rw[mU,ab,wW];rfl
  have wG:=r.vars.wG r.Ge (i:=m) (by rw[jd];omega);have asK:bB a (nd s m) 2 (hi (n.vars.take m)):=by
   have:=r.vars.to (i:=m) (by rw[jd];omega);unfold hi at this⊢;rwa[<-G2]at this
  have uJ:(n.vars.take m).length<1000000000:=by rw[el];omega
  have yq:=awL (J:=J) asK uJ x.1;have iD:=hP a x.1 (au x (c0 ab));have af:=fun b e=>Gd (J:=J) (a:=a) b e;have rz:aj a (h1.new (.af [.str x.1,.str x.2] 232)):=an;rw[a3,aoO]at he;have ajo:m<9223372036854775807:=by omega
  have asL:¬(6:Int)=0:=by decide
  have asM:¬(7:Int)=0:=by decide
  cases bh: plain x.1 with
  |false=>
   rw[bh]at iD he;have he:nU [] n.vars=6:=by rw[he];rfl
   simp only[go_sem,seval,bA,Jl,FD,Jm,hm,r.vars.addr lk,r.vars.bM (nX ab),dr,wG,iD.cl,iD.bL,yq.cl,yq.bL,(af _ _).cl,(af _ _).bL,cd,fK r.vars,Hm,Qs,cm,asL];exact ht _ _ an (by simp only[go_sem,seval,he])
  |true=>
   rw[bh]at iD he;by_cases ev:x.1∈(n.vars.take m).map Prod.fst
   ·have he:nU [] n.vars=7:=by rw[he,bl rfl,bl ev]
    simp only[ev]at yq;simp only[go_sem,seval,bA,Jl,FD,Jm,hm,r.vars.addr lk,r.vars.bM (nX ab),dr,wG,iD.cl,iD.bL,yq.cl,yq.bL,(af _ _).cl,(af _ _).bL,cd,fK r.vars,Hm,Qs,cm,asM];exact ht _ _ an (by simp only[go_sem,seval,he])
   ·have he:nU [] n.vars=nU ((n.vars.take (m+1)).map Prod.fst) (n.vars.drop (m+1)):=by rw[he,bl rfl,bf ev,asJ]
    simp only[ev]at yq;simp only[go_sem,seval,bA,Jl,FD,Jm,hm,r.vars.addr lk,r.vars.bM (nX ab),dr,wG,iD.cl,iD.bL,yq.cl,yq.bL,(af _ _).cl,(af _ _).bL,cd,fK r.vars,Hm,Qs,cm,cG ajo];exact⟨_,_,rfl,an,he,by simp only[go_sem,seval,bA],by simp only[go_sem,seval,Jl],by simp only[go_sem,seval,FD],by simp only[go_sem,seval]⟩
 ·rintro t ⟨I,h1,rfl,aB,he,bA,Jl,FD,Jm⟩;have aX:nU [] n.vars=0:=by rw[he,fp];rfl
  simp only[go_sem,seval,FD,Jm,nW];exact eu _ _ (eZ.aG aB) aX
theorem axA[bP:aK a]{n:bb}{s w:V}{i:Nat}(r:qY a n s w)(hP:∀(h:H) (s:b9),s0 s->aS J h 143 [.str s] (.bool (plain s)))(au:∀v∈n.vars,s0 v.1):aS J a 210 [l2 n s w i] (.ad (mA n)):=by
 refine aS.bE ak.agv rfl fun h ca g=>?_;have q:=ajf (J:=J) (a:=h) n.op;have aN:decide ((n.vars.length:Int)<1)=decide (n.vars.length<1):=by apply decide_eq_decide.2;omega
 have bd:decide ((12:Int)<(n.vars.length:Int))=decide (12<n.vars.length):=by apply decide_eq_decide.2;omega
 have bO:decide ((0:Int)<(n.vars.length:Int))=decide (0<n.vars.length):=by apply decide_eq_decide.2;omega
 have asI:=r.hF;have pO:=r.aO bP.ok g;have fin:∀(aJ:H) (I:Fr),aj h aJ->mA n=nU [] n.vars->I.gt 1=.ptr h.next 0 0 6->I.gt 40=s->I.gt 41=.ad (n.vars.length:Nat) ->I.gt 42=.ad (0:Nat) ->aJ.get h.next=some (.af [.ad n.op,.str n.sort,.str n.name,s,w,.ad (i:Nat)] 278) ->
   dA J alq ⟨I,[],aJ⟩ (.bS 0 (.seq (.seq (.cF [bz 2 (iu 0)]) .ret) (.ret [.tmp (a0 2)] fun w aa=>w=.ad (mA n)/\aj h aa))):=fun aJ I eZ he f1 CM Fh Fi dr=>by
  have il:=eZ.bx;refine axz pO hP au f1 CM Fh Fi dr (fun I aa bR aX=>?_) (fun I aa bR bd=>?_)
  ·have:=bR.bx;simp only[go_sem,seval,he,aX]
  ·have:=bR.bx;simp only[go_sem,seval,he,bd]
 cases aM:tM n.op with
 |true=>
  rw[aM]at q;by_cases h5:n.vars.length<1
  ·have he:mA n=5:=by unfold mA;rw[bl aM,bl (.inl h5)]
   simp only[DC,l2,go_sem,seval,q.cl,r.vars.a2,jd,aN,h5,he]
  ·by_cases hA:12<n.vars.length
   ·have he:mA n=5:=by unfold mA;rw[bl aM,bl (.inr hA)]
    simp only[DC,l2,go_sem,seval,q.cl,r.vars.a2,jd,aN,bd,h5,hA,he]
   ·have he:mA n=nU [] n.vars:=by unfold mA;rw[bl aM,bf (by omega)]
    simp only[DC,l2,go_sem,seval,q.cl,r.vars.a2,jd,aN,bd,h5,hA];exact fin _ _ an he (by simp only[go_sem,seval]) (by simp only[go_sem,seval]) (by simp only[go_sem,seval]) (by simp only[go_sem,seval]) (by simp only[go_sem,seval])
 |false=>
  rw[aM]at q;by_cases hA:0<n.vars.length
  ·have he:mA n=5:=by unfold mA;rw[bf (by simp[aM]),bl hA]
   simp only[DC,l2,go_sem,seval,q.cl,r.vars.a2,jd,bO,hA,he]
  ·have he:mA n=nU [] n.vars:=by unfold mA;rw[bf (by simp[aM]),bf hA]
   simp only[DC,l2,go_sem,seval,q.cl,r.vars.a2,jd,bO,hA];exact fin _ _ an he (by simp only[go_sem,seval]) (by simp only[go_sem,seval]) (by simp only[go_sem,seval]) (by simp only[go_sem,seval]) (by simp only[go_sem,seval])
def KW(t:List bb)(S W:Nat->V)(i:Nat):V:=match t[i]? with|some n=>l2 n (S i) (W i) i|none=>.fO
theorem YM{t:List bb}{S W:Nat->V}{i:Nat}{n:bb}(h:t[i]?=some n):KW t S W i=l2 n (S i) (W i) i:=by unfold KW;rw[h]
theorem amk{a:H}[aK a]{b:P}{ty:TypeId}{v:V}{t:List bb}{S W:Nat->V}(aU:fc a v t S W)(au:t.length<1000000000):
  Iter J 327 [] [.ptr b 0 0 1] (fun h=>aj a h/\h.get b=some (.af [v] ty)) t.length (fun i=>[KW t S W i]):=by
 intro l bn D h sq mD abW abX step av;refine PJ ak.ahH.1 rfl ?_;have dr:=(sq 0 h av).1.2;simp only[ahG,go_sem,seval,dr,aU.ag.a2,gj];refine dK t.length (fun i s=>∃I h1,s=⟨I,[],h1⟩/\bn i h1/\I.gt 0=.jk l/\I.gt 5=v/\I.gt 6=.ad (t.length:Nat)/\I.gt 7=.ad (i:Nat)) ?_ ?_ (dk _) ⟨_,_,rfl,av,?_,?_,?_,?_⟩
 ·rintro i s ai ⟨I,h1,rfl,oB,bA,eY,eI,gl⟩;obtain⟨⟨Cb,dr⟩,bW⟩:=sq i h1 oB;have:aK h1:=⟨bW⟩;obtain⟨n,aq⟩:=bI ai;have wq:i<9223372036854775807:=by omega
  simp only[go_sem,seval,bA,eY,eI,gl,ai,aU.ag.addr (aU.lt ai),aU.ag.bM (aU.at aq)];have I5:bn i (h1.new (.af [.ad n.op,.str n.sort,.str n.name,S i,W i] 90)):=mD i h1 _ oB ((iI.refl bW).new _)
  have st:=step i _ ai I5;simp only[YM aq]at st;refine st _ _ _ _ _ ?_;rintro v aa (⟨rfl,axB⟩|⟨rfl,gC⟩)
  ·simp only[go_sem,seval,bA,eY,eI,gl,cG wq];refine⟨_,_,rfl,axB,?_,?_,?_,?_⟩
   all_goals simp only[go_sem,seval,bA,eY,eI]
  ·simp only[go_sem,seval];exact .inr gC
 ·rintro s ⟨I,h1,rfl,oB,bA,eY,eI,gl⟩;simp only[go_sem,seval,eI,gl,nW];exact .inl oB
 all_goals simp only[go_sem,seval]
theorem Ga(w:V)(hw:w.cells=[w])(h:H):oi J 205 [w] h (.fn (.func 327) [] [.ptr h.next 0 0 1]) (h.new (.af [w] 52)):=by
 refine(ya (ak.Ga.2 _ _) ak.Ga.1 rfl ?_).is;simp only[ago,go_sem,seval,PS 52 w hw]
def cellsD(l:List Nat):List V:=l.map fun d=>.ad (d:Nat)
theorem QG{l:List Nat}{i x:Nat}(h:l[i]?=some x):(cellsD l)[i]?=some (.ad (x:Nat)):=by simp[cellsD,h]
theorem aov(l:List Nat):(cellsD l).length=l.length:=eQ _
theorem aow(l:List Nat)(i x:Nat):(cellsD l).set i (.ad (x:Nat))=cellsD (l.set i x):=by simp[cellsD,List.map_set]
theorem PU{α:Type}{D Z:List α}{m:α}{i:Nat}(h:D.length=i):(D++m::Z)[i]?=some m:=by rw[oo (by omega)];simp[h]
theorem aml{α:Type}{D Z:List α}{m x:α}{i:Nat}(h:D.length=i):(D++m::Z).set i x=D++x::Z:=by rw[List.set_append_right _ _ (by omega)];simp[h]
theorem axC[bP:aK a]{v:V}{t:List bb}{S W:Nat->V}(aU:fc a v t S W){i:Nat}{n:bb}(aq:t[i]?=some n)(ok: pI t i){aJ:H}[eZ:aj a aJ]{bC b0 f dG o8:P}{Rp S6:O}{D Z:List Nat}{I:Fr}{k:c4}
  (gC:D.length=i) (Cf:i+1+Z.length=t.length) (_:dp f bC) (_:dp bC f) (_:dp b0 f) (_:dp dG f) (_:dp o8 f) (_:eC f a)
  (bO:aJ.get bC=some (.af [.ag f 0 0 t.length 1 (some t.length)] 58)) (fY:aJ.get b0=some (.af [.ad n.op,.str n.sort,.str n.name,S i,W i,.ad (i:Nat)] 278))
  (ha:aJ.get f=some (.af (cellsD (D++0::Z)) 3)) (oC:aJ.get dG=some Rp) (em:aJ.get o8=some S6)
  (aR:I.gt 3=.ptr bC 0 0 1) (bZ:I.gt 4=.ptr b0 0 0 6) (qa:I.gt 15=W i) (qZ:I.gt 16=.ad (n.kids.length:Nat)) (lo:I.gt 17=.ad (0:Nat))
  (eu:∀aQ aa,aj a aa->aa.get bC=some (.af [.ag f 0 0 t.length 1 (some t.length)] 58) ->aa.get b0=some (.af [.ad n.op,.str n.sort,.str n.name,S i,W i,.ad (i:Nat)] 278) ->aa.get f=some (.af (cellsD (D++ka D n.kids 0::Z)) 3) ->aa.get dG=some Rp->aa.get o8=some S6->
   aQ.gt 3=.ptr bC 0 0 1->aQ.gt 4=.ptr b0 0 0 6->k.run J (.exit 2 ⟨aQ,[],aa⟩)):dA J aDP ⟨I,[],aJ⟩ k:=by
 have r:=aU.row i n aq;have Sv:=r.ki;refine dK n.kids.length (fun j s=>∃I h1,s=⟨I,[],h1⟩/\aj a h1/\h1.get bC=some (.af [.ag f 0 0 t.length 1 (some t.length)] 58)/\h1.get b0=some (.af [.ad n.op,.str n.sort,.str n.name,S i,W i,.ad (i:Nat)] 278)/\h1.get f=some (.af (cellsD (D++ka D (n.kids.take j) 0::Z)) 3)/\h1.get dG=some Rp/\h1.get o8=some S6/\
  I.gt 3=.ptr bC 0 0 1/\I.gt 4=.ptr b0 0 0 6/\I.gt 15=W i/\I.gt 16=.ad (n.kids.length:Nat)/\I.gt 17=.ad (j:Nat)) ?_ ?_ (dk _) ⟨I,aJ,rfl,eZ,bO,fY,ha,oC,em,aR,bZ,qa,qZ,lo⟩
 ·rintro j s a5 ⟨I,h1,rfl,aB,bO,fY,ha,oC,em,aR,bZ,qa,qZ,lo⟩;have bW:=aB.bx;have gx:=aP bO;have hT:=aP fY;have p5:=aP ha;have ol:=aP oC;have aMH:=aP em;obtain⟨x,ab⟩:=bI a5;have hk:=ok.hJ aq x (c0 ab);obtain⟨y,rfl⟩:∃y:Nat,x=y:=⟨x.toNat,by omega⟩;have acX:y<i:=by omega
  have Fo:j<(dH n.kids).length:=by rw[c7];exact a5
  obtain⟨d,a3⟩:=bI (l:=D) (i:=y) (by omega);have bj:=QG (PU (D:=D) (Z:=Z) (m:=ka D (n.kids.take j) 0) gC);have a8:(cellsD (D++ka D (n.kids.take j) 0::Z))[y]?=some (.ad (d:Nat)):=QG (by rw[nP (by omega)];exact a3);have hh:ka D (n.kids.take (j+1)) 0=max (ka D (n.kids.take j) 0) d:=by
   rw[mU,ab];show ka D (n.kids.take j++[(y:Int)]) 0=_;rw[aoP,show((y:Int).toNat)=y by omega,a3];rfl
  have hlen:i<(cellsD (D++ka D (n.kids.take j) 0::Z)).length:=by rw[aov];simp;omega
  have bJ:=rp f 0 0 t.length 1 (some t.length) i (by omega);have g8:=rp f 0 0 t.length 1 (some t.length) y (by omega);have st:=fun(h:H)=>GQ (cellsD (D++ka D (n.kids.take j) 0::Z)) 3 h f i hlen (.ad ((max (ka D (n.kids.take j) 0) d:Nat):Int)) rfl
  have axD:j<9223372036854775807:=by omega
  simp only[eH,kz]at bJ g8;have acY:=vg bj 3 .rw;have Nc:=vg a8 3 .rw;simp only[eH,kz]at acY Nc st;simp only[go_sem,seval,aR,bZ,qa,qZ,lo,a5,r.kids.addr Fo,r.kids.bM (gn ab),bO,fY,ha,bJ,g8,acY,Nc,st,cG axD];exact⟨_,_,rfl,an,by simp only[go_sem,seval,bO],by simp only[go_sem,seval,fY],by rw[jt,aow,aml gC,hh],by simp only[go_sem,seval,oC],by simp only[go_sem,seval,em],by simp only[go_sem,seval,aR],by simp only[go_sem,seval,bZ],by simp only[go_sem,seval,qa],by simp only[go_sem,seval,qZ],by simp only[go_sem,seval]⟩
 ·rintro s ⟨I,h1,rfl,aB,bO,fY,ha,oC,em,aR,bZ,qa,qZ,lo⟩;rw[g5]at ha;simp only[go_sem,seval,qZ,lo,nW];exact eu _ _ aB bO fY ha oC em (by simp only[go_sem,seval,aR]) (by simp only[go_sem,seval,bZ])
abbrev Pp(f:P)(n:Nat):O:=.af [.ag f 0 0 n 1 (some n)] 58
abbrev Ck(t:List bb)(i:Nat):O:=.af (cellsD (hW (t.take i) []++List.replicate (t.length-i) 0)) 3
theorem axE[bP:aK a]{v:V}{t:List bb}{S W:Nat->V}(aU:fc a v t S W)(au:t.length<1000000)(ok:∀i,i<t.length->pI t i){aJ:H}[ca:aK aJ][eZ:aj a aJ]{bC f fN:P}{I:Fr}{k:c4}
  (aR:I.gt 3=.ptr bC 0 0 1) (iT:I.gt 11=.fn (.func 327) [] [.ptr fN 0 0 1]) (_:dp f bC) (_:dp bC f) (_:dp fN f) (_:eC f a)
  (bO:aJ.get bC=some (Pp f t.length)) (ha:aJ.get f=some (Ck t 0)) (lC:aJ.get fN=some (.af [v] 52))
  (tt:∀aa,aj a aa->aa.get bC=some (Pp f t.length) ->aa.get f=some (Ck t t.length) ->k.run J (.norm ⟨I,[],aa⟩)):dA J alr ⟨I,[],aJ⟩ k:=by
 have gx:=aP bO;have p5:=aP ha;have on:=aP lC;unfold alr;refine Le (α:=Unit) (β:=Unit) (amk (b:=fN) (ty:=52) aU (by omega)) (by simp only[go_sem,seval,iT]) a
  (fun i _=>[(bC,Pp f t.length),(f,Ck t i),(fN,.af [v] 52),(aJ.next,.loop .ready none I [(a0 12)] XL XN)]) (fun _ _=>True) (fun _=>[]) (fun _=>False) ?_ ?_ ?_ ?_ ?_
 ·intro m x aa bR _ G _;exact⟨bR,G.2.2.1⟩
 ·exact⟨an,(),⟨by simp only[j9,bO],by simp only[j9,ha],by simp only[j9,lC],ef,trivial⟩,trivial⟩
 ·intro i x aa ai bR ch G _ d os aQ gG yV U a3;obtain⟨cc,hG,eh,ea,_⟩:=G;have c5:=aP cc;have e4:=aP hG;have Md:=aP eh;have pl:=aP ea;obtain⟨n,aq⟩:=bI ai;have r:=aU.row i n aq;have gC:(hW (t.take i) []).length=i:=by rw[Zp,el];simp;omega
  have V7:List.replicate (t.length-i) 0=0::List.replicate (t.length-(i+1)) 0:=by rw[show t.length-i=t.length-(i+1)+1 by omega];rfl
  show oL J (.jk aJ.next) [KW t S W i] aa d os aQ gG yV;rw[YM aq];refine Ec (aa:=aa.new (.af [.ad n.op,.str n.sort,.str n.name,S i,W i,.ad (i:Nat)] 278)) ea rfl (by simp only[XL,go_sem,seval,l2,jV];rfl) (by simp only[go_sem,seval,ea]) ?_;simp only[aDQ,XM,go_sem,seval,aR,r.kids.a2,c7];refine axC (bC:=bC) (b0:=aa.next) (f:=f) (dG:=aJ.next) (o8:=fN) (D:=hW (t.take i) []) (Z:=List.replicate (t.length-(i+1)) 0) aU aq (ok i ai) gC (by simp;omega) (by exact an) (by exact an) (by exact an) (by exact an) (by exact an) (by exact an) (by simp only[go_sem,seval,cc]) (by simp only[go_sem,seval]) ?_ (by simp only[go_sem,seval];rfl) (by simp only[go_sem,seval,eh];rfl) (by simp only[go_sem,seval,aR]) (by simp only[go_sem,seval]) (by simp only[go_sem,seval]) (by simp only[go_sem,seval]) (by simp only[go_sem,seval]) ?_
  ·simp only[go_sem,seval,hG,Ck,V7]
  ·intro vM h1 aB n0 sx vF ag pS dR lZ;have bW:=aB.bx;have ux:=aP n0;have EK:=aP sx;have rv:=aP vF;have uD:=aP ag;have z8:=aP pS;have hlen:i<(cellsD (hW (t.take i) []++ka (hW (t.take i) []) n.kids 0::List.replicate (t.length-(i+1)) 0)).length:=by rw[aov];simp;omega
   have bJ:=rp f 0 0 t.length 1 (some t.length) i (by omega);have bj:=vg (QG (PU (D:=hW (t.take i) []) (Z:=List.replicate (t.length-(i+1)) 0) (m:=ka (hW (t.take i) []) n.kids 0) gC)) 3 .rw;have st:=fun(h:H) (x:Nat)=>GQ (cellsD (hW (t.take i) []++ka (hW (t.take i) []) n.kids 0::List.replicate (t.length-(i+1)) 0)) 3 h f i hlen (.ad (x:Nat)) rfl;simp only[eH,kz]at bJ bj st;have hle:=Y4 (anW (t.take i) [] (fun x h=>by cases h)) n.kids 0 (dk _);rw[gC]at hle;have aA:=aLt aq;simp only[go_sem,seval,n0,sx,vF,dR,lZ,bJ,bj,cG (show ka (hW (t.take i) []) n.kids 0<9223372036854775807 by omega),st,jV];refine x6 (by simp only[go_sem,seval];exact ag) ?_;refine U _ an ⟨(),⟨by simp only[go_sem,seval,n0],?_,?_,by simp only[go_sem,seval],trivial⟩,trivial⟩
   ·simp only[go_sem,seval,Ck,aA,aow,aml gC,nk]
   ·simp only[go_sem,seval,pS]
 ·intro x aa bR _ ⟨cc,hG,eh,ea,_⟩ _;have pl:=aP ea;rw[EB ea];exact⟨by simp,tt _ an (by simp only[go_sem,seval,cc]) (by simp only[go_sem,seval,hG])⟩
 ·intro _ _ _ _ _ aE;exact aE.elim
theorem axF[bP:aK a]{v:V}{t:List bb}{S W:Nat->V}(aU:fc a v t S W)(au:t.length<1000000)(bV:0<t.length)(ok:∀i,i<t.length->pI t i):aS J a 213 [v] (.ad ((((hW t [])[t.length-1]?).getD 0:Nat):Int)):=by
 refine aS.bE ak.agA rfl fun h ca g=>?_;have lG:=aU.aO bP.ok g;have h8:=wY 3 1 8 [.ad 0] t.length (by omega) (by omega);simp only[Kd,go_sem,seval,lG.ag.a2,gj,h8,(Ga v lG.ag.cell _).cl];refine axE (f:=h.next) lG au ok (by simp only[go_sem,seval];rfl) (by simp only[go_sem,seval];rfl) (by exact an) (by exact an) (by exact an) (by exact an) (by simp only[go_sem,seval]) ?_ (by simp only[go_sem,seval]) ?_
 ·simp only[go_sem,seval,DG,Ck,x5,hW,cellsD,List.map_replicate]
 ·intro aa bR cc hG;have ch:=bR.bx;have nO:t.length-1<(hW t []).length:=by rw[Zp];simp;omega
  obtain⟨d,a3⟩:=bI nO;have hG:aa.get h.next=some (.af (cellsD (hW t [])) 3):=by
   rw[hG];simp only[Ck,g5,sb,List.replicate_zero,qy]
  have bJ:=rp h.next 0 0 t.length 1 (some t.length) (t.length-1) (by omega)
  have bj:=vg (QG a3) 3 .rw;have hw:b8 .i64 ((t.length:Int) -1)=((t.length-1:Nat):Int):=pM (by omega) (by omega)
  simp only[eH,kz]at bJ bj;simp only[go_sem,seval,cc,Pp,hw,bJ,hG,bj,a3,hC]
end
end Go.ao
