/- A part of the proof that ProofForms holds for every input. -/
import Derived.Test.YtphcmfmpbndkbaaGreatDoorQ07
set_option maxRecDepth 100000
set_option maxHeartbeats 4000000
set_option linter.all false
noncomputable section
namespace Go.ao
section
open Form
class uz(J:Prog):Prop where
 jm:∀(s:List Nat) (b:Nat) (h:H),b<256->J.spec 461 [.str s,.int .u8 (b:Nat)] h=some (.ad (jm s b),h)
variable {J:Prog}[ak J][uz J]{a:H}
theorem awT(s:b9)(b:Nat)(ah:b<256):aS J a 461 [.str s,.int .u8 (b:Nat)] (.ad (jm s b)):=fun h i=>
 ⟨h,(rI.is (LJ (uz.jm s b h ah) ⟨rfl,rfl⟩)).val,.refl i.g.ok⟩
theorem awU(s:b9)(b:Nat)(ah:b<256):aS J a 378 [.str s,.int .u8 (b:Nat)] (.ad (jm s b)):=by
 refine aS.bE ak.aie rfl fun h _ _=>?_;simp only[aid,go_sem,seval,(awT (J:=J) (a:=h) s b ah).cl]
theorem ajj(s:b9)(b:Nat)(ah:b<256):aS J a 289 [.str s,.int .u8 (b:Nat)] (.ad (jm s b)):=by
 refine aS.bE ak.ahC rfl fun h _ _=>?_;simp only[ahB,go_sem,seval,(awU (J:=J) (a:=h) s b ah).cl]
theorem QL(c:Nat):∀s:List Nat,(c∈s/\0<=jm s c)\/(c∉s/\jm s c=-1)
 |[]=>.inr ⟨by simp,rfl⟩
 |b::l=>by
  have e:jm (b::l) c=(match Nat.beq b c with
   |true=>.ofNat 0
   |false=>match jm l c with
    |.ofNat n=>.ofNat (n+1)
    |.negSucc _=>.negSucc 0):=rfl
  rw[e,hE];by_cases h:b=c
  ·exact .inl ⟨by simp[h],by simp[h]⟩
  ·have aa:¬c=b:=fun e=>h e.symm;rcases QL c l with⟨h1,ae⟩|⟨h1,ae⟩
   ·refine .inl ⟨by simp[h1],?_⟩;cases aM:jm l c with
    |ofNat n=>simp only[h,qw];exact Int.natCast_nonneg (n+1)
    |negSucc n=>rw[aM]at ae;omega
   ·refine .inr ⟨by simp[h1,aa],?_⟩;have:jm l c=Int.negSucc 0:=ae;rw[this];simp[h]
abbrev hv:b9:=[32,10,40,41,123,125]
omit [uz J]in
theorem awV(r:Nat)(h1:128<=r)(ae:r<1114112):∃b,aS J a 532 [.int .i32 (r:Nat)] (.bool b):=by
 by_cases az:r<55296
 ·refine⟨true,aS.bE ak.OD rfl fun h _ _=>?_⟩;have aN:(0:Int)<=(r:Int):=by omega
  have bd:(r:Int)<55296:=by omega
  simp only[OC,go_sem,seval,aN,bd]
 ·have aN:(0:Int)<=(r:Int):=by omega
  have bd:¬(r:Int)<55296:=by omega
  have fY:(r:Int)<=1114111:=by omega
  by_cases bo:(57343:Int)<(r:Int)
  ·refine⟨true,aS.bE ak.OD rfl fun h _ _=>?_⟩;simp only[OC,go_sem,seval,aN,bd,bo,fY]
  ·refine⟨false,aS.bE ak.OD rfl fun h _ _=>?_⟩;simp only[OC,go_sem,seval,aN,bd,bo]
theorem aD9(r:Nat)(h1:128<=r):∃l:List Nat,(Utf8.encode (Int.ofNat r)).data.toList.map UInt8.toNat=l/\2<=l.length/\l.length<=4/\∀c∈l,128<=c/\c<256:=by
 refine⟨_,rfl,?_⟩;have key:∀c:Nat,128<=c->c<1114112->∀x:ByteArray,x=(if c<0x80 then⟨#[UInt8.ofNat c]⟩
  else if c<0x800 then⟨#[UInt8.ofNat (0xC0+c/64),UInt8.ofNat (0x80+c%64)]⟩
  else if c<0x10000 then⟨#[UInt8.ofNat (0xE0+c/4096),UInt8.ofNat (0x80+c/64%64),UInt8.ofNat (0x80+c%64)]⟩
  else⟨#[UInt8.ofNat (0xF0+c/262144),UInt8.ofNat (0x80+c/4096%64),UInt8.ofNat (0x80+c/64%64),UInt8.ofNat (0x80+c%64)]⟩:ByteArray) ->
   2<=(x.data.toList.map UInt8.toNat).length/\(x.data.toList.map UInt8.toNat).length<=4/\∀c∈x.data.toList.map UInt8.toNat,128<=c/\c<256:=by
  intro c U tD x ab;rw[bf (by omega)]at ab;split at ab
  ·subst ab;refine⟨by simp,by simp,?_⟩;intro d a3;simp at a3;rcases a3 with rfl|rfl<;>omega
  ·split at ab
   ·subst ab;refine⟨by simp,by simp,?_⟩;intro d a3;simp at a3;rcases a3 with rfl|rfl|rfl<;>omega
   ·subst ab;refine⟨by simp,by simp,?_⟩;intro d a3;simp at a3;rcases a3 with rfl|rfl|rfl|rfl<;>omega
 refine key (if Utf8.valid (Int.ofNat r)=true then r else 65533) (by split<;>omega) ?_ _ ?_
 ·split
  ·rename_i h;unfold Utf8.valid at h;simp only[uf,dJ,kL]at h;have:Int.ofNat r=(r:Int):=rfl;omega
  ·omega
 ·unfold Utf8.encode;rfl
omit [ak J] [uz J]in
theorem YJ{c:C}{s:eM}{k:c4}(hw:dA J c s (.done fun o=>(∀l t,o≠.goto l t)/\k.run J o)):dA J (.scope c) s k:=aIc c hw
theorem aGC(r:Nat)(h1:128<=r):∃l:List Nat,KI (.int .i32 (r:Nat))=some (.str l)/\2<=l.length/\l.length<=4/\∀c∈l,128<=c/\c<256:=by
 obtain⟨l,e,h⟩:=aD9 r h1;refine⟨l,?_,h⟩;have ah:Nat.blt r 128=false:=by
  cases ah:Nat.blt r 128 with
  |false=>rfl
  |true=>rw[lv]at ah;omega
 show(match Nat.blt r 128 with|true=>some (V.str [r])|false=>some (.str ((Utf8.encode (.ofNat r)).data.toList.map UInt8.toNat)))=_
 rw[ah,e]
end
section
open Form
variable {J:Prog}[ak J]{a:H}
def ta(J:Prog):Prop:=∀(h:H) (s:b9),s0 s->aS J h 143 [.str s] (.bool (plain s))
def s4(J:Prog)(a:H):Prop:=∀(s:b9),s0 s->aS J a 95 [.str s] (.ad (jR s))
theorem axG(hP:ta J)(dP:s4 J a){n:bb}{s w:V}{i:Nat}(aq:s0 n.name):aS J a 209 [l2 n s w i] (.ad (rn n)):=by
 refine aS.bE ak.agu rfl fun h _ _=>?_;have c1:=OI (J:=J) (a:=h) n.name aq.1;have c2:=dP n.name aq;have dF:=hP h n.name aq;have fs:=fun b e=>Gd (J:=J) (a:=h) b e;have bV:n.name.isEmpty=decide (n.name=[]):=by cases n.name<;>simp
 unfold rn;by_cases ae:n.op=2
 ·rw[bl ae];by_cases ai:d9 n.name=0
  ·simp only[Dz,l2,go_sem,seval,ae,c1.cl,ai,(fs _ _).cl]
  ·by_cases aI:jR n.name=0
   ·simp only[Dz,l2,go_sem,seval,ae,c1.cl,c2.cl,ai,aI,(fs _ _).cl]
   ·simp only[Dz,l2,go_sem,seval,ae,c1.cl,c2.cl,ai,aI,(fs _ _).cl]
 ·rw[bf ae];by_cases az:n.op=3
  ·rw[bl az];simp only[Dz,l2,go_sem,seval,az,dF.cl,(fs _ _).cl]
  ·rw[bf az];by_cases bo:n.op=4
   ·rw[bl bo,bV,Bool.not_not];simp only[Dz,l2,go_sem,seval,bo,(fs _ _).cl]
   ·rw[bf bo,bV];simp only[Dz,l2,go_sem,seval,ae,az,bo,(fs _ _).cl]
theorem aK1{n:bb}:∀o:Nat,o<20->n.op=(o:Int) ->(Form.shape n=true↔¬((0<=jT o/\¬(n.kids.length:Int)=jT o)\/(jT o=-2/\n.kids.length=0))):=by
 intro o a6 e;unfold Form.shape;rw[e];generalize n.kids.length=m
 match o,a6 with
 |0,_=>simp[jT]
 |1,_=>simp[jT]
 |2,_=>simp[jT]
 |3,_=>simp[jT]
 |4,_=>simp[jT]
 |5,_=>simp[jT];omega
 |6,_=>simp[jT]
 |7,_=>simp[jT]
 |8,_=>simp[jT];omega
 |9,_=>simp[jT];omega
 |10,_=>simp[jT];omega
 |11,_=>simp[jT];omega
 |12,_=>simp[jT];omega
 |13,_=>simp[jT];omega
 |14,_=>simp[jT];omega
 |15,_=>simp[jT];omega
 |16,_=>simp[jT];omega
 |17,_=>simp[jT];omega
 |18,_=>simp[jT];omega
 |19,_=>simp[jT];omega
 |o+20,h=>omega
theorem aox:∀(s p:b9),47∉s->s3 p s=none
 |[],_,_=>rfl
 |c::r,p,h=>by
  simp only[lT,not_or]at h;unfold s3;rw[bf (fun e=>h.1 e.symm)];exact aox r _ h.2
theorem aIT{s:b9}(h:47∉s):cut s=none:=aox s [] h
theorem aIU{s:b9}(h:d9 s=0):jR s≠0:=by
 have aE:oY s=true:=by
  unfold d9 at h;split at h
  ·assumption
  ·cases h
 have AR:47∉s:=by
  unfold oY at aE;simp only[dJ]at aE;have u2:=List.all_eq_true.1 aE.1.2;intro hm;have:47∈body s:=by
   unfold body;split
   ·rename_i r;rcases List.mem_cons.1 hm with e|e
    ·cases e
    ·exact e
   ·exact hm
  have:=u2 47 this;simp[isDigit]at this
 unfold jR;rw[aIT AR];simp
theorem aGE{n:bb}{o:Nat}(a6:o<20)(e:n.op=(o:Int))(aq:rn n=0):cd (BP n o) 13=zT n:=by
 have CO:n.sort.isEmpty=decide (n.sort=[]):=by cases n.sort<;>simp
 unfold zT;congr 1;unfold BP;unfold rn at aq;rw[e]at aq⊢
 match o,a6 with
 |2,_=>
  simp only[k4,qt]at aq⊢;have aq:(decide (d9 n.name=0)||decide (jR n.name=0))=true:=by
   cases aM:(decide (d9 n.name=0)||decide (jR n.name=0))with
   |true=>rfl
   |false=>simp[aM,cd]at aq
  have bV:zk≠Bq:=by decide
  by_cases ai:d9 n.name=0
  ·have aI:=aIU ai;by_cases h1:n.sort=zk
   ·have:¬n.sort=Bq:=by rw[h1];exact bV
    simp[isNum,ai,aI,h1,bV]
   ·by_cases ae:n.sort=Bq
    ·simp[isNum,ai,aI,h1,ae,bV.symm]
    ·simp[isNum,ai,aI,h1,ae]
  ·have aI:jR n.name=0:=by simpa[ai]using aq
   by_cases h1:n.sort=zk
   ·simp[isNum,ai,aI,h1,bV]
   ·by_cases ae:n.sort=Bq
    ·simp[isNum,ai,aI,h1,ae,bV.symm]
    ·simp[isNum,ai,aI,h1,ae]
 |0,_=>simp[k4,mb];rfl
 |1,_=>simp[k4,mb];rfl
 |3,_=>simp[k4,CO]
 |4,_=>simp[k4,CO]
 |5,_=>simp[k4,mb];rfl
 |6,_=>simp[k4,mb];rfl
 |7,_=>simp[k4,mb];rfl
 |8,_=>simp[k4,mb];rfl
 |9,_=>simp[k4,mb];rfl
 |10,_=>simp[k4,CO]
 |11,_=>simp[k4,mb];rfl
 |12,_=>simp[k4]
 |13,_=>simp[k4]
 |14,_=>simp[k4]
 |15,_=>simp[k4,mb];rfl
 |16,_=>simp[k4,mb];rfl
 |17,_=>simp[k4,mb];rfl
 |18,_=>simp[k4,mb];rfl
 |19,_=>simp[k4,CO]
 |o+20,h=>omega
end
abbrev G8:=@Classical.not_not
section
open Form
variable {J:Prog}[ak J]{a:H}
def r4(t:List bb):Prop:=∀(i:Nat) (n:bb),t[i]?=some n->s0 n.name/\∀v∈n.vars,s0 v.1
theorem asN(hP:ta J)(dP:s4 J a)[bP:aK a]{v:V}{t:List bb}{S W:Nat->V}(aU:fc a v t S W)(au:t.length<1000000)(aA:r4 t){aJ:H}[ca:aK aJ][eZ:aj a aJ]{cB bU fN:P}{I:Fr}{k:c4}
  (f1:I.gt 1=.ptr cB 0 0 1) (cq:I.gt 2=.ptr bU 0 0 1) (uQ:I.gt 22=.fn (.func 327) [] [.ptr fN 0 0 1]) (_:dp cB bU) (_:dp fN bU) (_:eC bU a)
  (aN:aJ.get cB=some (.af [v] 52)) (bd:aJ.get bU=some (.af [.ad 0] 28)) (lC:aJ.get fN=some (.af [v] 52))
  (tt:∀aa,aj a aa->aa.get cB=some (.af [v] 52) ->aa.get bU=some (.af [.ad 0] 28) ->np t (dN t []) 0 t=0->(∀i,i<t.length->pI t i) ->k.run J (.norm ⟨I,[],aa⟩))
  (ht:∀aa,aj a aa->aa.get bU=some (.af [.ad (np t (dN t []) 0 t)] 28) ->np t (dN t []) 0 t≠0->k.run J (.ret ⟨I,[],aa⟩)):dA J akP ⟨I,[],aJ⟩ k:=by
 have fZ:=aP aN;have dD:=aP bd;have on:=aP lC;unfold akP;refine Le (α:=Unit) (β:=Int) (amk (b:=fN) (ty:=52) aU (by omega)) (by simp only[go_sem,seval,uQ]) a
  (fun i _=>[(cB,.af [v] 52),(bU,.af [.ad 0] 28),(fN,.af [v] 52),(aJ.next,.loop .ready none I [(a0 23)] Gy Gz)])
  (fun i _=>np t (dN t []) 0 t=np t (dN t []) i (t.drop i)/\∀j,j<i->pI t j)
  (fun e=>[(bU,.af [.ad e] 28),(aJ.next,.loop .done (some .ret) I [(a0 23)] Gy Gz)]) (fun e=>e=np t (dN t []) 0 t/\e≠0) ?_ ?_ ?_ ?_ ?_
 ·intro m x aa bR _ G _;exact⟨bR,G.2.2.1⟩
 ·exact⟨an,(),⟨by simp only[j9,aN],by simp only[j9,bd],by simp only[j9,lC],ef,trivial⟩,by rw[iL],fun j a5=>by omega⟩
 ·intro i x aa ai bR ch G ⟨he,iE⟩ d os aQ gG yV U a3;obtain⟨bj,a8,eh,ea,_⟩:=G;have e5:=aP bj;have cO:=aP a8;have Md:=aP eh;have pl:=aP ea;obtain⟨n,aq⟩:=bI ai;have r:=aU.row i n aq;obtain⟨hz,j6⟩:=aA i n aq;rw[en aq]at he;have he:np t (dN t []) 0 t=if mB t (dN t []) i n=0 then np t (dN t []) (i+1) (t.drop (i+1))else mB t (dN t []) i n:=he;have bad:∀(gr:H) (e:Int),aj a gr->gr.get bU=some (.af [.ad e] 28) ->gr.get aJ.next=some (.loop .done (some .ret) I [(a0 23)] Gy Gz) ->mB t (dN t []) i n=e->e≠0->fu J os (cX d (.bool false) aQ) gr gG yV:=fun gr e S7 o5 uD aN bd=>by
   refine a3 gr S7 ⟨e,⟨o5,uD,trivial⟩,?_,bd⟩;rw[he,aN,bf bd]
  show oL J (.jk aJ.next) [KW t S W i] aa d os aQ gG yV;rw[YM aq];refine Ec (aa:=aa.new (.af [.ad n.op,.str n.sort,.str n.name,S i,W i,.ad (i:Nat)] 278)) ea rfl (by simp only[Gy,go_sem,seval,l2,jV];rfl) (by simp only[go_sem,seval,ea]) ?_;by_cases kG:n.op<0
  ·have bV:mB t (dN t []) i n=11:=by unfold mB;simp[kG,cd,cm]
   simp only[t9,r3,go_sem,seval,f1,cq,bj,a8,kG,jV];refine ug (by simp only[go_sem,seval];rfl) (bad _ 11 an ?_ ?_ bV (by decide))<;>simp only[go_sem,seval]
  by_cases vJ:20<=n.op
  ·have bV:mB t (dN t []) i n=11:=by unfold mB;simp[vJ,cd,cm]
   simp only[t9,r3,go_sem,seval,f1,cq,bj,a8,kG,vJ,jV];refine ug (by simp only[go_sem,seval];rfl) (bad _ 11 an ?_ ?_ bV (by decide))<;>simp only[go_sem,seval]
  obtain⟨o,a6⟩:∃o:Nat,n.op=o:=⟨n.op.toNat,by omega⟩;have lO:o<20:=by omega
  have wt:¬((o:Int)<0):=by omega
  have wu:¬(20<=(o:Int)):=by omega
  have c1:=ajz (J:=J) (a:=a);have C3:=aK1 (n:=n) o lO a6;have uT:=r.kids.a2;rw[c7]at uT;have c2:=awO (J:=J) aU aq (by omega) iE;have ajB:l2 n (S i) (W i) i=.agg [.ad (o:Int),.str n.sort,.str n.name,S i,W i,.ad (i:Nat)]:=by unfold l2;rw[a6]
  have p3:Int.negSucc 1=-2:=rfl;have mK:((n.kids.length:Nat):Int)=0↔n.kids.length=0:=by omega
  by_cases DJ:¬Form.shape n=true
  ·have bV:mB t (dN t []) i n=2:=by unfold mB;simp[kG,vJ,DJ,cd,cm]
   rw[C3,G8]at DJ;rcases DJ with⟨fa,bW⟩|⟨fa,bW⟩
   ·simp only[t9,r3,go_sem,seval,f1,cq,bj,a8,a6,wt,wu,vo,c1.cl,c1.bL,vn o lO,wZ o lO,uT,fa,bW,jV];refine ug (by simp only[go_sem,seval];rfl) (bad _ 2 an ?_ ?_ bV (by decide))<;>simp only[go_sem,seval]
   ·have il:¬(0<=(-2:Int)):=by decide
    simp only[t9,r3,go_sem,seval,f1,cq,bj,a8,a6,wt,wu,vo,c1.cl,c1.bL,vn o lO,wZ o lO,uT,fa,bW,il,p3,mK,jV];refine ug (by simp only[go_sem,seval];rfl) (bad _ 2 an ?_ ?_ bV (by decide))<;>simp only[go_sem,seval]
  ·rw[G8]at DJ;have akS:=C3.1 DJ;rw[ajB]at c2;have ajC:ordered (dN t []) i n=true->pI t i:=fun q m hm=>by rw[aq]at hm;cases hm;exact q
   have dF:=fun q=>awP (J:=J) aU aq (by omega) (ajC q);have fs:=axG (J:=J) (a:=a) (s:=S i) (w:=W i) (i:=i) hP dP hz;have jY:=axA (J:=J) (i:=i) r hP j6;have qK:=axy (J:=J) (a:=a) (s:=S i) (w:=W i) (i:=i) r.vars.cell r.kids.cell a6 lO hz.1;rw[ajB]at dF fs jY qK;have FE:V.same (S i) (S i)=true:=fK r.vars;have FF:V.same (W i) (W i)=true:=fK r.kids;have Wd:ordered (dN t []) i n=false->mB t (dN t []) i n=9:=fun q=>by unfold mB;simp[kG,vJ,DJ,q,cd,cm]
   have Gh:ordered (dN t []) i n=true->mB t (dN t []) i n=cm [cd (!s9 t n) 11,rn n,mA n,cd (BP n o) 13]:=fun q=>by
    have bA:mB t (dN t []) i n=cm [cd (!s9 t n) 11,rn n,mA n,zT n]:=by unfold mB;simp[kG,vJ,DJ,q,cd,cm]
    rw[bA];by_cases aX:rn n=0
    ·rw[aGE lO a6 aX]
    ·simp only[cm,bf aX]
   have S8:ordered (dN t []) i n=false->aS J a 207 [v,.agg [.ad (o:Int),.str n.sort,.str n.name,S i,W i,.ad (i:Nat)]] (.bool false):=fun q=>by rw[q]at c2;exact c2
   have FG:ordered (dN t []) i n=true->aS J a 207 [v,.agg [.ad (o:Int),.str n.sort,.str n.name,S i,W i,.ad (i:Nat)]] (.bool true):=fun q=>by rw[q]at c2;exact c2
   have We:∀gr,aj a gr->gr.get cB=some (.af [v] 52) ->gr.get bU=some (.af [.ad 0] 28) ->gr.get fN=some (.af [v] 52) ->gr.get aJ.next=some (.loop .ready none I [(a0 23)] Gy Gz) ->mB t (dN t []) i n=0->ordered (dN t []) i n=true->fu J os (cX d (.bool true) aQ) gr gG yV:=fun gr S7 tr o5 z8 uD aN bd=>by
    refine U gr S7 ⟨(),⟨tr,o5,z8,uD,trivial⟩,by rw[he,bl aN],fun j a5=>?_⟩;rcases dz j i with q|q
    ·exact iE j q
    ·have:j=i:=by omega
     subst this;exact ajC bd
   have axH:(0<=jT o/\(n.kids.length:Int)=jT o/\¬jT o=-2)\/(jT o=-2/\¬n.kids.length=0)\/(¬0<=jT o/\¬jT o=-2):=by
    by_cases fa:0<=jT o
    ·exact .inl ⟨fa,Classical.byContradiction fun q=>akS (.inl ⟨fa,q⟩),by omega⟩
    ·by_cases c3:jT o=-2
     ·exact .inr (.inl ⟨c3,fun q=>akS (.inr ⟨c3,q⟩)⟩)
     ·exact .inr (.inr ⟨fa,c3⟩)
   have il:¬(0<=(-2:Int)):=by decide
   rcases axH with⟨fa,bW,c3⟩|⟨fa,bW⟩|⟨fa,bW⟩
   ·cases hj:ordered (dN t []) i n with
    |false=>
     simp only[t9,r3,go_sem,seval,f1,cq,bj,a8,a6,wt,wu,vo,c1.cl,c1.bL,vn o lO,wZ o lO,uT,fa,bW,c3,p3,(S8 hj).cl,jV];refine ug (by simp only[go_sem,seval];rfl) (bad _ 9 an ?_ ?_ (Wd hj) (by decide))<;>simp only[go_sem,seval]
    |true=>
     by_cases aX:cm [cd (!s9 t n) 11,rn n,mA n,cd (BP n o) 13]=0
     ·simp only[t9,r3,go_sem,seval,f1,cq,bj,a8,a6,wt,wu,vo,c1.cl,c1.bL,vn o lO,wZ o lO,uT,fa,bW,c3,p3,(FG hj).cl,(dF hj).cl,(dF hj).bL,fs.bL,jY.bL,qK.bL,FE,FF,fK aU.ag,Ho,Hn,aX,jV];refine x6 (by simp only[go_sem,seval];rfl) (We _ an ?_ ?_ ?_ ?_ (by rw[Gh hj];exact aX) hj)<;>simp only[go_sem,seval,bj,a8,eh]
     ·simp only[t9,r3,go_sem,seval,f1,cq,bj,a8,a6,wt,wu,vo,c1.cl,c1.bL,vn o lO,wZ o lO,uT,fa,bW,c3,p3,(FG hj).cl,(dF hj).cl,(dF hj).bL,fs.bL,jY.bL,qK.bL,FE,FF,fK aU.ag,Ho,Hn,aX,jV];refine ug (by simp only[go_sem,seval];rfl) (bad _ _ an ?_ ?_ (Gh hj) aX)<;>simp only[go_sem,seval,a8]
   ·cases hj:ordered (dN t []) i n with
    |false=>
     simp only[t9,r3,go_sem,seval,f1,cq,bj,a8,a6,wt,wu,vo,c1.cl,c1.bL,vn o lO,wZ o lO,uT,fa,bW,il,p3,mK,(S8 hj).cl,jV];refine ug (by simp only[go_sem,seval];rfl) (bad _ 9 an ?_ ?_ (Wd hj) (by decide))<;>simp only[go_sem,seval]
    |true=>
     by_cases aX:cm [cd (!s9 t n) 11,rn n,mA n,cd (BP n o) 13]=0
     ·simp only[t9,r3,go_sem,seval,f1,cq,bj,a8,a6,wt,wu,vo,c1.cl,c1.bL,vn o lO,wZ o lO,uT,fa,bW,il,p3,mK,(FG hj).cl,(dF hj).cl,(dF hj).bL,fs.bL,jY.bL,qK.bL,FE,FF,fK aU.ag,Ho,Hn,aX,jV];refine x6 (by simp only[go_sem,seval];rfl) (We _ an ?_ ?_ ?_ ?_ (by rw[Gh hj];exact aX) hj)<;>simp only[go_sem,seval,bj,a8,eh]
     ·simp only[t9,r3,go_sem,seval,f1,cq,bj,a8,a6,wt,wu,vo,c1.cl,c1.bL,vn o lO,wZ o lO,uT,fa,bW,il,p3,mK,(FG hj).cl,(dF hj).cl,(dF hj).bL,fs.bL,jY.bL,qK.bL,FE,FF,fK aU.ag,Ho,Hn,aX,jV];refine ug (by simp only[go_sem,seval];rfl) (bad _ _ an ?_ ?_ (Gh hj) aX)<;>simp only[go_sem,seval,a8]
   ·cases hj:ordered (dN t []) i n with
    |false=>
     simp only[t9,r3,go_sem,seval,f1,cq,bj,a8,a6,wt,wu,vo,c1.cl,c1.bL,vn o lO,wZ o lO,uT,fa,bW,p3,(S8 hj).cl,jV];refine ug (by simp only[go_sem,seval];rfl) (bad _ 9 an ?_ ?_ (Wd hj) (by decide))<;>simp only[go_sem,seval]
    |true=>
     by_cases aX:cm [cd (!s9 t n) 11,rn n,mA n,cd (BP n o) 13]=0
     ·simp only[t9,r3,go_sem,seval,f1,cq,bj,a8,a6,wt,wu,vo,c1.cl,c1.bL,vn o lO,wZ o lO,uT,fa,bW,p3,(FG hj).cl,(dF hj).cl,(dF hj).bL,fs.bL,jY.bL,qK.bL,FE,FF,fK aU.ag,Ho,Hn,aX,jV];refine x6 (by simp only[go_sem,seval];rfl) (We _ an ?_ ?_ ?_ ?_ (by rw[Gh hj];exact aX) hj)<;>simp only[go_sem,seval,bj,a8,eh]
     ·simp only[t9,r3,go_sem,seval,f1,cq,bj,a8,a6,wt,wu,vo,c1.cl,c1.bL,vn o lO,wZ o lO,uT,fa,bW,p3,(FG hj).cl,(dF hj).cl,(dF hj).bL,fs.bL,jY.bL,qK.bL,FE,FF,fK aU.ag,Ho,Hn,aX,jV];refine ug (by simp only[go_sem,seval];rfl) (bad _ _ an ?_ ?_ (Gh hj) aX)<;>simp only[go_sem,seval,a8]
 ·intro x aa bR _ ⟨bj,a8,eh,ea,_⟩ ⟨he,iE⟩;have pl:=aP ea;rw[EB ea];exact⟨by simp,tt _ an (by simp only[go_sem,seval,bj]) (by simp only[go_sem,seval,a8]) (by rw[he,fp];rfl) iE⟩
 ·intro e aa bR _ ⟨a8,ea,_⟩ ⟨he,bV⟩;have pl:=aP ea;rw[YZ ea];exact⟨by simp,ht _ an (by simp only[go_sem,seval,a8,<-he]) (by rw[<-he];exact bV)⟩
theorem S9(hP:ta J)(dP:s4 J a)[bP:aK a]{v:V}{t:List bb}{S W:Nat->V}(aU:fc a v t S W)(au:t.length<1000000)(aA:r4 t):aS J a 88 [v] (.ad (hQ t)):=by
 refine aS.bE ak.abC rfl fun h ca g=>?_;have lG:=aU.aO bP.ok g;have af:=fun b e=>Gd (J:=J) (a:=h) b e;have Nm:V.same v v=true:=fK aU.ag;have Wf:¬(10:Int)=0:=by decide
 have Ta:¬(5:Int)=0:=by decide
 have mK:((t.length:Nat):Int)=0↔t.length=0:=by omega
 by_cases av:t.length=0
 ·have he:hQ t=10:=by unfold hQ;rw[bl av]
  have xG:¬((2000:Int)<((t.length:Nat):Int)):=by omega
  simp only[Fk,go_sem,seval,lG.ag.box,lG.ag.a2,gj,mK,av,xG,(af _ _).cl,(af _ _).bL,cd,Nm,Hm,cm,Wf,he,Int.natCast_zero]
 by_cases xG:2000<t.length
 ·have he:hQ t=5:=by unfold hQ;rw[bf av,bl xG]
  have DK:((2000:Int)<((t.length:Nat):Int)):=by omega
  simp only[Fk,go_sem,seval,lG.ag.box,lG.ag.a2,gj,mK,av,DK,(af _ _).cl,(af _ _).bL,cd,Nm,Hm,cm,Ta,he]
 have DK:¬((2000:Int)<((t.length:Nat):Int)):=by omega
 simp only[Fk,go_sem,seval,lG.ag.box,lG.ag.a2,gj,mK,av,DK,(af _ _).cl,(af _ _).bL,cd,Nm,Hm,cm,(Ga v lG.ag.cell _).cl];refine asN hP (fun s aA=>(dP s aA).mono g) lG au aA (by simp only[go_sem,seval];rfl) (by simp only[go_sem,seval];rfl) (by simp only[go_sem,seval];rfl) (by exact an) (by exact an) (by exact an) (by simp only[go_sem,seval]) (by simp only[go_sem,seval]) (by simp only[go_sem,seval]) ?_ ?_
 ·intro aa bR bj a8 aX iE;have ch:=bR.bx;have e5:=aP bj;have cO:=aP a8;have he:hQ t=cm [cd (decide (lN t (t.length-1)≠0)) 9,cd (decide (q8 t ((t.length-1:Nat):Int)=19)) 11,cd (decide (60<((hW t [])[t.length-1]?).getD 0)) 24]:=by
   unfold hQ;rw[bf av,bf xG,bf (by rw[aX];simp)];rfl
  have nO:t.length-1<t.length:=by omega
  obtain⟨n,aq⟩:=bI nO;have hw:b8 .i64 ((t.length:Int) -1)=((t.length-1:Nat):Int):=pM (by omega) (by omega)
  have cs:=V3 (J:=J) lG nO (fun j a5=>iE j (by omega));have uF:=axF (J:=J) lG au (by omega) iE;have af:=fun b e=>Gd (J:=J) (a:=h) b e;have cw:=amf aq;have d1:(!decide (((lN t (t.length-1):Nat):Int)=0))=decide (lN t (t.length-1)≠0):=by
   by_cases q:lN t (t.length-1)=0
   ·simp[q]
   ·have:¬(((lN t (t.length-1):Nat):Int)=0):=by omega
    simp[q,this]
  have d2:decide ((60:Int)<((((hW t [])[t.length-1]?).getD 0:Nat):Int))=decide (60<((hW t [])[t.length-1]?).getD 0):=by apply decide_eq_decide.2;omega
  rw[cw]at he;have asO:=fun(aa:H) [aj h aa]=>lG.ag.hn (lG.at aq) (j:=0) (n:=1) (by decide) aa false;simp only[go_sem,seval,bj,a8,lG.ag.a2,gj,hw,lG.ag.addr (lG.lt nO),lG.ag.er (lG.lt nO),asO,cs.cl,cs.bL,uF.cl,uF.bL,(af _ _).cl,(af _ _).bL,d1,d2,Nm,aIO,aIN,he]
 ·intro aa bR a8 bV;have ch:=bR.bx;have he:hQ t=np t (dN t []) 0 t:=by
   unfold hQ;rw[bf av,bf xG,bl bV]
  simp only[go_sem,seval,a8,he]
theorem PV(x y:b9×b9):V.bin .neq (.agg [.bF,.bF]) (.agg [.str x.1,.str x.2]) (.agg [.str y.1,.str y.2])=some (.bool (!decide (x=y))):=by
 have e:V.bin .neq (.agg [.bF,.bF]) (.agg [.str x.1,.str x.2]) (.agg [.str y.1,.str y.2])=(match nn [.bF,.bF] [.str x.1,.str x.2] [.str y.1,.str y.2]with|some b=>some (.bool (!b))|none=>none):=rfl;rw[e];obtain⟨a,b⟩:=x;obtain⟨c,d⟩:=y;simp only[nn,ho.eq,PR,G6];by_cases h:a=c
 ·subst h;by_cases k:b=d<;>simp[k]
 ·simp[h]
theorem axK{v w:V}{l m:List Int}[aK a](s1:bB a v 1 (dH l))(s2:bB a w 1 (dH m))(au:l.length<1000000000):aS J a 523 [v,w] (.bool (decide (l=m))):=by
 refine aS.bE ak.aiW rfl fun h _ g=>?_;have vU:((l.length:Int)=(m.length:Int))↔l.length=m.length:=by omega
 by_cases hlen:¬l.length=m.length
 ·have bV:¬l=m:=fun e=>hlen (by rw[e]);simp only[VX,go_sem,seval,s1.a2,s2.a2,c7,vU,hlen,bV]
 ·rw[G8]at hlen;have jB:((l.length:Int)=(m.length:Int)):=by omega
  simp only[VX,go_sem,seval,s1.a2,s2.a2,c7,jB];refine dK l.length (fun i t=>∃I,t=⟨I,[],h⟩/\l.take i=m.take i/\I.gt 0=v/\I.gt 1=w/\I.gt 12=.ad (l.length:Nat)/\I.gt 13=.ad (i:Nat)) ?_ ?_ (dk _) ⟨_,rfl,rfl,?_,?_,?_,?_⟩
  ·rintro i t ai ⟨I,rfl,e,bA,aN,mn,ob⟩;obtain⟨x,ab⟩:=bI ai;obtain⟨y,ax⟩:=bI (l:=m) (i:=i) (by omega);have uP:i<(dH l).length:=by rw[c7];exact ai
   have m3:i<(dH m).length:=by rw[c7];omega
   have wq:i<9223372036854775807:=by omega
   by_cases fJ:x=y
   ·subst fJ;simp only[go_sem,seval,bA,aN,mn,ob,ai,s1.addr uP,s1.bM (gn ab),s2.addr m3,s2.bM (gn ax),V2,cG wq];refine⟨_,rfl,by rw[mU,mU,ab,ax,e],?_,?_,?_,?_⟩
    all_goals simp only[go_sem,seval,bA,aN,mn]
   ·have bV:¬l=m:=fun e=>by rw[e,ax]at ab;cases ab;exact fJ rfl
    have px:=fJ;simp only[go_sem,seval,bA,aN,mn,ob,ai,s1.addr uP,s1.bM (gn ab),s2.addr m3,s2.bM (gn ax),V2,fJ,bV]
  ·rintro t ⟨I,rfl,e,bA,aN,mn,ob⟩;have:l=m:=by rw[g5]at e;rw[e,hlen,g5]
   simp only[go_sem,seval,mn,ob,nW,this]
  all_goals simp only[go_sem,seval,jB]
theorem axL{v w:V}{l m:List (b9×b9)}[aK a](s1:bB a v 2 (hi l))(s2:bB a w 2 (hi m))(au:l.length<1000000000):aS J a 522 [v,w] (.bool (decide (l=m))):=by
 refine aS.bE ak.awf rfl fun h _ g=>?_;have vU:((l.length:Int)=(m.length:Int))↔l.length=m.length:=by omega
 by_cases hlen:¬l.length=m.length
 ·have bV:¬l=m:=fun e=>hlen (by rw[e]);simp only[VW,go_sem,seval,s1.a2,s2.a2,jd,vU,hlen,bV]
 ·rw[G8]at hlen;have jB:((l.length:Int)=(m.length:Int)):=by omega
  simp only[VW,go_sem,seval,s1.a2,s2.a2,jd,jB];refine dK l.length (fun i t=>∃I,t=⟨I,[],h⟩/\l.take i=m.take i/\I.gt 0=v/\I.gt 1=w/\I.gt 12=.ad (l.length:Nat)/\I.gt 13=.ad (i:Nat)) ?_ ?_ (dk _) ⟨_,rfl,rfl,?_,?_,?_,?_⟩
  ·rintro i t ai ⟨I,rfl,e,bA,aN,mn,ob⟩;obtain⟨x,ab⟩:=bI ai;obtain⟨y,ax⟩:=bI (l:=m) (i:=i) (by omega);have uP:i<(hi l).length:=by rw[jd];exact ai
   have m3:i<(hi m).length:=by rw[jd];omega
   have wq:i<9223372036854775807:=by omega
   by_cases fJ:x=y
   ·subst fJ;simp only[go_sem,seval,bA,aN,mn,ob,ai,s1.addr uP,s1.bM (nX ab),s2.addr m3,s2.bM (nX ax),PV,cG wq];refine⟨_,rfl,by rw[mU,mU,ab,ax,e],?_,?_,?_,?_⟩
    all_goals simp only[go_sem,seval,bA,aN,mn]
   ·have bV:¬l=m:=fun e=>by rw[e,ax]at ab;cases ab;exact fJ rfl
    have px:=fJ;simp only[go_sem,seval,bA,aN,mn,ob,ai,s1.addr uP,s1.bM (nX ab),s2.addr m3,s2.bM (nX ax),PV,fJ,bV]
  ·rintro t ⟨I,rfl,e,bA,aN,mn,ob⟩;have:l=m:=by rw[g5]at e;rw[e,hlen,g5]
   simp only[go_sem,seval,mn,ob,nW,this]
  all_goals simp only[go_sem,seval,jB]
abbrev eW(n:bb)(s w:V):V:=.agg [.ad n.op,.str n.sort,.str n.name,s,w]
theorem axM[bP:aK a]{n m:bb}{s w gk w':V}(je:qY a n s w)(dX:qY a m gk w'):aS J a 433 [eW n s w,eW m gk w'] (.bool (zJ n m)):=by
 refine aS.bE ak.aiF rfl fun h _ g=>?_;have cB:=je.hF;have bU:=je.ki;have c1:=axL (J:=J) je.vars dX.vars (by omega);have c2:=axK (J:=J) je.kids dX.kids (by omega);unfold zJ;by_cases h1:n.op=m.op
 ·by_cases ae:n.sort=m.sort
  ·by_cases az:n.name=m.name
   ·by_cases bo:n.vars=m.vars
    ·simp only[bo]at c1;simp only[Gc,eW,go_sem,seval,h1,ae,az,bo,c1.cl,c2.cl]
    ·simp only[bo]at c1;simp only[Gc,eW,go_sem,seval,h1,ae,az,bo,c1.cl]
   ·simp only[Gc,eW,go_sem,seval,h1,ae,az]
  ·simp only[Gc,eW,go_sem,seval,h1,ae]
 ·simp only[Gc,eW,go_sem,seval,h1]
theorem Y5:∀{t u:List bb},lR t u=true->t.length=u.length
 |[],[],_=>rfl
 |[],_::_,h=>by cases h
 |_::_,[],h=>by cases h
 |a::t,b::u,h=>by
  unfold lR at h;rw[dJ]at h;simp[Y5 h.2]
theorem axN[bP:aK a]{v dg:V}{t u:List bb}{S W cP cy:Nat->V}(fk:fc a v t S W)(k6:fc a dg u cP cy)(au:t.length<1000000000):aS J a 350 [v,dg] (.bool (lR t u)):=by
 have ce:aS J a 432 [v,dg,.fn (.func 433) [] []] (.bool (lR t u)):=by
  refine aS.bE ak.aiE rfl fun h ca g=>?_;have vU:((t.length:Int)=(u.length:Int))↔t.length=u.length:=by omega
  by_cases hlen:¬t.length=u.length
  ·have bV:lR t u=false:=by
    cases aM:lR t u with
    |false=>rfl
    |true=>exact absurd (Y5 aM) hlen
   simp only[VU,go_sem,seval,fk.ag.a2,k6.ag.a2,gj,vU,hlen,bV]
  ·rw[G8]at hlen;have jB:((t.length:Int)=(u.length:Int)):=by omega
   simp only[VU,go_sem,seval,fk.ag.a2,k6.ag.a2,gj,jB];refine dK t.length (fun i s=>∃I h1,s=⟨I,[],h1⟩/\aj h h1/\lR t u=lR (t.drop i) (u.drop i)/\I.gt 1=dg/\I.gt 2=.fn (.func 433) [] []/\I.gt 15=v/\I.gt 16=.ad (t.length:Nat)/\I.gt 17=.ad (i:Nat)) ?_ ?_ (dk _) ⟨_,_,rfl,an,rfl,?_,?_,?_,?_,?_⟩
   ·rintro i s ai ⟨I,h1,rfl,aB,e,aN,bd,Nq,Jn,FH⟩;have bW:=aB.bx;have Cb:=g.aG aB;obtain⟨n,aq⟩:=bI ai;obtain⟨m,hm⟩:=bI (l:=u) (i:=i) (by omega);have m3:i<u.length:=by omega
    have wq:i<9223372036854775807:=by omega
    have c:=axM (J:=J) (fk.row i n aq) (k6.row i m hm);rw[en aq,en hm]at e;have e:lR t u=(zJ n m&&lR (t.drop (i+1)) (u.drop (i+1))):=e;cases aA:zJ n m with
    |true=>
     rw[aA]at c e;simp only[go_sem,seval,aN,bd,Nq,Jn,FH,ai,fk.ag.addr (fk.lt ai),fk.ag.bM (fk.at aq),k6.ag.addr (k6.lt m3),k6.ag.bM (k6.at hm),c.cl,cG wq];refine⟨_,_,rfl,an,by rw[e,ju],?_,?_,?_,?_,?_⟩
     all_goals simp only[go_sem,seval,aN,bd,Nq,Jn]
    |false=>
     rw[aA,mg]at e;rw[aA]at c;simp only[go_sem,seval,aN,bd,Nq,Jn,FH,ai,fk.ag.addr (fk.lt ai),fk.ag.bM (fk.at aq),k6.ag.addr (k6.lt m3),k6.ag.bM (k6.at hm),c.cl,e]
   ·rintro s ⟨I,h1,rfl,aB,e,aN,bd,Nq,Jn,FH⟩;have bW:=aB.bx;have:lR t u=true:=by rw[e,fp,hlen,fp];rfl
    simp only[go_sem,seval,Jn,FH,nW,this]
   all_goals simp only[go_sem,seval,jB]
 refine aS.bE ak.ah9 rfl fun h _ g=>?_;simp only[ah8,go_sem,seval,ce.cl]
end
section
open Form
variable {J:Prog}[ak J][uz J]{a:H}
theorem aGG{c:Nat}(h:128<=c)(i:Nat):jm (hv.drop i) c=-1:=by
 rcases QL c (hv.drop i)with⟨h1,_⟩|⟨_,ae⟩
 ·have:=wN h1;simp at this;omega
 ·exact ae
omit [ak J] [uz J]in
theorem aGH{c:C}{s:eM}{k:c4}(h:dA J c s (.done fun o=>wF o (fun _=>False) (k.run J))):dA J (.loop c) s k:=
 dK 0 (fun _ t=>t=s) (fun i _ ai=>absurd ai (nV _)) (fun t e=>by subst e;exact h) (a1 0) rfl
theorem ajF(r:Nat)(aI:r<1114112):aS J a 453 [.str hv,.int .i32 (r:Nat)] (.ad (if r<128 then jm hv r else-1)):=by
 have av:(0:Int)<=(r:Int):=by omega
 by_cases h1:r<128
 ·rw[bl h1];refine aS.bE ak.Oy rfl fun h _ _=>?_;have aN:(r:Int)<128:=by omega
  have hw:b8 .u8 (r:Int)=(r:Int):=by rw[BV];simp[IntKind.wrap,IntKind.bits,IntKind.signed];omega
  simp only[Kk,go_sem,seval,av,aN,hw,(ajj (J:=J) (a:=h) hv r (by omega)).cl]
 ·rw[bf h1];have aN:¬(r:Int)<128:=by omega
  by_cases ae:r=65533
  ·refine aS.bE ak.Oy rfl fun h _ _=>?_;have bd:(r:Int)=65533:=by omega
   subst ae;simp only[Kk,go_sem,seval];refine lU (fun m t=>∃I h1 q pos,t=⟨I,[],h1⟩/\aj h h1/\m=q.length/\(∀c∈q,c<128)/\h1.get h.next=some (.mz q pos)/\I.gt 175=.ptr h.next 0 0 0) ?_ ⟨_,_,hv,0,rfl,an,rfl,by decide,ef,?_⟩
   ·rintro m t ⟨I,h1,q,pos,rfl,aB,rfl,a3,dr,Wg⟩;have bW:=aB.bx;have cL:=aP dr;cases q with
    |nil=>simp only[go_sem,seval,Wg,dr]
    |cons b q=>
     have ah:=a3 b (by simp);have bV:¬((b:Int)=65533):=by omega
     simp only[go_sem,seval,Wg,dr,EC ah,bV];exact⟨q.length,by simp,_,_,q,_,rfl,an,rfl,fun c U=>a3 c (by simp[U]),jt,by simp only[go_sem,seval,Wg]⟩
   ·simp only[go_sem,seval]
  ·have bd:¬(r:Int)=65533:=by omega
   obtain⟨b,Ad⟩:=awV (J:=J) (a:=a) r (by omega) aI;refine aS.bE ak.Oy rfl fun h _ _=>?_;cases b with
   |false=>
    simp only[Kk,go_sem,seval,av,aN,bd,Ad.cl]
   |true=>
    obtain⟨l,oC,k7,EO,fL⟩:=aGC r (by omega);have nO:l.length-1<l.length:=by omega
    obtain⟨z,aX⟩:=bI nO;obtain⟨i2,k8⟩:=fL z (c0 aX);obtain⟨y,ax⟩:=bI (l:=hv) (i:=l.length-1) (by simp;omega);have Su:y<128:=by have:=c0 ax;simp at this;omega
    have hw:b8 .i64 ((l.length:Int) -1)=((l.length-1:Nat):Int):=pM (by omega) (by omega)
    have CA:b8 .i64 (((l.length-1:Nat):Int)+1)=((l.length:Nat):Int):=by rw[gz (by omega) (by omega)];omega
    have ay:(((l.length-1:Nat):Int)<6):=by omega
    have MV:¬((y:Int)=(z:Int)):=by omega
    have rG:=Ev hv (n:=l.length) (by simp;omega);have asT:=aGG i2 l.length;have h3:=ajj (J:=J) (a:=h) (hv.drop l.length) z k8;rw[asT]at h3;have asU:∀(x:X) (I:Fr),(d5.UY x).f I=KI (x.a7 I):=fun _ _=>rfl;simp only[Kk,go_sem,seval,av,aN,bd,Ad.cl];refine YJ ?_;simp only[go_sem,seval,asU,oC,hw];refine aGH ?_;simp only[go_sem,seval,ay];refine YJ ?_;simp only[go_sem,seval,tN ax,tN aX,MV,CA,rG,h3.cl,h3.bL,jV];refine⟨fun l t e=>(by cases e),?_⟩;rw[aJR];simp only[go_sem,seval,jV];exact fun l t e=>(by cases e)
end
section
open Form
variable {J:Prog}[ak J][uz J]{a:H}
theorem aLu(b:Nat)(s:List Nat):∃c1 c2 dF,lS (b::s)=xU b c1 c2 dF ((kX (b::s) 1).getD 0) ((kX (b::s) 2).getD 0) ((kX (b::s) 3).getD 0)/\(c1=true->(kX (b::s) 1).getD 0/64=2)/\(c2=true->(kX (b::s) 2).getD 0/64=2)/\(dF=true->(kX (b::s) 3).getD 0/64=2):=by
 refine⟨Nat.blt 1 (b::s).length&&Nat.beq ((kX (b::s) 1).getD 0/64) 2,Nat.blt 2 (b::s).length&&Nat.beq ((kX (b::s) 2).getD 0/64) 2,Nat.blt 3 (b::s).length&&Nat.beq ((kX (b::s) 3).getD 0/64) 2,rfl,?_,?_,?_⟩<;>
  (intro h;rw[dJ]at h;exact dI h.2)
theorem amm(b:Nat)(c1 c2 dF:Bool)(bG ct dR:Nat):(xU b c1 c2 dF bG ct dR).2=1\/((xU b c1 c2 dF bG ct dR).2=2/\c1=true)\/((xU b c1 c2 dF bG ct dR).2=3/\c1=true/\c2=true)\/((xU b c1 c2 dF bG ct dR).2=4/\c1=true/\c2=true/\dF=true):=by
 unfold xU;split
 ·exact .inl rfl
 ·split
  ·rename_i h;rw[dJ]at h;split
   ·exact .inr (.inl ⟨rfl,h.2⟩)
   ·exact .inl rfl
  ·split
   ·rename_i h;rw[dJ,dJ]at h;split
    ·exact .inr (.inr (.inl ⟨rfl,h.1.2,h.2⟩))
    ·exact .inl rfl
   ·split
    ·rename_i h;rw[dJ,dJ,dJ]at h;split
     ·exact .inr (.inr (.inr ⟨rfl,h.1.1.2,h.1.2,h.2⟩))
     ·exact .inl rfl
    ·exact .inl rfl
theorem aLP{b:Nat}(h:128<=b)(s:List Nat):1<=(lS (b::s)).2/\∀(j c:Nat),j<(lS (b::s)).2->(b::s)[j]?=some c->128<=c:=by
 obtain⟨c1,c2,dF,e,h1,ae,az⟩:=aLu b s;have get:∀(j c:Nat),(b::s)[j]?=some c->(kX (b::s) j).getD 0=c:=fun j c U=>by rw[BH,U];rfl
 rw[e];have all:∀(n:Nat),n<=4->(2<=n->c1=true) ->(3<=n->c2=true) ->(4<=n->dF=true) ->∀(j c:Nat),j<n->(b::s)[j]?=some c->128<=c:=by
  intro n aq bW c3 fo j c a5 U
  match j,a5 with
  |0,_=>simp at U;omega
  |1,a5=>have:=h1 (bW (by omega));rw[get 1 c U]at this;omega
  |2,a5=>have:=ae (c3 (by omega));rw[get 2 c U]at this;omega
  |3,a5=>have:=az (fo (by omega));rw[get 3 c U]at this;omega
  |j+4,a5=>omega
 rcases amm b c1 c2 dF ((kX (b::s) 1).getD 0) ((kX (b::s) 2).getD 0) ((kX (b::s) 3).getD 0)with q|⟨q,bj⟩|⟨q,bj,a8⟩|⟨q,bj,a8,cc⟩<;>rw[q]
 ·exact⟨by omega,all 1 (by omega) (by omega) (by omega) (by omega)⟩
 ·exact⟨by omega,all 2 (by omega) (fun _=>bj) (by omega) (by omega)⟩
 ·exact⟨by omega,all 3 (by omega) (fun _=>bj) (fun _=>a8) (by omega)⟩
 ·exact⟨by omega,all 4 (by omega) (fun _=>bj) (fun _=>a8) (fun _=>cc)⟩
def nf:List Nat->List V->List V
 |[],l=>l
 |c::cs,l=>nf cs (l.set c (.bool true))
theorem Qu:∀(cs:List Nat) (l:List V),(nf cs l).length=l.length
 |[],_=>rfl
 |c::cs,l=>by rw[nf,Qu cs];simp
theorem Yl:∀(cs:List Nat) (l:List V) (b:Nat) (x:Bool),l[b]?=some (.bool x) ->(nf cs l)[b]?=some (.bool (x||decide (b∈cs)))
 |[],l,b,x,h=>by simp[nf,h]
 |c::cs,l,b,x,h=>by
  have ah:b<l.length:=by
   rcases dz b l.length with q|q
   ·exact q
   ·rw[ei q]at h;cases h
  unfold nf;by_cases e:c=b
  ·subst e;rw[Yl cs _ c true (by rw[Qc ah])];simp
  ·rw[Yl cs _ b x (by rw[List.getElem?_set_ne e];exact h)];have:¬b=c:=fun q=>e q.symm;simp[this]
theorem anY:∀(cs:List Nat) (c:Nat) (l:List V),nf (cs++[c]) l=(nf cs l).set c (.bool true)
 |[],_,_=>rfl
 |d::cs,c,l=>anY cs c _
abbrev rY:List V:=List.replicate 256 (.bool false)
theorem anZ(f:P)(k:IntKind)(x:Nat)(h:x<256):zF 1 256 (.ptr f 0 0 256) (.int k (x:Nat))=some (.ptr f 0 x 1):=by
 have e:Nat.blt x 256=true:=by rw[lv];exact h
 simp[zF,qx,e]
theorem aEe(x:X)(I:Fr):(d5.Xx x).f I=JU (.c (x.a7 I)) Fr.e:=rfl
theorem aGI(f:P)(k o r:Nat):JU (.c (.ptr f k o r)) Fr.e=some (.ptr f k o r):=rfl
theorem aKf{xs:List V}{n:Nat}(h:xs.length=n)(md:kN)(ty:TypeId):ec (some (.cells xs 0 0 md ty)) true n 0 0 n=some (.agg xs):=by
 rw[um _ _ _ _ _ _ _ (a1 _),td (by omega),iL,kM (by omega)];rfl
end
abbrev sf:=@Bool.false_or
section
open Form
variable {J:Prog}[ak J][uz J]{a:H}
def AS(i:Nat):List V:=nf (hv.take i) rY
theorem Oz(h:H):oi J 455 [.str hv] h (.bk [.agg (nf hv rY),.bool true]) (h.new (.af (nf hv rY) 485)):=by
 refine(ya (ak.Oz.2 _ _) ak.Oz.1 rfl ?_).is;simp only[aiK,go_sem,seval,YG];refine dK 6 (fun i t=>∃I,t=⟨I,[],h.new (.af (AS i) 485)⟩/\I.gt 0=.str hv/\I.gt 2=.ptr h.next 0 0 256/\I.gt 4=.ad (i:Nat)) ?_ ?_ (dk _) ⟨_,rfl,?_,?_,?_⟩
 ·rintro i t ai ⟨I,rfl,bA,bd,fY⟩;obtain⟨x,ab⟩:=bI (l:=hv) (i:=i) (by simpa using ai);have yN:x<128:=by have:=c0 ab;simp at this;omega
  have dM:((i:Int)<6):=by omega
  have axO:¬((128:Int)<=(x:Int)):=by omega
  have wq:i<9223372036854775807:=by omega
  have mm:=GQ (AS i) 485 (h.new (.af (AS i) 485)) h.next x (by unfold AS;rw[Qu];simp;omega) (.bool true) rfl
  have Nr:AS (i+1)=(AS i).set x (.bool true):=by unfold AS;rw[mU,ab];exact anY _ _ _
  simp only[eH,kz]at mm;simp only[go_sem,seval,YG,bA,bd,fY,dM,tN ab,axO,anZ _ _ x (by omega),mm,cG wq];refine⟨_,by rw[Nr],?_,?_,?_⟩
  all_goals simp only[go_sem,seval,bA,bd]
 ·rintro t ⟨I,rfl,bA,bd,fY⟩;have au:(nf hv rY).length=256:=by rw[Qu];simp
  have aN5:¬((6:Int)<6):=by decide
  have bp:AS 6=nf hv rY:=rfl;simp only[go_sem,seval,bA,bd,fY,bp,aKf au,pL _ _ _ _ 256 256 (a1 _) (.agg (nf hv rY)) au au]
 all_goals simp only[go_sem,seval,List.length_replicate]
 all_goals rfl
theorem axP[bP:aK a]{f:P}(dr:a.get f=some (.af (nf hv rY) 485)){b:Nat}(ah:b<256):aS J a 456 [.ptr f 0 0 256,.int .u8 (b:Nat)] (.bool (decide (b∈hv))):=by
 refine aS.bE ak.aiM rfl fun h _ g=>?_;have asV:=g.at dr;have ab:=Yl hv rY b false (by simp[ah]);rw[sf]at ab;have q:=vg ab 485 .rw;simp only[eH,kz]at q;simp only[aiL,go_sem,seval,aEe,aGI,YG,anZ _ _ b ah,asV,q]
end
abbrev uk:=@Bool.true_or
section
open Form
variable {J:Prog}[ak J][uz J]{a:H}
def ng:List Nat->Nat->Int
 |[],_=>-1
 |c::r,i=>if c∈hv then(i:Int)else ng r (i+1)
theorem am5:∀(s:List Nat) (i:Nat),decide (0<=ng s i)=s.any fun c=>decide (c∈hv)
 |[],_=>rfl
 |c::r,i=>by
  rw[yc];by_cases h:c∈hv
  ·have e:ng (c::r) i=(i:Int):=by unfold ng;rw[bl h]
   have:(0:Int)<=(i:Int):=by omega
   rw[e];simp only[this,h,hX,uk]
  ·have e:ng (c::r) i=ng r (i+1):=by rw[ng];rw[bf h]
   rw[e,am5 r];simp only[h,qw,sf]
theorem an0:∀(n:Nat) (r:List Nat) (i:Nat),n<=r.length->(∀(j c:Nat),j<n->r[j]?=some c->128<=c) ->ng r i=ng (r.drop n) (i+n)
 |0,r,i,_,_=>rfl
 |n+1,[],i,h,_=>by simp at h
 |n+1,c::r,i,h,hk=>by
  have U:=hk 0 c (by omega) rfl;have aq:¬c∈hv:=fun q=>by simp at q;omega
  rw[ng,bf aq,an0 n r (i+1) (by simp at h;omega) fun j d a5 a3=>hk (j+1) d (by omega) (by simpa using a3),Yf];congr 1;omega
theorem aBz(b:Nat)(s:List Nat):(lS (b::s)).2<=(b::s).length:=by
 have bW:∀(k:Nat),Nat.blt k (b::s).length=true->k<(b::s).length:=fun k h=>by rwa[lv]at h
 have e:∃bG ct dR,lS (b::s)=xU b (Nat.blt 1 (b::s).length&&Nat.beq (bG/64) 2) (Nat.blt 2 (b::s).length&&Nat.beq (ct/64) 2) (Nat.blt 3 (b::s).length&&Nat.beq (dR/64) 2) bG ct dR:=⟨(kX (b::s) 1).getD 0,(kX (b::s) 2).getD 0,(kX (b::s) 3).getD 0,rfl⟩;obtain⟨bG,ct,dR,e⟩:=e;rw[e];rcases amm b (Nat.blt 1 (b::s).length&&Nat.beq (bG/64) 2) (Nat.blt 2 (b::s).length&&Nat.beq (ct/64) 2) (Nat.blt 3 (b::s).length&&Nat.beq (dR/64) 2) bG ct dR with q|⟨q,bj⟩|⟨q,bj,a8⟩|⟨q,bj,a8,cc⟩<;>rw[q]
 ·simp
 ·rw[dJ]at bj;have:=bW 1 bj.1;omega
 ·rw[dJ]at a8;have:=bW 2 a8.1;omega
 ·rw[dJ]at cc;have:=bW 3 cc.1;omega
theorem axQ(n:Int):aS J a 454 [.ad n] (.bool (decide (8<n))):=by
 refine aS.bE ak.aiJ rfl fun h _ _=>?_;simp only[aiI,go_sem,seval,-List.reduceReplicate]
theorem axR(s:b9)(ok:s0 s):aS J a 367 [.str s,.str hv] (.ad (ng s 0)):=by
 refine aS.bE ak.awe rfl fun h _ _=>?_;obtain⟨aN6,asW⟩:=ok;have cs:=axQ (J:=J) (a:=h) (s.length:Int);have ac0:¬((6:Int)=1):=by decide
 have ac1:¬(hv=[]):=by decide
 by_cases fU:(8:Int)<(s.length:Int)
 ·simp only[fU,hX]at cs;have au:(nf hv rY).length=256:=by rw[Qu];simp
  simp only[VO,go_sem,seval,-List.reduceReplicate,ac1,ac0,cs.cl,(Oz _).cl,pL _ _ _ _ 256 256 (a1 _) (.agg (nf hv rY)) au (List.length_replicate ..),List.length_replicate];obtain⟨H1,cR⟩:∃H1:H,H1=(((cg cs h an).new (.af (nf hv rY) 485)).new (.af (nf hv rY) 485)):=⟨_,rfl⟩
  have dr:H1.get (((cg cs h an).new (.af (nf hv rY) 485)).next)=some (.af (nf hv rY) 485):=by rw[cR];exact ef
  have v3:aj h H1:=by rw[cR];exact an
  rw[<-cR];have ac2:=v3.bx;refine dK s.length (fun i t=>∃I h1,t=⟨I,[],h1⟩/\aj H1 h1/\ng s 0=ng (s.drop i) i/\I.gt 0=.str s/\I.gt 6=.ptr (((cg cs h an).new (.af (nf hv rY) 485)).next) 0 0 256/\I.gt 8=.ad (i:Nat)) ?_ ?_ (dk _) ⟨_,_,rfl,an,rfl,?_,?_,?_⟩
  ·rintro i t ai ⟨I,h1,rfl,aB,he,bA,eI,gL⟩;have bW:=aB.bx;obtain⟨x,ab⟩:=bI ai;have yN:x<256:=asW x (c0 ab);have ay:((i:Int)<(s.length:Int)):=by omega
   have wq:i<9223372036854775807:=by omega
   have fx:=axP (J:=J) dr yN;have a3:s.drop i=x::s.drop (i+1):=en ab;rw[a3,ng]at he;by_cases hm:x∈hv
   ·rw[bl hm]at he;simp only[hm,hX]at fx;have:aj h h1:=v3.aG aB;simp only[go_sem,seval,-List.reduceReplicate,bA,eI,gL,ay,tN ab,fx.cl,he]
   ·rw[bf hm]at he;simp only[hm,qw]at fx;simp only[go_sem,seval,-List.reduceReplicate,bA,eI,gL,ay,tN ab,fx.cl,cG wq];exact⟨_,_,rfl,an,he,by simp only[go_sem,seval,-List.reduceReplicate,bA],by simp only[go_sem,seval,-List.reduceReplicate,eI],by simp only[go_sem,seval,-List.reduceReplicate]⟩
  ·rintro t ⟨I,h1,rfl,aB,he,bA,eI,gL⟩;have ay:¬((s.length:Int)<(s.length:Int)):=by omega
   rw[fp]at he;have:aj h h1:=v3.aG aB;simp only[go_sem,seval,-List.reduceReplicate,bA,eI,gL,ay];rw[he];rfl
  all_goals simp only[go_sem,seval,-List.reduceReplicate]
 ·simp only[fU,qw]at cs;simp only[VO,go_sem,seval,-List.reduceReplicate,ac1,ac0,cs.cl];refine lU (fun m t=>∃I h1 r pos,t=⟨I,[],h1⟩/\aj h h1/\m=r.length/\ng s 0=ng r pos/\h1.get (cg cs h an).next=some (.mz r pos)/\eC (cg cs h an).next h/\I.gt 1=.str hv/\I.gt 45=.ptr (cg cs h an).next 0 0 0) ?_ ⟨_,_,s,0,rfl,an,rfl,rfl,ef,an,?_,?_⟩
  ·rintro m t ⟨I,h1,r,pos,rfl,aB,rfl,he,dr,Ro,aN,FI⟩;have bW:=aB.bx;have cL:=aP dr;cases r with
   |nil=>
    have he:ng s 0=-1:=he;simp only[go_sem,seval,-List.reduceReplicate,FI,dr,he]
   |cons b r=>
    by_cases ah:b<128
    ·have jz:=ajF (J:=J) (a:=h) b (by omega);rw[bl ah]at jz;rcases QL b hv with⟨h1,ae⟩|⟨h1,ae⟩
     ·have he:ng s 0=(pos:Int):=by rw[he,ng,bl h1]
      simp only[go_sem,seval,-List.reduceReplicate,aN,FI,dr,EC ah,jz.cl,ae,he]
     ·have he:ng s 0=ng r (pos+1):=by rw[he,ng,bf h1]
      rw[ae]at jz;have Jd:¬((0:Int)<=-1):=by decide
      simp only[go_sem,seval,-List.reduceReplicate,aN,FI,dr,EC ah,jz.cl,Jd];exact⟨r.length,by simp,_,_,r,_,rfl,an,rfl,he,by simp only[go_sem,seval,-List.reduceReplicate],Ro,by simp only[go_sem,seval,-List.reduceReplicate,aN],by simp only[go_sem,seval,-List.reduceReplicate,FI]⟩
    ·obtain⟨d1,d2⟩:=aot (show 128<=b by omega) r;obtain⟨i2,k8⟩:=aLP (show 128<=b by omega) r;have eN:=aBz b r;have jz:=ajF (J:=J) (a:=h) (lS (b::r)).1 d2;rw[bf (by omega)]at jz;have Jd:¬((0:Int)<=-1):=by decide
     have he:=he.trans (an0 (lS (b::r)).2 (b::r) pos eN k8);simp only[go_sem,seval,-List.reduceReplicate,aN,FI,dr,jz.cl,Jd];exact⟨((b::r).drop (lS (b::r)).2).length,by rw[jG];simp at eN⊢;omega,_,_,_,_,rfl,an,rfl,he,by simp only[go_sem,seval,-List.reduceReplicate],Ro,by simp only[go_sem,seval,-List.reduceReplicate,aN],by simp only[go_sem,seval,-List.reduceReplicate,FI]⟩
  all_goals simp only[go_sem,seval,-List.reduceReplicate]
end
abbrev tf:=@List.not_mem_nil
abbrev sg:=@or_false
abbrev ye:=@List.all_cons
section
open Form
variable {J:Prog}[ak J][uz J]{a:H}
theorem axS(s:b9)(ok:s0 s):aS J a 268 [.str s,.str hv] (.bool (s.any fun c=>decide (c∈hv))):=by
 refine aS.bE ak.aht rfl fun h _ _=>?_;have c:=axR (J:=J) (a:=h) s ok;simp only[ahs,go_sem,seval,c.cl,am5]
theorem aKg(s:b9): plain s=(!s.isEmpty&&decide (s.length<=200)&&!(s.any fun c=>decide (c∈hv))):=by
 unfold plain;congr 1
 induction s with
 |nil=>rfl
 |cons c s ih=>
  have e:(!(c==32||c==10||c==40||c==41||c==123||c==125))=!decide (c∈hv):=by
   congr 1;simp only[hv,lT,tf,sg,Bool.decide_or,Bool.or_assoc];rfl
  rw[ye,e,ih,yc,Bool.not_or]
theorem axT(s:b9)(ok:s0 s):aS J a 143 [.str s] (.bool (plain s)):=by
 refine aS.bE ak.agf rfl fun h _ _=>?_;have c:=axS (J:=J) (a:=h) s ok;have bV:s.isEmpty=decide (s=[]):=by cases s<;>simp
 rw[aKg,bV];by_cases av:s=[]
 ·simp only[Oh,go_sem,seval,av]
 ·by_cases ae:s.length<=200
  ·have p9:((s.length:Int)<=200):=by omega
   simp only[Oh,go_sem,seval,av,ae,p9,c.cl]
  ·have p9:¬((s.length:Int)<=200):=by omega
   simp only[Oh,go_sem,seval,av,ae,p9]
theorem alO:ta J:=fun _ s ok=>axT s ok
end
end Go.ao
