/- A part of the proof that ProofForms holds for every input. -/
import Derived.ChangeArms
import Derived.ChangeSame
import Derived.DataReads
import Derived.Test.YtphcmfmpbndkbaaGreatDoorProg
import Derived.KernelRfl
import Derived.Test.YtphcmfmpbndkbaaGreatDoorRows
import Derived.LaidHandle
import Derived.LaidMore
import Derived.LaidSub
import Derived.OpenShut
import Derived.ProofKit
import Derived.HandedShaped
import Derived.Shelf.Vars
import Derived.Test.YtphcmfmpbndkbaaGreatDoorQ02
set_option maxRecDepth 100000
set_option maxHeartbeats 4000000
set_option linter.all false
noncomputable section
namespace Go.ao
section
variable {p:Program}
def afF:kN->kN->Bool
 |.rw,.rw|.lW,.lW|.ro,.ro=>true
 |_,_=>false
def P6:List (V×V×Nat) ->List (V×V×Nat) ->Bool
 |[],[]=>true
 |(a,b,c)::xs,(d,e,f)::cV=>V.same a d&&V.same b e&&Nat.beq c f&&P6 xs cV
 |_,_=>false
def P7:List Nat->List Nat->Bool
 |[],[]=>true
 |a::xs,b::cV=>Nat.beq a b&&P7 xs cV
 |_,_=>false
def O.same:O->O->Bool
 |.cells xs v d m t,.cells cV dg o4 c8 h0=>V.py xs cV&&Nat.beq v dg&&Nat.beq d o4&&afF m c8&&Nat.beq t h0
 |.map es c,.map jA fT=>P6 es jA&&Nat.beq c fT
 |.mz s n,.mz gk gN=>P7 s gk&&Nat.beq n gN
 |_,_=>false
theorem aFO{a b:kN}(h:afF a b=true):a=b:=by cases a<;>cases b<;>first|rfl|cases h
theorem aoo:∀{a b:List (V×V×Nat)},P6 a b=true->a=b
 |[],[],_=>rfl
 |[],_::_,h=>by cases h
 |(_,_,_)::_,[],h=>by cases h
 |(a,b,c)::xs,(d,e,f)::cV,h=>by
  simp only[P6,dJ]at h;obtain⟨⟨⟨h1,ae⟩,az⟩,bo⟩:=h;rw[V.zQ h1,V.zQ ae,dI az,aoo bo]
theorem aop:∀{a b:List Nat},P7 a b=true->a=b
 |[],[],_=>rfl
 |[],_::_,h=>by cases h
 |_::_,[],h=>by cases h
 |a::xs,b::cV,h=>by
  simp only[P7,dJ]at h;rw[dI h.1,aop h.2]
theorem O.zQ{a b:O}(h:O.same a b=true):a=b:=by
 cases a<;>cases b<;>simp only[O.same,dJ,iJ]at h
 ·obtain⟨⟨⟨⟨h1,ae⟩,az⟩,bo⟩,cb⟩:=h;rw[V.Et h1,dI ae,dI az,aFO bo,dI cb]
 ·rw[aoo h.1,dI h.2]
 ·rw[aop h.1,dI h.2]
abbrev fm:=List (P×O)
def lay(l:fm)(m:cA O):cA O:=@List.rec (P×O) (fun _=>cA O->cA O) (fun m=>m) (fun q _ ih m=>ih (m.set q.2 q.1)) l m
def wS(l:fm)(cg:P):H:=⟨lay l .e,cg⟩
def oQ(h:H)(l:fm):Bool:=@List.rec (P×O) (fun _=>Bool) true (fun q _ ih=>match h.get q.1 with
 |some o=>match O.same o q.2 with
  |true=>ih
  |false=>false
 |none=>false) l
theorem Qq(q:P×O)(l:fm)(m:cA O):lay (q::l) m=lay l (m.set q.2 q.1):=rfl
theorem Lq{f:P}{o:O}:∀{l:fm} {m:cA O},(lay l m).get f=some o->(f,o)∈l\/((∀cu,(f,cu)∉l)/\m.get f=some o)
 |[],m,h=>.inr ⟨(fun _ h=>by cases h),h⟩
 |(g,fZ)::l,m,h=>by
  rw[Qq]at h;rcases Lq h with h|⟨h1,ae⟩
  ·exact .inl (x9 _ h)
  ·by_cases e:g=f
   ·subst e;rw[cA.gV]at ae;cases ae;exact .inl (zP ..)
   ·rw[cA.ej _ _ _ _ e]at ae;refine .inr ⟨fun cu hm=>?_,ae⟩;rcases List.mem_cons.1 hm with hm|hm
    ·cases hm;exact e rfl
    ·exact h1 cu hm
theorem ama{f:P}:∀{l:fm} {m:cA O},(∃o,(f,o)∈l) ->∃o,(f,o)∈l/\(lay l m).get f=some o
 |[],m,⟨_,h⟩=>by cases h
 |(g,fZ)::l,m,⟨o,h⟩=>by
  rw[Qq];by_cases au:∃cu,(f,cu)∈l
  ·obtain⟨cu,a,b⟩:=ama (m:=m.set fZ g) au;exact⟨cu,x9 _ a,b⟩
  ·rcases List.mem_cons.1 h with h|h
   ·cases h;refine⟨fZ,zP ..,?_⟩;have:∀(l:fm) (m:cA O),(∀cu,(f,cu)∉l) ->(lay l m).get f=m.get f:=fun l=>by
     induction l with
     |nil=>intro m _;rfl
     |cons q l ih=>
      intro m aq;rw[Qq,ih _ fun cu hm=>aq cu (x9 _ hm),cA.ej];intro e;exact aq q.2 (by rw[<-e];exact zP ..)
    rw[this l _ fun cu hm=>au ⟨cu,hm⟩,cA.gV]
   ·exact absurd ⟨o,h⟩ au
theorem amb{f:P}:∀{l:fm} {m:cA O},(∀cu,(f,cu)∉l) ->(lay l m).get f=m.get f
 |[],m,_=>rfl
 |q::l,m,aq=>by
  rw[Qq,amb fun cu hm=>aq cu (x9 _ hm),cA.ej];intro e;exact aq q.2 (by rw[<-e];exact zP ..)
theorem Hj{h:H}:∀{l:fm},oQ h l=true->∀{f:P} {o:O},(f,o)∈l->h.get f=some o
 |[],_,f,o,hm=>by cases hm
 |(g,fZ)::l,au,f,o,hm=>by
  have eB:(match h.get g with
   |some o=>match O.same o fZ with
    |true=>oQ h l
    |false=>false
   |none=>false)=true:=au
  split at eB
  ·rename_i dD aC;split at eB
   ·rename_i aA;rcases List.mem_cons.1 hm with hm|hm
    ·cases hm;rw[aC,O.zQ aA]
    ·exact Hj eB hm
   ·cases eB
  ·cases eB
structure fV where
 g:FuncId
 args:List V
 pre:fm
 cg:P
 v:V
 post:fm
 rH:P
def akA(l:fm)(f:P):Bool:=l.any fun q=>pa q.1 f
def fV.fits(C:fV)(r:Option (V×H)):Bool:=match r with
 |some (v,h)=>V.same v C.v&&pa h.next C.rH&&oQ h C.post&&C.pre.all (fun q=>akA C.post q.1)
 |none=>false
def fV.ok(C:fV)(J:Prog)(n:Nat):Bool:=C.fits (ri (exec J n) J C.g C.args (wS C.pre C.cg))
def fV.spec(C:fV)(args:List V)(h:H):Option (V×H):=match V.py args C.args&&pa h.next C.cg&&oQ h C.pre with
 |true=>some (C.v,⟨lay C.post h.m,C.rH⟩)
 |false=>none
theorem Step.frame{M hZ:aW}{h av aE aa:H}{w w':World}{pre post:fm}(r:Rel p M h w.heap)(aAG:∀f o,av.get f=some o->(f,o)∈pre)(sH:av.next=h.next)(mQ:∀f o,av.get f=some o->h.get f=some o)
  (s:Step p M av w hZ aE w') (wE:∀f o,(f,o)∈post->aE.get f=some o) (ev:∀f o,(f,o)∈pre->∃cu,(f,cu)∈post)
  (hh:∀f o,aa.get f=some o->(f,o)∈post\/((∀cu,(f,cu)∉post)/\h.get f=some o)) (hold:∀f,(∀cu,(f,cu)∉post) ->aa.get f=h.get f) (akB:∀f,(∃o,(f,o)∈post) ->∃o,(f,o)∈post/\aa.get f=some o) (Vo:aa.next=aE.next):
  Step p M h w hZ aa w':=by
 have Fb:aH av.next=aH h.next:=by rw[sH]
 have zB:∀{f:P} {k:Nat},av.dE f k->h.dE f k:=fun{f k} a=>by
  unfold H.dE at a⊢;cases aC:av.get f with
  |none=>rw[aC]at a;exact a.elim
  |some o=>rw[mQ f o aC];rw[aC]at a;exact a
 have CE:∀{f:P} {k:Nat},av.jU f k->h.jU f k:=fun{f k} a=>by
  refine⟨zB a.1,fun xs aZ dead ty e=>?_⟩;have au:=a.1;unfold H.dE at au;cases aC:av.get f with
  |none=>rw[aC]at au;exact au.elim
  |some o=>rw[mQ f o aC]at e;cases e;exact a.2 _ _ _ _ aC
 have Od:∀{f:P},(∀cu,(f,cu)∉post) ->av.get f=none:=fun{f} aq=>by
  cases aC:av.get f with
  |none=>rfl
  |some o=>obtain⟨cu,m5⟩:=ev f o (aAG f o aC);exact absurd m5 (aq cu)
 have zi:∀{f:P} {o:O},(∀cu,(f,cu)∉post) ->h.get f=some o->∀k,hZ f k=M f k:=fun{f o} aq aC k=>by
  cases hm:M f k with
  |some l=>exact s.mono _ _ _ hm
  |none=>
   cases R4:hZ f k with
   |none=>rfl
   |some l=>
    rcases s.zG f k l R4 hm with h1|h1
    ·rw[r.lD f (by omega)]at aC;cases aC
    ·rw[Od aq]at h1;cases h1
 have Gv:∀{f:P} {o:O} {k:Nat},h.get f=some o->aa.get f=some o->(aa.dE f k↔h.dE f k):=fun{f o k} a b=>by
  unfold H.dE;rw[a,b]
 have Gw:∀{f:P} {o:O} {k:Nat},(f,o)∈post->aa.get f=some o->(aa.dE f k↔aE.dE f k):=fun{f o k} a b=>by
  unfold H.dE;rw[wE f o a,b]
 have afG:∀{f:P} {k:Nat} {l:Loc},(∀cu,(f,cu)∉post) ->h.dE f k->M f k=some l->w'.heap[l.bS]?=w.heap[l.bS]?:=fun{f k l} aq au hm=>by
  refine s.s8 _ (r.lt hm) fun g j m hw aqL e=>?_;have kV:=zB hw.1;refine r.sep g j m f k l kV aqL au hm (fun IS=>?_) (.inl (CE hw)) e;subst IS;have:=hw.1;unfold H.dE at this;rw[Od aq]at this;exact this
 have P8:∀{h:H} {f:P} {k:Nat},h.dE f k->∃o,h.get f=some o:=fun{h f k} a=>by
  unfold H.dE at a;cases aC:h.get f with
  |none=>rw[aC]at a;exact a.elim
  |some o=>exact⟨o,rfl⟩
 have g3:Rel p hZ aa w'.heap:=by
  refine⟨fun f k l e=>?_,fun f xs aZ dead md ty dO aC h4 k i6 km=>?_,fun f o l aC U h4=>?_,fun f k l g j m a b c d bV=>?_,fun f xs aZ dead md ty k aC hk=>?_,fun f o k aC U hk=>?_,s.rel.base,fun f tE=>?_⟩
  ·rw[Vo];exact s.rel.i5 f k l e
  ·rcases hh f _ aC with h1|⟨h1,ae⟩
   ·exact s.rel.cells f xs aZ dead md ty dO (wE _ _ h1) h4 k i6 km
   ·rw[zi h1 ae]at h4;obtain⟨l,au,U⟩:=r.cells f xs aZ dead md ty dO ae h4 k i6 km;refine⟨l,s.mono _ _ _ au,U.congr s.mono (afG h1 ?_ au)⟩;unfold H.dE;rw[ae];exact⟨i6,km⟩
  ·rcases hh f _ aC with h1|⟨h1,ae⟩
   ·exact s.rel.oh f o l (wE _ _ h1) U h4
   ·rw[zi h1 ae]at h4;obtain⟨ah,cL,a6,aI⟩:=r.oh f o l ae U h4;refine⟨ah,cL,?_,aI.mono s.mono⟩;rw[afG h1 ?_ h4];exact a6;unfold H.dE;rw[ae];cases o<;>first|rfl|(simp[O.k2]at U)
  ·
   intro e7;have R8:∀{f:P} {o:O} {k:Nat},(f,o)∈post->aa.get f=some o->aa.jU f k->aE.jU f k:=fun h1 a6 hw=>⟨(Gw h1 a6).1 hw.1,fun xs aZ dead ty e=>by rw[wE _ _ h1]at e;cases e;exact hw.2 _ _ _ _ a6⟩;have R9:∀{f:P} {o:O} {k:Nat},h.get f=some o->aa.get f=some o->aa.jU f k->h.jU f k:=fun ae a6 hw=>⟨(Gv ae a6).1 hw.1,fun xs aZ dead ty cD=>by rw[ae]at cD;cases cD;exact hw.2 _ _ _ _ a6⟩;have aa9:∀{f:P} {k:Nat} {l:Loc} {g:P} {j:Nat} {m:Loc} {of HP:O},(f,of)∈post->aa.get f=some of->aa.dE f k->hZ f k=some l->(∀cu,(g,cu)∉post) ->h.get g=some HP->aa.get g=some HP->aa.dE g j->hZ g j=some m->(aa.jU f k\/aa.jU g j) ->l.bS≠m.bS:=
    fun{f k l g j m of HP} aba ll yL CF II aC yK kV tH IT=>by
     rw[zi II aC]at tH;have sU:=(Gv aC yK).1 kV;rcases IT with IT|IT
     ·rcases s.uH f k l (R8 aba ll IT) CF with h1|⟨q,i,n,aM,IU,e⟩
      ·have:=r.lt tH;omega
      ·rw[<-e];refine r.sep q i n g j m (zB aM.1) IU sU tH (fun eq=>?_) (.inl (CE aM));subst eq;have aM:=aM.1;unfold H.dE at aM;rw[Od II]at aM;exact aM
     ·rcases s.u1 f k l ((Gw aba ll).1 yL) CF with h1|⟨q,i,n,aM,IU,e⟩
      ·have:=r.lt tH;omega
      ·rw[<-e];refine r.sep q i n g j m (zB aM) IU sU tH (fun eq=>?_) (.inr (R9 aC yK IT));subst eq;unfold H.dE at aM;rw[Od II]at aM;exact aM
   obtain⟨of,CG⟩:=P8 a;obtain⟨HP,CH⟩:=P8 c;rcases hh f of CG with xq|⟨xq,yT⟩<;>rcases hh g HP CH with yR|⟨yR,MP⟩
   ·exact s.rel.sep f k l g j m ((Gw xq CG).1 a) b ((Gw yR CH).1 c) d bV (e7.imp (R8 xq CG) (R8 yR CH))
   ·exact aa9 xq CG a b yR MP CH c d e7
   ·exact kv (aa9 yR CH c d xq yT CG a b e7.symm)
   ·rw[zi xq yT]at b;rw[zi yR MP]at d;exact r.sep f k l g j m ((Gv yT CG).1 a) b ((Gv MP CH).1 c) d bV (e7.imp (R9 yT CG) (R9 MP CH))
  ·rcases hh f _ aC with h1|⟨h1,ae⟩
   ·exact s.rel.n6 f xs aZ dead md ty k (wE _ _ h1) hk
   ·rw[zi h1 ae];exact r.n6 f xs aZ dead md ty k ae hk
  ·rcases hh f _ aC with h1|⟨h1,ae⟩
   ·exact s.rel.po f o k (wE _ _ h1) U hk
   ·rw[zi h1 ae];exact r.po f o k ae U hk
  ·rw[Vo]at tE;cases aC:aa.get f with
   |none=>rfl
   |some o=>
    rcases hh f o aC with h1|⟨_,ae⟩
    ·have:=wE _ _ h1;rw[s.rel.lD f tE]at this;cases this
    ·have:=s.next
     rw[r.lD f (by omega)]at ae;cases ae
 refine⟨g3,s.mono,by rw[Vo,<-Fb];exact s.next,s.size,fun f k l e bA=>?_,fun b ah db=>s.s8 b ah fun f k l hw e=>db f k l (CE hw) e,fun f k l hw e=>?_,fun f k l au e=>?_,fun f aqM av=>?_,s.os,s.out,s.tape,fun f k l e bA=>?_,fun f aqM e=>?_⟩
 ·rw[<-Fb];exact s.fresh f k l e bA
 ·obtain⟨o,a6⟩:=P8 hw.1;rcases hh f o a6 with h1|⟨h1,ae⟩
  ·have IG:aE.jU f k:=⟨(Gw h1 a6).1 hw.1,fun xs aZ dead ty e=>by rw[wE _ _ h1]at e;cases e;exact hw.2 _ _ _ _ a6⟩;rcases s.uH f k l IG e with az|⟨g,j,m,aC,hm,he⟩
   ·exact .inl az
   ·exact .inr ⟨g,j,m,CE aC,hm,he⟩
  ·rw[zi h1 ae]at e;exact .inr ⟨f,k,l,⟨(Gv ae a6).1 hw.1,fun xs aZ dead ty cD=>by rw[ae]at cD;cases cD;exact hw.2 _ _ _ _ a6⟩,e,rfl⟩
 ·obtain⟨o,a6⟩:=P8 au;rcases hh f o a6 with h1|⟨h1,ae⟩
  ·rcases s.u1 f k l ((Gw h1 a6).1 au) e with az|⟨g,j,m,aC,hm,he⟩
   ·exact .inl az
   ·exact .inr ⟨g,j,m,zB aC,hm,he⟩
  ·rw[zi h1 ae]at e;exact .inr ⟨f,k,l,(Gv ae a6).1 au,e,rfl⟩
 ·by_cases bh:∃o,(f,o)∈post
  ·obtain⟨o,a,b⟩:=akB f bh;rw[b];have h1:=s.wK f (by omega) av;rw[wE f o a]at h1;exact(mQ f o h1.symm).symm
  ·exact hold f fun cu m5=>bh ⟨cu,m5⟩
 ·rcases s.zG f k l e bA with h1|h1
  ·exact .inl (by omega)
  ·cases aC:av.get f with
   |none=>rw[aC]at h1;cases h1
   |some o=>exact .inr (by rw[mQ f o aC];rfl)
 ·by_cases bh:∃o,(f,o)∈post
  ·obtain⟨o,a,_⟩:=akB f bh;have h1:=s.tn f (by omega) (by rw[wE f o a];rfl);cases aC:av.get f with
   |none=>rw[aC]at h1;cases h1
   |some o=>rw[mQ f o aC];rfl
  ·rw[hold f fun cu m5=>bh ⟨cu,m5⟩]at e;exact e
theorem Rel.part{M:aW}{h av:H}{bh:Array Obj}(r:Rel p M h bh)(sH:av.next=h.next)(mQ:∀f o,av.get f=some o->h.get f=some o):Rel p M av bh:=by
 have zB:∀{f:P} {k:Nat},av.dE f k->h.dE f k:=fun{f k} a=>by
  unfold H.dE at a⊢;cases aC:av.get f with
  |none=>rw[aC]at a;exact a.elim
  |some o=>rw[mQ f o aC];rw[aC]at a;exact a
 have CE:∀{f:P} {k:Nat},av.jU f k->h.jU f k:=fun{f k} a=>by
  refine⟨zB a.1,fun xs aZ dead ty e=>?_⟩;have au:=a.1;unfold H.dE at au;cases aC:av.get f with
  |none=>rw[aC]at au;exact au.elim
  |some o=>rw[mQ f o aC]at e;cases e;exact a.2 _ _ _ _ aC
 exact
 {i5:=fun f k l e=>by rw[sH];exact r.i5 f k l e
  cells:=fun f xs aZ dead md ty dO aC=>r.cells f xs aZ dead md ty dO (mQ _ _ aC)
  oh:=fun f o l aC=>r.oh f o l (mQ _ _ aC)
  sep:=fun f k l g j m a b c d bV hw=>r.sep f k l g j m (zB a) b (zB c) d bV (hw.imp CE CE)
  n6:=fun f xs aZ dead md ty k aC=>r.n6 f xs aZ dead md ty k (mQ _ _ aC)
  po:=fun f o k aC=>r.po f o k (mQ _ _ aC)
  base:=r.base
  lD:=fun f aE=>by
   cases aC:av.get f with
   |none=>rfl
   |some o=>rw[sH]at aE;have:=mQ f o aC;rw[r.lD f aE]at this;cases this}
theorem fV.aFP(wh: p.follows .mixedOrders=true){J:Prog}(bh:gm p J)(C:fV){n:Nat}(iE:C.ok J n=true){ro:Option Nat}{aF:List V}{dV:Array Value}{h aa:H}{v:V}{M:aW}{w:World}(ar:dq M aF dV.toList)(aC:g0 p M)(r:Rel p M h w.heap)
  (he:C.spec aF h=some (v,aa)): pC p ro C.g dV w fun aL w'=>∃aT,Step p M h w aT aa w'/\bm aT v aL:=by
 unfold fV.spec at he;split at he
 ·rename_i U;cases he;simp only[dJ]at U;obtain⟨⟨c1,c2⟩,dF⟩:=U;have aN:=V.Et c1;subst aN;have bd:=x8.1 c2;unfold fV.ok fV.fits at iE;split at iE
  ·rename_i v1 aE d0;simp only[dJ,zO]at iE;obtain⟨⟨⟨fZ,dD⟩,gx⟩,hT⟩:=iE;have mQ:∀f o,(wS C.pre C.cg).get f=some o->(f,o)∈C.pre:=fun f o e=>by
    rcases Lq (l:=C.pre) (m:=.e) e with h1|⟨_,h1⟩
    ·exact h1
    ·exfalso;have:cA.get f (cA.e:cA O)=none:=by cases f<;>rfl
     rw[this]at h1;cases h1
   have Dt:∀f o,(wS C.pre C.cg).get f=some o->h.get f=some o:=fun f o e=>Hj dF (mQ f o e);have ir:Rel p M (wS C.pre C.cg) w.heap:=r.part bd.symm Dt;obtain⟨cg,b5,bj,a8⟩:=QA bh (P5 wh bh n n (a1 _)) (ro:=ro) ar aC ir d0;have fin:∀aL w',(∃aT,Step p M (wS C.pre C.cg) w aT aE w'/\bm aT v1 aL) ->∃aT,Step p M h w aT ⟨lay C.post h.m,C.rH⟩ w'/\bm aT C.v aL:=fun aL w' ⟨aT,st,kF⟩=>by
    refine⟨aT,Step.frame r (pre:=C.pre) (post:=C.post) mQ bd.symm Dt st (fun f o hm=>Hj gx hm) (fun f o hm=>?_) (fun f o e=>Lq e) (fun f aq=>amb aq) (fun f hm=>ama hm) (x8.1 dD).symm,by rw[<-V.zQ fZ];exact kF⟩;have:=hT (f,o) hm;simp only[akA,GJ]at this;obtain⟨⟨g,cu⟩,aM,heq⟩:=this;have:g=f:=x8.1 heq;subst this;exact⟨cu,aM⟩
   refine⟨cg,b5,bj,?_⟩;cases cg<;>simp only at a8⊢<;>first|exact a8.elim|skip
   ·exact fin _ _ a8
   ·exact a8.mono fun e w' ⟨aL,a,b⟩=>⟨aL,a,fin _ _ b⟩
  ·cases iE
 ·cases he
def Prog.with (J:Prog)(C:fV):Prog:={J with spec:=fun g args h=>match Nat.beq g C.g with
 |true=>match C.spec args h with
  |some r=>some r
  |none=>J.spec g args h
 |false=>J.spec g args h}
theorem gm.with (wh: p.follows .mixedOrders=true){J abb:Prog}(bh:gm p J)(C:fV)(kE:gm p abb){n:Nat}(iE:C.ok abb n=true):gm p (J.with C) where
 funcs:=bh.funcs
 w2:=bh.w2
 quiet:=bh.quiet
 spec:=fun ro g aF dV h aa v M w ar aC r he=>by
  simp only[Prog.with]at he;split at he
  ·rename_i ah;have:=dI ah;subst this;split at he
   ·rename_i q aM;cases he;exact C.aFP wh kE iE ar aC r aM
   ·exact bh.spec ro _ aF dV h aa v M w ar aC r he
  ·exact bh.spec ro _ aF dV h aa v M w ar aC r he
end
theorem Fr.aFQ(I:Fr)(s:S):I.set (I.get s) s=I:=by
 obtain⟨a,b,c⟩:=s;obtain⟨⟨⟩⟩:=I;cases a<;>cases b<;>cases c<;>rfl
theorem Fr.YD{I:Fr}{s:S}{v:V}(h:I.get s=v):I.set v s=I:=by rw[<-h,Fr.aFQ]
def aAH(o:Out):Fr:=match o with
 |.norm s=>s.I
 |.exit _ s=>s.I
 |.goto _ s=>s.I
 |.ret s=>s.I
 |.no=>Fr.e
section
variable {J:Prog}{n:Nat}{s gk:eM}{I:Fr}{h aa:H}{ds:dB}
theorem Pg{a b:C}(h1:exec J n a s=.norm gk):exec J (n+1) (.seq a b) s=exec J n b gk:=by
 show(match exec J n a s with
  |.norm s=>exec J n b s
  |o=>o:Out)=_
 rw[h1]
theorem QB{a b:C}{o:Out}(h1:exec J n a s=o)(ae:∀s,o≠.norm s):exec J (n+1) (.seq a b) s=o:=by
 show(match exec J n a s with
  |.norm s=>exec J n b s
  |o=>o:Out)=_
 rw[h1];cases o<;>first|rfl|exact absurd rfl (ae _)
theorem XI{x:X}{a b:C}(ab:x.a7 s.I=.bool true):exec J (n+1) (.cond x a b) s=exec J n a s:=by
 show(match x.a7 s.I with
  |.bool true=>exec J n a s
  |.bool false=>exec J n b s
  |_=>.no:Out)=_
 rw[ab]
theorem Yd{x:X}{a b:C}(ab:x.a7 s.I=.bool false):exec J (n+1) (.cond x a b) s=exec J n b s:=by
 show(match x.a7 s.I with
  |.bool true=>exec J n a s
  |.bool false=>exec J n b s
  |_=>.no:Out)=_
 rw[ab]
theorem aFR{id:Nat}{c:C}(h1:exec J n c s=.norm gk):exec J (n+1) (.block id c) s=.norm gk:=by
 show(match exec J n c s with
  |.exit j s=>match Nat.beq j id with|true=>.norm s|false=>.exit j s
  |o=>o:Out)=_
 rw[h1]
theorem aDr{c:C}(h1:exec J n c s=.norm gk):exec J (n+1) (.loop c) s=exec J n (.loop c) gk:=by
 show(match exec J n c s with
  |.norm s=>exec J n (.loop c) s
  |o=>o:Out)=_
 rw[h1]
theorem Zk{c:C}{o:Out}(h1:exec J n c s=o)(ae:∀s,o≠.norm s):exec J (n+1) (.loop c) s=o:=by
 show(match exec J n c s with
  |.norm s=>exec J n (.loop c) s
  |o=>o:Out)=_
 rw[h1];cases o<;>first|rfl|exact absurd rfl (ae _)
theorem Ph(l:List bH):exec J (n+1) (.cF l) s=ig J (gT (exec J n) J) l s.I s.h s.ds:=rfl
theorem F9{call:iy}{d:Option S}{f:d5}{l:List bH}{v:V}(h1:f.f I=some v):ig J call (⟨d,.pu f,none⟩::l) I h ds=ig J call l (cX d v I) h ds:=by
 show@Option.rec V (fun _=>Out) .no (fun v=>ig J call l (cX d v I) h ds) (f.f I)=_;rw[h1]
theorem afH{call:iy}{d:Option S}{f:IR}{l:List bH}{v:V}(h1:f.f I h=some v):ig J call (⟨d,.rd f,none⟩::l) I h ds=ig J call l (cX d v I) h ds:=by
 show@Option.rec V (fun _=>Out) .no (fun v=>ig J call l (cX d v I) h ds) (f.f I h)=_;rw[h1]
theorem afI{call:iy}{d:Option S}{f:kg}{l:List bH}{o:O}{g:P->V}(h1:f.f I=some (o,g)):ig J call (⟨d,.mk f,none⟩::l) I h ds=ig J call l (cX d (g h.next) I) (h.new o) ds:=by
 show(match f.f I with
  |some (o,g)=>ig J call l (cX d (g h.next) I) (h.new o) ds
  |none=>.no:Out)=_
 rw[h1]
theorem J6{call:iy}{d:Option S}{f:g7}{l:List bH}{v:V}(h1:f.f I h=some (v,aa)):ig J call (⟨d,.wr f,none⟩::l) I h ds=ig J call l (cX d v I) aa ds:=by
 show(match f.f I h with
  |some (v,h)=>ig J call l (cX d v I) h ds
  |none=>.no:Out)=_
 rw[h1]
theorem alm{call:iy}{d:Option S}{f:X}{cT:List X}{l:List bH}{v:V}(h1:call (f.a7 I) (hc I cT) h=some (v,aa)):ig J call (⟨d,.call f cT,none⟩::l) I h ds=ig J call l (cX d v I) aa ds:=by
 show(match call (f.a7 I) (hc I cT) h with
  |some (v,h)=>ig J call l (cX d v I) h ds
  |none=>.no:Out)=_
 rw[h1]
end
abbrev G4:=@Nat.le_max_left
abbrev G5:=@Nat.le_max_right
def Out.le(a b:Out):Prop:=a=.no\/a=b
theorem Out.le_refl(a:Out):a.le a:=.inr rfl
def MQ{α:Type}(a b:Option α):Prop:=a=none\/a=b
def CI(s gk:Self):Prop:=∀c t,(s c t).le (gk c t)
def Fc(c fT:iy):Prop:=∀f args h,MQ (c f args h) (fT f args h)
def aqN(k ch:tm):Prop:=∀v h ds,(k v h ds).le (ch v h ds)
theorem bn.XJ(o:bn)(J:Prog){call rf:iy}(U:Fc call rf){I:Fr}{h:H}{ds:dB}{k ch:tm}(hk:aqN k ch):(o.k J call I h ds k).le (o.k J rf I h ds ch):=by
 cases o with
 |pu i=>
  show Out.le (@Option.rec V (fun _=>Out) .no (fun v=>k v h ds) (i.f I)) (@Option.rec V (fun _=>Out) .no (fun v=>ch v h ds) (i.f I));cases i.f I with
  |none=>exact .inl rfl
  |some v=>exact hk v h ds
 |rd i=>
  show Out.le (@Option.rec V (fun _=>Out) .no (fun v=>k v h ds) (i.f I h)) (@Option.rec V (fun _=>Out) .no (fun v=>ch v h ds) (i.f I h));cases i.f I h with
  |none=>exact .inl rfl
  |some v=>exact hk v h ds
 |mk i=>
  show Out.le (match i.f I with
   |some (o,g)=>k (g h.next) (h.new o) ds
   |none=>.no:Out) (match i.f I with
   |some (o,g)=>ch (g h.next) (h.new o) ds
   |none=>.no:Out)
  cases i.f I with
  |none=>exact .inl rfl
  |some q=>exact hk _ _ _
 |wr i=>
  show Out.le (match i.f I h with
   |some (v,h)=>k v h ds
   |none=>.no:Out) (match i.f I h with
   |some (v,h)=>ch v h ds
   |none=>.no:Out)
  cases i.f I h with
  |none=>exact .inl rfl
  |some q=>exact hk _ _ _
 |call f args=>
  show Out.le (match call (f.a7 I) (hc I args) h with
   |some (v,h)=>k v h ds
   |none=>.no:Out) (match rf (f.a7 I) (hc I args) h with
   |some (v,h)=>ch v h ds
   |none=>.no:Out)
  rcases U (f.a7 I) (hc I args) h with e|e
  ·rw[e];exact .inl rfl
  ·rw[e];cases rf (f.a7 I) (hc I args) h with
   |none=>exact .inl rfl
   |some q=>exact hk _ _ _
 |defer f args=>
  show Out.le (match f.a7 I with
   |.fn g first cap=>k (.bk []) h ((.fn g first cap,hc I args)::ds)
   |_=>.no:Out) (match f.a7 I with
   |.fn g first cap=>ch (.bk []) h ((.fn g first cap,hc I args)::ds)
   |_=>.no:Out)
  split
  ·exact hk _ _ _
  ·exact .inl rfl
 |bad n=>exact .inl rfl
theorem amQ(J:Prog)(o:bH){call rf:iy}(U:Fc call rf){r jH:Fr->H->dB->Out}(aI:∀I h ds,(r I h ds).le (jH I h ds))(I:Fr)(h:H)(ds:dB):(EZ o r J call I h ds).le (EZ o jH J rf I h ds):=
 bn.XJ o.op J U fun _ _ _=>aI _ _ _
theorem aIa(J:Prog)(o:bH){call rf:iy}(U:Fc call rf){r jH:Fr->H->dB->Out}(aI:∀I h ds,(r I h ds).le (jH I h ds))(I:Fr)(h:H)(ds:dB):(E0 J call o r I h ds).le (E0 J rf o jH I h ds):=by
 unfold E0;split
 ·exact amQ J o U aI I h ds
 ·split
  ·exact amQ J o U aI I h ds
  ·exact aI _ _ _
  ·exact .inl rfl
theorem ZA(J:Prog){call rf:iy}(U:Fc call rf):∀(l:List bH) (I:Fr) (h:H) (ds:dB),(ig J call l I h ds).le (ig J rf l I h ds)
 |[],_,_,_=>.inr rfl
 |o::l,I,h,ds=>aIa J o U (ZA J U l) I h ds
theorem ZJ(J:Prog){call rf:iy}(U:Fc call rf):∀(l:List (bH×List Nat)) (i:Nat) (aD:List Rec) (I:Fr) (h:H) (ds:dB),(ky J call l i aD I h ds).le (ky J rf l i aD I h ds)
 |[],_,_,_,_,_=>.inr rfl
 |(o,b)::os,i,aD,I,h,ds=>by
  have ih:=ZJ J U os;unfold ky;split
  ·exact .inl rfl
  ·split
   ·split
    ·exact ih _ _ _ _ _
    ·exact .inl rfl
   ·split
    ·exact bn.XJ _ J U fun _ _ _=>ih _ _ _ _ _
    ·exact .inl rfl
   ·refine bn.XJ _ J U fun v aa ds=>?_;split
    ·exact ih _ _ _ _ _
    ·exact .inl rfl
  ·exact ih _ _ _ _ _
theorem apg{s gk:Self}(aA:CI s gk)(J:Prog)(g:FuncId)(args:List V)(h:H):MQ (wX s J g args h) (wX gk J g args h):=by
 unfold wX;split
 ·rename_i fn _;split
  ·rcases aA fn.body ⟨kZ args 0 Fr.e,[],h⟩with e|e
   ·rw[e];exact .inl rfl
   ·rw[e];exact .inr rfl
  ·exact .inl rfl
 ·exact .inl rfl
theorem ZB{s gk:Self}(aA:CI s gk)(J:Prog)(g:FuncId)(args:List V)(h:H):MQ (ri s J g args h) (ri gk J g args h):=by
 unfold ri;split
 ·exact .inr rfl
 ·exact apg aA J g args h
theorem aLH{s gk:Self}(aA:CI s gk)(l:P)(args:List V)(h:H):MQ (BG s l args h) (BG gk l args h):=by
 unfold BG;split
 ·rename_i fE fh ps assign body _;split
  ·rename_i I _;rcases aA assign ⟨I,[],h⟩with e|e
   ·rw[e];exact .inl rfl
   ·rw[e];split
    ·rename_i st _;split
     ·rename_i aAI aAJ aqO aFS aAK _;rcases aA body ⟨st.I,st.ds,st.h.set l (.loop .busy aAI aAJ aqO aFS aAK)⟩with e|e
      ·rw[e];exact .inl rfl
      ·rw[e];exact .inr rfl
     ·exact .inl rfl
    ·exact .inl rfl
  ·exact .inl rfl
 ·exact .inl rfl
theorem L3{s gk:Self}(aA:CI s gk)(J:Prog):Fc (gT s J) (gT gk J):=fun f args h=>by
 unfold gT;split
 ·split
  ·exact ZB aA J _ _ _
  ·exact ZB aA J _ _ _
 ·exact aLH aA _ _ _
 ·exact .inl rfl
def x1(id:Nat)(o:Out):Out:=match o with
 |.exit j s=>match Nat.beq j id with
  |true=>.norm s
  |false=>.exit j s
 |o=>o
theorem C.aDs{s gk:Self}(aA:CI s gk)(J:Prog)(c:C)(t:eM):(c.e s J t).le (c.e gk J t):=by
 cases c with
 |skip=>exact .inr rfl
 |label=>exact .inr rfl
 |cF ops=>exact ZA J (L3 aA J) ops _ _ _
 |qi ops=>exact ZJ J (L3 aA J) ops _ _ _ _ _
 |seq a b=>
  show Out.le (match s a t with|.norm t=>s b t|o=>o) (match gk a t with|.norm t=>gk b t|o=>o);rcases aA a t with e|e
  ·rw[e];exact .inl rfl
  ·rw[e];split
   ·exact aA _ _
   ·exact .inr rfl
 |cond x a b=>
  show Out.le (match x.a7 t.I with|.bool true=>s a t|.bool false=>s b t|_=>.no) (match x.a7 t.I with|.bool true=>gk a t|.bool false=>gk b t|_=>.no);split
  ·exact aA _ _
  ·exact aA _ _
  ·exact .inl rfl
 |block id c=>
  show Out.le (x1 id (s c t)) (x1 id (gk c t));rcases aA c t with e|e
  ·rw[e];exact .inl rfl
  ·rw[e];exact .inr rfl
 |loop c=>
  show Out.le (match s c t with|.norm t=>s (.loop c) t|o=>o) (match gk c t with|.norm t=>gk (.loop c) t|o=>o);rcases aA c t with e|e
  ·rw[e];exact .inl rfl
  ·rw[e];split
   ·exact aA _ _
   ·exact .inr rfl
 |hp x ps a b=>
  show Out.le (Am x ps a b s J t) (Am x ps a b gk J t);unfold Am;split
  ·rename_i g first cap _
   rcases apg aA J g (first++[.jk t.h.next]++cap) (t.h.new (.loop .ready none t.I ps a b))with e|e
   ·rw[e];exact .inl rfl
   ·rw[e];exact .inr rfl
  ·exact .inl rfl
 |exit id=>exact .inr rfl
 |scope c=>
  show Out.le (match s c t with|.goto _ _=>.no|o=>o) (match gk c t with|.goto _ _=>.no|o=>o);rcases aA c t with e|e
  ·rw[e];exact .inl rfl
  ·rw[e];exact .inr rfl
 |goto l=>exact .inr rfl
 |ret=>exact .inr rfl
 |bad n=>exact .inr rfl
theorem anO(J:Prog):∀n,CI (exec J n) (exec J (n+1))
 |0=>fun _ _=>.inl rfl
 |n+1=>fun c t=>C.aDs (anO J n) J c t
theorem yh(J:Prog){n m:Nat}(h:n<=m):CI (exec J n) (exec J m):=by
 induction h with
 |refl=>exact fun _ _=>.inr rfl
 |step _ ih=>
  intro c t;rcases ih c t with e|e
  ·exact .inl e
  ·rw[e];exact anO J _ c t
def wp(J:Prog)(c:C)(s:eM)(Q:Out->Prop):Prop:=∃n o,exec J n c s=o/\o≠.no/\Q o
def qj(J:Prog)(ops:List bH)(I:Fr)(h:H)(ds:dB)(Q:Out->Prop):Prop:=∃n o,ig J (gT (exec J n) J) ops I h ds=o/\o≠.no/\Q o
def nF(J:Prog)(ops:List (bH×List Nat))(i:Nat)(aD:List Rec)(I:Fr)(h:H)(ds:dB)(Q:Out->Prop):Prop:=∃n o,ky J (gT (exec J n) J) ops i aD I h ds=o/\o≠.no/\Q o
def vv(J:Prog)(f:V)(args:List V)(h:H)(k:V->H->Prop):Prop:=∃n v aa,gT (exec J n) J f args h=some (v,aa)/\k v aa
def rI(J:Prog)(g:FuncId)(args:List V)(h:H)(k:V->H->Prop):Prop:=∃n v aa,ri (exec J n) J g args h=some (v,aa)/\k v aa
def vw(x:Option V)(k:V->Prop):Prop:=match x with|some v=>k v|none=>False
def p2(x:Option (V×H))(k:V->H->Prop):Prop:=match x with|some (v,h)=>k v h|none=>False
def Fe(x:Option (O×(P->V)))(k:O->(P->V) ->Prop):Prop:=match x with|some (o,g)=>k o g|none=>False
def Pj(v:V)(a b:Prop):Prop:=match v with|.bool true=>a|.bool false=>b|_=>False
def EG(x:Option Bool)(a b:Prop):Prop:=match x with|some true=>a|some false=>b|none=>False
def wF(o:Out)(k:eM->Prop)(Q:Out->Prop):Prop:=match o with|.norm s=>k s|o=>Q o
def J7(J:Prog)(res:List qG)(R:V->H->Prop)(o:Out):Prop:=match o with|.norm s=>p2 (leave J res s) R|.ret s=>p2 (leave J res s) R|_=>False
theorem aIb(v:V)(h:H)(k:V->H->Prop): p2 (some (v,h)) k=k v h:=rfl
theorem aJR(s:eM)(k:eM->Prop)(Q:Out->Prop):wF (.ret s) k Q=Q (.ret s):=rfl
theorem amR{i:Nat}{o:Out}:x1 i o=.no↔o=.no:=by
 cases o<;>simp[x1];split<;>simp
section rules
variable {J:Prog}{s:eM}{Q ZQ:Out->Prop}{I:Fr}{h:H}{ds:dB}
theorem wp.mono{c:C}(hw:wp J c s Q)(aM:∀o,Q o->ZQ o):wp J c s ZQ:=let⟨n,o,a,b,c⟩:=hw;⟨n,o,a,b,aM o c⟩
theorem rI.mono{g:FuncId}{args:List V}{R z4:V->H->Prop}(hw:rI J g args h R)(aM:∀v h,R v h->z4 v h):rI J g args h z4:=let⟨n,v,aa,a,b⟩:=hw;⟨n,v,aa,a,aM v aa b⟩
theorem vv.mono{f:V}{args:List V}{R z4:V->H->Prop}(hw:vv J f args h R)(aM:∀v h,R v h->z4 v h):vv J f args h z4:=let⟨n,v,aa,a,b⟩:=hw;⟨n,v,aa,a,aM v aa b⟩
theorem wp_skip:wp J .skip s Q=Q (.norm s):=propext ⟨fun⟨n,o,a,b,c⟩=>by
  cases n with
  |zero=>exact absurd a.symm b
  |succ n=>subst a;exact c,fun q=>⟨1,.norm s,rfl,by simp,q⟩⟩
theorem wp_label:wp J .label s Q=Q (.norm s):=propext ⟨fun⟨n,o,a,b,c⟩=>by
  cases n with
  |zero=>exact absurd a.symm b
  |succ n=>subst a;exact c,fun q=>⟨1,.norm s,rfl,by simp,q⟩⟩
theorem wp_ret:wp J .ret s Q=Q (.ret s):=propext ⟨fun⟨n,o,a,b,c⟩=>by
  cases n with
  |zero=>exact absurd a.symm b
  |succ n=>subst a;exact c,fun q=>⟨1,.ret s,rfl,by simp,q⟩⟩
theorem wp_exit(i:Nat):wp J (.exit i) s Q=Q (.exit i s):=propext ⟨fun⟨n,o,a,b,c⟩=>by
  cases n with
  |zero=>exact absurd a.symm b
  |succ n=>subst a;exact c,fun q=>⟨1,.exit i s,rfl,by simp,q⟩⟩
theorem aDt(ops:List bH):wp J (.cF ops) s Q=qj J ops s.I s.h s.ds Q:=propext ⟨fun⟨n,o,a,b,c⟩=>by
  cases n with
  |zero=>exact absurd a.symm b
  |succ n=>exact⟨n,o,a,b,c⟩,fun⟨n,o,a,b,c⟩=>⟨n+1,o,a,b,c⟩⟩
theorem aFT(ops:List (bH×List Nat)):wp J (.qi ops) s Q=nF J ops 0 [] s.I s.h s.ds Q:=propext ⟨fun⟨n,o,a,b,c⟩=>by
  cases n with
  |zero=>exact absurd a.symm b
  |succ n=>exact⟨n,o,a,b,c⟩,fun⟨n,o,a,b,c⟩=>⟨n+1,o,a,b,c⟩⟩
theorem wp_cond(x:X)(a b:C):wp J (.cond x a b) s Q=Pj (x.a7 s.I) (wp J a s Q) (wp J b s Q):=propext ⟨fun⟨n,o,e,aq,q⟩=>by
  cases n with
  |zero=>exact absurd e.symm aq
  |succ n=>
   have e:(match x.a7 s.I with|.bool true=>exec J n a s|.bool false=>exec J n b s|_=>.no:Out)=o:=e;unfold Pj;split at e
   ·exact⟨n,o,e,aq,q⟩
   ·exact⟨n,o,e,aq,q⟩
   ·exact absurd e.symm aq,fun q=>by
  unfold Pj at q;split at q
  ·rename_i ab;obtain⟨n,o,e,aq,q⟩:=q;exact⟨n+1,o,by rw[XI ab];exact e,aq,q⟩
  ·rename_i ab;obtain⟨n,o,e,aq,q⟩:=q;exact⟨n+1,o,by rw[Yd ab];exact e,aq,q⟩
  ·exact q.elim⟩
theorem wp_block(id:Nat)(c:C):wp J (.block id c) s Q=wp J c s fun o=>Q (x1 id o):=propext ⟨fun⟨n,o,e,aq,q⟩=>by
  cases n with
  |zero=>exact absurd e.symm aq
  |succ n=>
   have e:x1 id (exec J n c s)=o:=e;subst e;exact⟨n,_,rfl,fun e=>aq (amR.2 e),q⟩,fun⟨n,o,e,aq,q⟩=>⟨n+1,x1 id o,by subst e;rfl,fun e=>aq (amR.1 e),q⟩⟩
theorem aIc(c:C)(hw:wp J c s fun o=>(∀l t,o≠.goto l t)/\Q o):wp J (.scope c) s Q:=by
 obtain⟨n,o,e,aq,aC,q⟩:=hw;refine⟨n+1,o,?_,aq,q⟩;show(match exec J n c s with|.goto _ _=>.no|o=>o:Out)=o;rw[e];cases o<;>first|rfl|exact absurd rfl (aC _ _)
theorem wp_seq(a b:C):wp J (.seq a b) s Q=wp J a s fun o=>wF o (fun t=>wp J b t Q) Q:=propext ⟨fun⟨n,o,e,aq,q⟩=>by
  cases n with
  |zero=>exact absurd e.symm aq
  |succ n=>
   have e:(match exec J n a s with|.norm s=>exec J n b s|o=>o:Out)=o:=e;cases ab:exec J n a s<;>rw[ab]at e
   ·exact absurd e.symm aq
   ·exact⟨n,_,ab,by simp,n,o,e,aq,q⟩
   all_goals
    simp only at e;subst e;exact⟨n,_,ab,by simp,q⟩,fun⟨n,o,e,aq,q⟩=>by
  cases o with
  |no=>exact absurd rfl aq
  |norm t=>
   obtain⟨m,o,cD,xh,pQ⟩:=q;refine⟨max n m+1,o,?_,xh,pQ⟩;have h1:exec J (max n m) a s=.norm t:=by
    rcases yh J (G4 n m) a s with h|h
    ·rw[e]at h;cases h
    ·rw[<-h,e]
   have ae:exec J (max n m) b t=o:=by
    rcases yh J (G5 n m) b t with h|h
    ·rw[cD]at h;exact absurd h xh
    ·rw[<-h,cD]
   rw[Pg h1,ae]
  |exit i t=>exact⟨n+1,_,QB e (by simp),aq,q⟩
  |goto i t=>exact⟨n+1,_,QB e (by simp),aq,q⟩
  |ret t=>exact⟨n+1,_,QB e (by simp),aq,q⟩⟩
theorem wp_loop{c:C}(bn:Nat->eM->Prop)(step:∀m t,bn m t->wp J c t fun o=>wF o (fun h0=>∃c8,c8<m/\bn c8 h0) Q):∀{m:Nat} {t:eM},bn m t->wp J (.loop c) t Q:=by
 intro m
 induction m using Nat.strongRecOn with
 |ind m ih=>
  intro t ai;obtain⟨n,o,e,aq,q⟩:=step m t ai;cases o with
  |no=>exact absurd rfl aq
  |norm h0=>
   obtain⟨c8,hm,ck⟩:=q;obtain⟨k,o,cD,xh,pQ⟩:=ih c8 hm ck;refine⟨max n k+1,o,?_,xh,pQ⟩;have h1:exec J (max n k) c t=.norm h0:=by
    rcases yh J (G4 n k) c t with h|h
    ·rw[e]at h;cases h
    ·rw[<-h,e]
   have ae:exec J (max n k) (.loop c) h0=o:=by
    rcases yh J (G5 n k) (.loop c) h0 with h|h
    ·rw[cD]at h;exact absurd h xh
    ·rw[<-h,cD]
   rw[aDr h1,ae]
  |exit i t=>exact⟨n+1,_,Zk e (by simp),aq,q⟩
  |goto i t=>exact⟨n+1,_,Zk e (by simp),aq,q⟩
  |ret t=>exact⟨n+1,_,Zk e (by simp),aq,q⟩
theorem aId:qj J [] I h ds Q=Q (.norm ⟨I,ds,h⟩):=propext ⟨fun⟨n,o,a,b,c⟩=>by subst a;exact c,fun q=>⟨0,.norm ⟨I,ds,h⟩,rfl,by simp,q⟩⟩
theorem aFU(d:Option S)(i:d5)(os:List bH):qj J (⟨d,.pu i,none⟩::os) I h ds Q=vw (i.f I) fun v=>qj J os (cX d v I) h ds Q:=propext ⟨fun⟨n,o,a,b,c⟩=>by
  cases ar:i.f I with
  |none=>
   exfalso;have:(@Option.rec V (fun _=>Out) .no (fun v=>ig J (gT (exec J n) J) os (cX d v I) h ds) (i.f I))=o:=a;rw[ar]at this;exact b this.symm
  |some v=>rw[F9 ar]at a;exact⟨n,o,a,b,c⟩,fun q=>by
  cases ar:i.f I with
  |none=>rw[ar]at q;exact q.elim
  |some v=>rw[ar]at q;obtain⟨n,o,a,b,c⟩:=q;exact⟨n,o,by rw[F9 ar];exact a,b,c⟩⟩
theorem aFV(d:Option S)(i:IR)(os:List bH):qj J (⟨d,.rd i,none⟩::os) I h ds Q=vw (i.f I h) fun v=>qj J os (cX d v I) h ds Q:=propext ⟨fun⟨n,o,a,b,c⟩=>by
  cases ar:i.f I h with
  |none=>
   exfalso;have:(@Option.rec V (fun _=>Out) .no (fun v=>ig J (gT (exec J n) J) os (cX d v I) h ds) (i.f I h))=o:=a;rw[ar]at this;exact b this.symm
  |some v=>rw[afH ar]at a;exact⟨n,o,a,b,c⟩,fun q=>by
  cases ar:i.f I h with
  |none=>rw[ar]at q;exact q.elim
  |some v=>rw[ar]at q;obtain⟨n,o,a,b,c⟩:=q;exact⟨n,o,by rw[afH ar];exact a,b,c⟩⟩
theorem aFW(d:Option S)(i:kg)(os:List bH):qj J (⟨d,.mk i,none⟩::os) I h ds Q=Fe (i.f I) fun o g=>qj J os (cX d (g h.next) I) (h.new o) ds Q:=propext ⟨fun⟨n,o,a,b,c⟩=>by
  cases ar:i.f I with
  |none=>
   exfalso;have:(match i.f I with
    |some (o,g)=>ig J (gT (exec J n) J) os (cX d (g h.next) I) (h.new o) ds
    |none=>.no:Out)=o:=a
   rw[ar]at this;exact b this.symm
  |some v=>rw[afI ar]at a;exact⟨n,o,a,b,c⟩,fun q=>by
  cases ar:i.f I with
  |none=>rw[ar]at q;exact q.elim
  |some v=>rw[ar]at q;obtain⟨n,o,a,b,c⟩:=q;exact⟨n,o,by rw[afI ar];exact a,b,c⟩⟩
theorem aFX(d:Option S)(i:g7)(os:List bH):qj J (⟨d,.wr i,none⟩::os) I h ds Q=p2 (i.f I h) fun v aa=>qj J os (cX d v I) aa ds Q:=propext ⟨fun⟨n,o,a,b,c⟩=>by
  cases ar:i.f I h with
  |none=>
   exfalso;have:(match i.f I h with
    |some (v,h)=>ig J (gT (exec J n) J) os (cX d v I) h ds
    |none=>.no:Out)=o:=a
   rw[ar]at this;exact b this.symm
  |some v=>rw[J6 ar]at a;exact⟨n,o,a,b,c⟩,fun q=>by
  cases ar:i.f I h with
  |none=>rw[ar]at q;exact q.elim
  |some v=>rw[ar]at q;obtain⟨n,o,a,b,c⟩:=q;exact⟨n,o,by rw[J6 ar];exact a,b,c⟩⟩
theorem amS{f:V}{args:List V}{n m:Nat}{q:V×H}(iS:n<=m)(e:gT (exec J n) J f args h=some q):gT (exec J m) J f args h=some q:=by
 rcases L3 (yh J iS) J f args h with h|h
 ·rw[e]at h;cases h
 ·rw[<-h,e]
theorem aJS{ops:List bH}{n m:Nat}{o:Out}(iS:n<=m)(e:ig J (gT (exec J n) J) ops I h ds=o)(aq:o≠.no):ig J (gT (exec J m) J) ops I h ds=o:=by
 rcases ZA J (L3 (yh J iS) J) ops I h ds with h|h
 ·rw[e]at h;exact absurd h aq
 ·rw[<-h,e]
theorem aKP{ops:List (bH×List Nat)}{i:Nat}{aD:List Rec}{n m:Nat}{o:Out}(iS:n<=m)(e:ky J (gT (exec J n) J) ops i aD I h ds=o)(aq:o≠.no):ky J (gT (exec J m) J) ops i aD I h ds=o:=by
 rcases ZJ J (L3 (yh J iS) J) ops i aD I h ds with h|h
 ·rw[e]at h;exact absurd h aq
 ·rw[<-h,e]
theorem aJT(d:Option S)(f:X)(cT:List X)(os:List bH):qj J (⟨d,.call f cT,none⟩::os) I h ds Q=vv J (f.a7 I) (hc I cT) h fun v aa=>qj J os (cX d v I) aa ds Q:=propext ⟨fun⟨n,o,a,b,c⟩=>by
  cases ar:gT (exec J n) J (f.a7 I) (hc I cT) h with
  |none=>
   exfalso;have:(match gT (exec J n) J (f.a7 I) (hc I cT) h with
    |some (v,h)=>ig J (gT (exec J n) J) os (cX d v I) h ds
    |none=>.no:Out)=o:=a
   rw[ar]at this;exact b this.symm
  |some v=>rw[alm ar]at a;exact⟨n,_,_,ar,n,o,a,b,c⟩,fun⟨n,v,aa,ar,m,o,a,b,c⟩=>by
  refine⟨max n m,o,?_,b,c⟩;rw[alm (amS (G4 n m) ar)];exact aJS (G5 n m) a b⟩
theorem aKQ(d:Option S)(i:bn)(g:S×Bool)(os:List bH):qj J (⟨d,i,some g⟩::os) I h ds Q=EG (wanted (some g) I) (qj J (⟨d,i,none⟩::os) I h ds Q) (qj J os (cX d (.bk []) I) h ds Q):=by
 have key:∀n,ig J (gT (exec J n) J) (⟨d,i,some g⟩::os) I h ds=match wanted (some g) I with
  |some true=>ig J (gT (exec J n) J) (⟨d,i,none⟩::os) I h ds
  |some false=>ig J (gT (exec J n) J) os (cX d (.bk []) I) h ds
  |none=>.no:=fun n=>rfl
 unfold qj;simp only[key];cases aC:wanted (some g) I with
 |none=>simp[EG]
 |some t=>cases t<;>rfl
theorem aFY(i:Nat)(aD:List Rec):nF J [] i aD I h ds Q=Q (.norm ⟨I,ds,h⟩):=propext ⟨fun⟨n,o,a,b,c⟩=>by subst a;exact c,fun q=>⟨0,.norm ⟨I,ds,h⟩,rfl,by simp,q⟩⟩
theorem aDu(d:Option S)(f:IR)(b:List Nat)(os:List (bH×List Nat))(i:Nat)(aD:List Rec):nF J ((⟨d,.rd f,none⟩,b)::os) i aD I h ds Q=vw (f.f I h) fun v=>nF J os (i+1) (⟨i,f,I,v⟩::aD) (cX d v I) h ds Q:=by
 have key:∀n,ky J (gT (exec J n) J) ((⟨d,.rd f,none⟩,b)::os) i aD I h ds=match f.f I h with
    |some v=>ky J (gT (exec J n) J) os (i+1) (⟨i,f,I,v⟩::aD) (cX d v I) h ds
    |none=>.no:=fun n=>rfl
 unfold nF;simp only[key];cases ar:f.f I h with
 |none=>simp[vw]
 |some v=>rfl
theorem aDv(d:Option S)(f:d5)(b:List Nat)(os:List (bH×List Nat))(i:Nat)(aD:List Rec):nF J ((⟨d,.pu f,none⟩,b)::os) i aD I h ds Q=vw (f.f I) fun v=>kK h b aD=true/\nF J os (i+1) aD (cX d v I) h ds Q:=by
 have key:∀n,ky J (gT (exec J n) J) ((⟨d,.pu f,none⟩,b)::os) i aD I h ds=@Option.rec V (fun _=>Out) .no (fun v=>match kK h b aD with
    |true=>ky J (gT (exec J n) J) os (i+1) aD (cX d v I) h ds
    |false=>.no) (f.f I):=fun n=>rfl
 unfold nF;simp only[key];cases ar:f.f I with
 |none=>simp[vw]
 |some v=>
  cases U:kK h b aD with
  |true=>simp[vw]
  |false=>simp[vw]
theorem aDw(d:Option S)(f:kg)(b:List Nat)(os:List (bH×List Nat))(i:Nat)(aD:List Rec):nF J ((⟨d,.mk f,none⟩,b)::os) i aD I h ds Q=(h.get h.next=none/\Fe (f.f I) fun o g=>nF J os (i+1) aD (cX d (g h.next) I) (h.new o) ds Q):=by
 have key:∀n,ky J (gT (exec J n) J) ((⟨d,.mk f,none⟩,b)::os) i aD I h ds=match h.get h.next with
    |none=>(match f.f I with
     |some (o,g)=>ky J (gT (exec J n) J) os (i+1) aD (cX d (g h.next) I) (h.new o) ds
     |none=>.no)
    |some _=>.no:=fun n=>rfl
 unfold nF;simp only[key];cases aC:h.get h.next with
 |some _=>simp
 |none=>
  cases ar:f.f I with
  |none=>simp[Fe]
  |some v=>simp[Fe]
theorem aDx(d:Option S)(f:g7)(b:List Nat)(os:List (bH×List Nat))(i:Nat)(aD:List Rec):nF J ((⟨d,.wr f,none⟩,b)::os) i aD I h ds Q=p2 (f.f I h) fun v aa=>kK aa b aD=true/\nF J os (i+1) aD (cX d v I) aa ds Q:=by
 have key:∀n,ky J (gT (exec J n) J) ((⟨d,.wr f,none⟩,b)::os) i aD I h ds=match f.f I h with
    |some (v,aa)=>(match kK aa b aD with
     |true=>ky J (gT (exec J n) J) os (i+1) aD (cX d v I) aa ds
     |false=>.no)
    |none=>.no:=fun n=>rfl
 unfold nF;simp only[key];cases ar:f.f I h with
 |none=>simp[p2]
 |some q=>
  obtain⟨v,aa⟩:=q;cases U:kK aa b aD with
  |true=>simp[p2,U]
  |false=>simp[p2,U]
theorem aIe(d:Option S)(f:X)(cT:List X)(b:List Nat)(os:List (bH×List Nat))(i:Nat)(aD:List Rec):nF J ((⟨d,.call f cT,none⟩,b)::os) i aD I h ds Q=vv J (f.a7 I) (hc I cT) h fun v aa=>kK aa b aD=true/\nF J os (i+1) aD (cX d v I) aa ds Q:=by
 have key:∀n,ky J (gT (exec J n) J) ((⟨d,.call f cT,none⟩,b)::os) i aD I h ds=match gT (exec J n) J (f.a7 I) (hc I cT) h with
    |some (v,aa)=>(match kK aa b aD with
     |true=>ky J (gT (exec J n) J) os (i+1) aD (cX d v I) aa ds
     |false=>.no)
    |none=>.no:=fun n=>rfl
 refine propext ⟨fun⟨n,o,a,aq,q⟩=>?_,fun⟨n,v,aa,ar,U,m,o,a,aq,q⟩=>?_⟩
 ·rw[key]at a;split at a
  ·rename_i v aa ar;split at a
   ·rename_i U;exact⟨n,v,aa,ar,U,n,o,a,aq,q⟩
   ·exact absurd a.symm aq
  ·exact absurd a.symm aq
 ·refine⟨max n m,o,?_,aq,q⟩;rw[key,amS (G4 n m) ar];simp only[U];exact aKP (G5 n m) a aq
theorem aJU(d:Option S)(o:bn)(g:S×Bool)(b:List Nat)(os:List (bH×List Nat))(i:Nat)(aD:List Rec):nF J ((⟨d,o,some g⟩,b)::os) i aD I h ds Q=EG (wanted (some g) I) (nF J ((⟨d,o,none⟩,b)::os) i aD I h ds Q) (nF J os (i+1) aD (cX d (.bk []) I) h ds Q):=by
 have key:∀n,ky J (gT (exec J n) J) ((⟨d,o,some g⟩,b)::os) i aD I h ds=match wanted (some g) I with
  |some true=>ky J (gT (exec J n) J) ((⟨d,o,none⟩,b)::os) i aD I h ds
  |some false=>ky J (gT (exec J n) J) os (i+1) aD (cX d (.bk []) I) h ds
  |none=>.no:=fun n=>by
  cases hw:wanted (some g) I with
  |none=>simp only[ky,hw]
  |some t=>cases t<;>simp only[ky,hw]<;>rfl
 unfold nF;simp only[key];cases aC:wanted (some g) I with
 |none=>simp[EG]
 |some t=>cases t<;>rfl
theorem aJV{g:FuncId}{args:List V}{R:V->H->Prop}{F:F}(aA:J.spec g args h=none)(dw:J.funcs g=some F)(hle:Nat.ble args.length F.n=true)(hw:wp J F.body ⟨kZ args 0 Fr.e,[],h⟩ (J7 J F.res R)):rI J g args h R:=by
 obtain⟨n,o,e,aq,q⟩:=hw;have key:ri (exec J n) J g args h=match exec J n F.body ⟨kZ args 0 Fr.e,[],h⟩with
   |.norm s=>leave J F.res s
   |.ret s=>leave J F.res s
   |_=>none:=by
  unfold ri;rw[aA];simp only;unfold wX;rw[dw];simp only[hle];rfl
 rw[e]at key;cases o<;>simp only[J7]at q<;>first|exact q.elim|skip
 all_goals
  rename_i s;simp only at key;cases au:leave J F.res s with
  |none=>rw[au]at q;exact q.elim
  |some r=>
   rw[au]at q key;exact⟨n,r.1,r.2,key,q⟩
theorem LJ{g:FuncId}{args:List V}{R:V->H->Prop}{v:V}{aa:H}(aA:J.spec g args h=some (v,aa))(aI:R v aa):rI J g args h R:=
 ⟨0,v,aa,by unfold ri;rw[aA],aI⟩
end rules
abbrev Lr:=@List.drop_take
abbrev wV:=@List.take_take
abbrev El:=@List.flatten_cons
def H.ok(h:H):Prop:=∀f,aH h.next<=aH f->h.get f=none
theorem H.ok.lt{h:H}(hk:h.ok){f:P}{o:O}(e:h.get f=some o):aH f<aH h.next:=by
 rcases dz (aH f) (aH h.next)with a|a
 ·exact a
 ·rw[hk f a]at e;cases e
theorem H.ok.new{h:H}(hk:h.ok)(o:O):(h.new o).ok:=fun f aE=>by
 have aE:aH h.next+1<=aH f:=by
  have:aH (rb h.next)<=aH f:=aE;rwa[gu]at this
 rw[H.lV _ _ (by rintro rfl;omega)];exact hk f (by omega)
theorem H.ok.set{h:H}(hk:h.ok){f:P}(aE:aH f<aH h.next)(o:O):(h.set f o).ok:=fun g aC=>by
 have aC:aH h.next<=aH g:=aC
 rw[H.ej _ _ (by rintro rfl;omega)];exact hk g aC
theorem H.ok.fresh{h:H}(hk:h.ok):h.get h.next=none:=hk _ (a1 _)
structure iI(h aa:H):Prop where
 ok:aa.ok
 next:aH h.next<=aH aa.next
 get:∀f,aH f<aH h.next->aa.get f=h.get f
theorem iI.refl{h:H}(hk:h.ok):iI h h:=⟨hk,a1 _,fun _ _=>rfl⟩
theorem iI.trans {a b c:H}(g:iI a b)(k:iI b c):iI a c:=⟨k.ok,iK g.next k.next,fun f aE=>(k.get f (oW aE g.next)).trans (g.get f aE)⟩
theorem iI.new{h aa:H}(g:iI h aa)(o:O):iI h (aa.new o):=⟨g.ok.new o,by
  show aH h.next<=aH (rb aa.next)
  rw[gu];have:=g.next;omega,fun f aE=>by
  rw[H.lV _ _ (by rintro rfl;have:=g.next;omega)];exact g.get f aE⟩
theorem iI.set{h aa:H}(g:iI h aa){f:P}(aE:aH h.next<=aH f)(ll:aH f<aH aa.next)(o:O):iI h (aa.set f o):=⟨g.ok.set ll o,g.next,fun k hk=>by
  rw[H.ej _ _ (by rintro rfl;omega)];exact g.get k hk⟩
theorem iI.wi{h aa:H}(g:iI h aa)(hk:h.ok){f:P}{o:O}(e:h.get f=some o):aa.get f=some o:=by rw[g.get f (hk.lt e)];exact e
theorem Hk{xs:List V}{off n:Nat}(h:off+n<=xs.length):range xs off n=some ((xs.drop off).take n):=by
 unfold range;rw[si,Ze _ _ (by simp;omega)]
theorem aKR{xs:List V}{off n:Nat}{r:List V}(h:range xs off n=some r):off+n<=xs.length\/n=0:=by
 have:=(aog h).1;simp at this;omega
def pJ(h:H)(f:P)(k off:Nat)(cs:List V):Prop:=∃ xs,live h f k=some xs/\off+cs.length<=xs.length/\(xs.drop off).take cs.length=cs
theorem pJ.t3{h aa:H}{f:P}{k off:Nat}{cs:List V}(c: pJ h f k off cs)(hk:h.ok)(g:iI h aa): pJ aa f k off cs:=by
 obtain⟨xs,h1,ae,az⟩:=c;refine⟨xs,?_,ae,az⟩;unfold live at h1⊢;cases e:h.get f with
 |none=>rw[e]at h1;cases h1
 |some o=>rw[g.wi hk e];rw[e]at h1;exact h1
theorem pJ.lt{h:H}{f:P}{k off:Nat}{cs:List V}(c: pJ h f k off cs)(hk:h.ok):aH f<aH h.next:=by
 obtain⟨xs,h1,_⟩:=c;unfold live at h1;cases e:h.get f with
 |none=>rw[e]at h1;cases h1
 |some o=>exact hk.lt e
theorem pJ.range{h:H}{f:P}{k off:Nat}{cs:List V}(c: pJ h f k off cs){i n:Nat}(ai:i+n<=cs.length):lu (live h f k) (off+i) n=some ((cs.drop i).take n):=by
 obtain⟨xs,h1,ae,az⟩:=c;rw[h1];show ao.range xs (off+i) n=_;rw[Hk (by omega),<-az];congr 1;rw[Lr,pH,wV,nl (by omega)]
theorem pJ.all{h:H}{f:P}{k off:Nat}{cs:List V}(c: pJ h f k off cs){n:Nat}(aq:n=cs.length):lu (live h f k) off n=some cs:=by
 have:=c.range (i:=0) (n:=n) (by omega);subst aq;simpa using this
def bB(h:H)(v:V)(es:Nat)(aV:List (List V)):Prop:=
 (∀e∈aV,e.length=es)/\((v=.al/\aV=[])\/∃f k off cap,v=.ag f k off aV.length es cap/\pJ h f k off aV.flatten)
theorem bB.t3{h aa:H}{v:V}{es:Nat}{aV:List (List V)}(s:bB h v es aV)(hk:h.ok)(g:iI h aa):bB aa v es aV:=by
 refine⟨s.1,?_⟩;rcases s.2 with a|⟨f,k,off,cap,a,c⟩
 ·exact .inl a
 ·exact .inr ⟨f,k,off,cap,a,c.t3 hk g⟩
theorem Hx{es:Nat}:∀{aV:List (List V)},(∀e∈aV,e.length=es) ->aV.flatten.length=aV.length*es
 |[],_=>by simp
 |e::aV,h=>by
  have h1:=h e (by simp);have ae:=Hx (aV:=aV) fun x ab=>h x (by simp[ab]);simp only[El,fi,h1,ae,eG];rw[eP];omega
theorem Zl{es:Nat}:∀{aV:List (List V)} {i:Nat} {e:List V},(∀e∈aV,e.length=es) ->aV[i]?=some e->(aV.flatten.drop (i*es)).take es=e
 |[],i,e,_,h=>by simp at h
 |x::aV,0,e,h,ai=>by
  simp at ai;subst ai;have h1:=h x (by simp);simp[<-h1]
 |x::aV,i+1,e,h,ai=>by
  have h1:=h x (by simp);have ae:=Zl (aV:=aV) (i:=i) (e:=e) (fun x ab=>h x (by simp[ab])) (by simpa using ai);rw[El,List.drop_append,ve (by rw[h1,eP];omega),h1];have:(i+1)*es-es=i*es:=by rw[eP];omega
  rw[this];simpa using ae
theorem bB.elem{h:H}{f:P}{k off n es:Nat}{cap:Option Nat}{aV:List (List V)}(s:bB h (.ag f k off n es cap) es aV){i:Nat}{e:List V}(he:aV[i]?=some e):lu (live h f k) (off+i*es) es=some e:=by
 obtain⟨au,a|⟨jw,ch,Du,Dv,a,c⟩⟩:=s
 ·cases a.1
 ·cases a;have ai:i<aV.length:=by
   rcases dz i aV.length with h|h
   ·exact h
   ·rw[ei h]at he;cases he
  rw[c.range (by rw[Hx au];have:=i0 es (show i+1<=aV.length from ai);rw[eP]at this;omega),Zl au he]
theorem bB.len{h:H}{f:P}{k off n es jA:Nat}{cap:Option Nat}{aV:List (List V)}(s:bB h (.ag f k off n jA cap) es aV):n=aV.length/\jA=es:=by
 obtain⟨au,a|⟨jw,ch,Du,Dv,a,c⟩⟩:=s
 ·cases a.1
 ·cases a;exact⟨rfl,rfl⟩
theorem bB.nil{h:H}{es:Nat}{aV:List (List V)}(s:bB h .al es aV):aV=[]:=by
 obtain⟨au,a|⟨jw,ch,Du,Dv,a,c⟩⟩:=s
 ·exact a.2
 ·cases a
theorem bB.a2{h:H}{v:V}{es:Nat}{aV:List (List V)}(s:bB h v es aV):uZ false v=some (.int .i64 (.ofNat aV.length)):=by
 obtain⟨au,⟨rfl,rfl⟩|⟨jw,ch,Du,Dv,rfl,c⟩⟩:=s<;>rfl
abbrev sb:=@Nat.sub_self
abbrev P9:=@Nat.div_lt_of_lt_mul
section
open Go.ChangeShapes
variable {p:Program}
def IV(M:aW)(h:H):Prop:=∀f k l,M f k=some l->¬h.jU f k
theorem Rel.aAL{M:aW}{h:H}{bh:Array Obj}(r:Rel p M h bh)(vx:IV M h){l:Loc}{c:Array Value}{ty:TypeId}{du:Nat×Nat}(ah:bh[l.bS]?=some (.cells c ty du)){xs:List V}(he:l.ext=xs.length)(hle:l.ext<=l.lim)
  (xQ:l.base+l.lim<=c.size) (ab:∀(i:Nat) (v:V),xs[i]?=some v->∃aL,c[l.base+i]?=some aL/\bm M v aL/\v.leaf=true):
  Rel p (M.add h.next 0 l) (h.new (.cells xs 0 0 .ro ty)) bh/\IV (M.add h.next 0 l) (h.new (.cells xs 0 0 .ro ty)):=by
 have lQ:=r.sk;have IW:M.le (M.add h.next 0 l):=aW.qo (lQ 0);have iz:∀{g:P} {k:Nat} {m:Loc},M.add h.next 0 l g k=some m->(g=h.next/\k=0/\m=l)\/(g≠h.next/\M g k=some m):=fun{g k m} e=>by
  by_cases aC:g=h.next
  ·by_cases hk:k=0
   ·rw[aC,hk,aW.add_same]at e;cases e;exact .inl ⟨aC,hk,rfl⟩
   ·rw[aW.mf M l (fun⟨_,h⟩=>hk h),aC,lQ]at e;cases e
  ·rw[aW.mf M l (fun⟨h,_⟩=>aC h)]at e;exact .inr ⟨aC,e⟩
 have jn:∀{g:P},g≠h.next->(h.new (.cells xs 0 0 .ro ty)).get g=h.get g:=fun e=>H.lV h _ (kv e)
 have Sa:IV (M.add h.next 0 l) (h.new (.cells xs 0 0 .ro ty)):=fun f k m e hw=>by
  rcases iz e with⟨aN,_,_⟩|⟨bV,cD⟩
  ·exact hw.2 xs 0 0 ty (by rw[aN];exact H.vp h _)
  ·exact vx f k m cD ((H.sm (jn bV)).1 hw)
 refine⟨⟨fun g k m e=>?_,fun g cV aZ dead md gF dO h1 av k i6 km=>?_,fun g o m h1 U av=>?_,fun g k m bR j c8 a b c d _ hw=>?_,fun g cV aZ dead md gF k h1 hk=>?_,fun g o k h1 U hk=>?_,fun g k m j c8 a b ah=>?_,fun g aC=>?_⟩,Sa⟩
 ·rcases iz e with⟨aN,bd,bO⟩|⟨_,cD⟩
  ·subst bO;refine⟨?_,by rw[aN,H.fF];omega,hle,m,by rw[aN];exact aW.add_same _ _ _ _⟩;rcases dz m.bS bh.size with h|h
   ·exact h
   ·rw[vd h]at ah;cases ah
  ·obtain⟨a,b,c,dO,d⟩:=r.i5 g k m cD;exact⟨a,by rw[H.fF];omega,c,dO,IW _ _ _ d⟩
 ·rcases iz av with⟨aN,bd,bO⟩|⟨bV,cD⟩
  ·rw[aN,H.vp]at h1;cases h1;have hk:k=0:=by omega
   subst hk;subst bO;exact⟨dO,av,fun h=>absurd rfl h,by omega,fun _=>he,c,du,ah,xQ,fun i v _ ar=>let⟨aL,a,b,d⟩:=ab i v ar;⟨aL,a,b.mono IW,d⟩,fun h=>by cases h⟩
  ·rw[jn bV]at h1;obtain⟨m,hm,U⟩:=r.cells g cV aZ dead md gF dO h1 cD k i6 km;exact⟨m,IW _ _ _ hm,U.congr IW rfl⟩
 ·rcases iz av with⟨aN,_,_⟩|⟨bV,cD⟩
  ·rw[aN,H.vp]at h1;cases h1;simp[O.k2]at U
  ·rw[jn bV]at h1;obtain⟨ah,cL,ae,aI⟩:=r.oh g o m h1 U cD;exact⟨ah,cL,ae,aI.mono IW⟩
 ·rcases hw with hw|hw
  ·exact absurd hw (Sa _ _ _ b)
  ·exact absurd hw (Sa _ _ _ d)
 ·cases e:M.add h.next 0 l g k with
  |none=>rfl
  |some m=>
   rcases iz e with⟨aN,bd,_⟩|⟨bV,cD⟩
   ·omega
   ·rw[jn bV]at h1;rw[r.n6 g cV aZ dead md gF k h1 hk]at cD;cases cD
 ·cases e:M.add h.next 0 l g k with
  |none=>rfl
  |some m=>
   rcases iz e with⟨aN,bd,_⟩|⟨bV,cD⟩
   ·omega
   ·rw[jn bV]at h1;rw[r.po g o k h1 U hk]at cD;cases cD
 ·rcases iz a with⟨_,_,bO⟩|⟨bV,fG⟩<;>rcases iz b with⟨_,_,eI⟩|⟨Vc,b3⟩
  ·rw[bO,eI]
  ·rename_i aN _;exact absurd aN Vc
  ·rename_i aN _;exact absurd aN bV
  ·exact r.base g k m j c8 fG b3 ah
 ·have yK:aH h.next+1<=aH g:=by
   have:aH (rb h.next)<=aH g:=aC;rwa[gu]at this
  rw[jn (by rintro rfl;omega)];exact r.lD g (by omega)
theorem eK.snoc{α β:Type}{R:α->β->Prop}:∀{cT:List α} {bs:List β},eK R cT bs->∀{a:α} {b:β},R a b->eK R (cT++[a]) (bs++[b])
 |_,_,.nil,_,_,h=>.cons h .nil
 |_,_,.cons x t,_,_,h=>.cons x (t.snoc h)
structure z5(p:Program)(w:World)(M:aW)(h:H):Prop where
 rel:Rel p M h w.heap
 vx:IV M h
theorem z5.ok{w:World}{M:aW}{h:H}(a:z5 p w M h):h.ok:=a.rel.lD
def oT{X:Type}(p:Program)(w:World)(enc:TypeId×Value->X)(held:Bool)(t:TypeId){α:Type}(R:H->α->List V->Prop):Prop:=
 ∀(fuel:Nat) (cs:List Value) (x:DataW X×List MemPlace) (M:aW) (h:H),DataW.trod enc p w 0 (fun _=>true) held fuel t cs=some x->z5 p w M h->
  ∃(aT:aW) (aa:H) (aF:List V) (a:α),z5 p w aT aa/\M.le aT/\iI h aa/\dq aT aF cs/\(∀v∈aF,v.leaf=true)/\aF.length=p.cellsOf t/\R aa a aF
def rk{α:Type}(R:H->α->List V->Prop):Prop:=∀h aa a aF,R h a aF->h.ok->iI h aa->R aa a aF
def mx(k:IntKind)(_:H)(n:Int)(aF:List V):Prop:=aF=[.int k n]/\(Lit.int k n).wf=true
def Gx(_:H)(b:Bool)(aF:List V):Prop:=aF=[.bool b]
def nM(_:H)(s:List Nat)(aF:List V):Prop:=aF=[.str s]/\s.length<=maxLen/\∀b∈s,b<256
theorem mx.eD(k:IntKind):rk (mx k):=fun _ _ _ _ a _ _=>a
theorem Gx.eD:rk Gx:=fun _ _ _ _ a _ _=>a
theorem nM.eD:rk nM:=fun _ _ _ _ a _ _=>a
def J8(v:V):Prop:=match v with|.ag _ _ _ _ _ (some _)=>False|_=>True
def hL{α:Type}(es:Nat)(R:H->α->List V->Prop)(h:H)(l:List α)(aF:List V):Prop:=∃v aV,aF=[v]/\bB h v es aV/\eK (R h) l aV/\J8 v/\l.length<9223372036854775808
theorem hL.eD{α:Type}{es:Nat}{R:H->α->List V->Prop}(dP:rk R):rk (hL es R):=fun h aa l aF ⟨v,aV,a,b,c,d⟩ hk g=>⟨v,aV,a,b.t3 hk g,c.imp fun _ _ x=>dP h aa _ _ x hk g,d⟩
def i7{α β:Type}(A:H->α->List V->Prop)(B:H->β->List V->Prop)(h:H)(x:α×β)(aF:List V):Prop:=∃us ws,aF=us++ws/\A h x.1 us/\B h x.2 ws
theorem i7.eD{α β:Type}{A:H->α->List V->Prop}{B:H->β->List V->Prop}(bN:rk A)(ah:rk B):rk (i7 A B):=fun h aa _ _ ⟨us,ws,e,a,b⟩ hk g=>⟨us,ws,e,bN h aa _ _ a hk g,ah h aa _ _ b hk g⟩
section
variable {X:Type}{w:World}{enc:TypeId×Value->X}{held:Bool}{t:TypeId}
theorem Qa{k:IntKind}(bp: p.underlying t=some (.int k))(U: p.cellsOf t=1):oT p w enc held t (mx k):=fun fuel cs x M h ab a=>by
 obtain⟨n,rfl,rfl,hw⟩:=DataW.trod_int bp ab;exact⟨M,h,[.int k n],n,a,aW.le_refl M,.refl a.ok,.cons (.int k n) .nil,by simp[V.leaf],by simp[U],rfl,hw⟩
theorem aIf(bp: p.underlying t=some .bool)(U: p.cellsOf t=1):oT p w enc held t Gx:=fun fuel cs x M h ab a=>by
 obtain⟨b,rfl,rfl⟩:=DataW.trod_bool bp ab;exact⟨M,h,[.bool b],b,a,aW.le_refl M,.refl a.ok,.cons (.bool b) .nil,by simp[V.leaf],by simp[U],rfl⟩
theorem Ls(bp: p.underlying t=some .string)(U: p.cellsOf t=1):oT p w enc held t nM:=fun fuel cs x M h ab a=>by
 obtain⟨s,rfl,rfl,au⟩:=DataW.trod_string bp ab;refine⟨M,h,[.str (gi s)],gi s,a,aW.le_refl M,.refl a.ok,.cons (.str s) .nil,by simp[V.leaf],by simp[U],rfl,?_,?_⟩
 ·unfold gi;simp;exact au
 ·intro b ah;unfold gi at ah;simp only[Ek]at ah;obtain⟨x,_,rfl⟩:=ah;exact x.toNat_lt
theorem Ye{a:Addr}{v:Value}(h:w.cell? a=some v):∃c ty du,w.heap[a.block]?=some (.cells c ty du)/\a.spot=none/\c[a.off]?=some v:=by
 unfold World.cell? at h;split at h
 ·rename_i c ty du U;split at h
  ·cases h
  ·rename_i aA;exact⟨c,ty,du,U,by simpa using aA,h⟩
 ·cases h
theorem Qr{a:Addr}(h:a.spot=none)(n:Nat):a.add n=⟨a.block,a.off+n,none⟩:=by
 unfold Addr.add;obtain⟨b,o,s⟩:=a;simp only at h;subst h;split
 ·rename_i aq;subst aq;rfl
 ·rfl
theorem Ex{α:Type}{R:H->α->List V->Prop}(dP:rk R){e:TypeId}(bp: p.underlying t=some (.slice e))(U: p.cellsOf t=1){es:Nat}(m4: p.cellsOf e=es)(pq:0<es)(bN:oT p w enc held e R)
  (anchor:∃(b:Nat) (c:Array Value) (ty:TypeId) (du:Nat×Nat),w.heap[b]?=some (.cells c ty du)):oT p w enc held t (hL es R):=fun fuel cs x M h ab a=>by
 rcases DataW.trod_slice bp ab with⟨rfl,rfl⟩|⟨sr,len,cap,elems,rest,n,rfl,rfl,_,ah,RJ,hm,hlen,tC,IX,_⟩
 ·exact⟨M,h,[.al],[],a,aW.le_refl M,.refl a.ok,.cons .al .nil,by simp[V.leaf],by simp[U],.al,[],rfl,⟨by simp,.inl ⟨rfl,rfl⟩⟩,.nil,trivial,by simp⟩
 rw[m4]at tC IX;obtain⟨rE,zz⟩:=IX rfl;have pB:∀i,i<cap->∃c,w.cells? 0 (sr.add (i*es)) es=some c:=fun i ai=>by
  by_cases h1:i<len
  ·have:=tC i h1;rw[hN (by omega),bK]at this;exact⟨_,this.choose_spec.1⟩
  ·have:=zz (i-len) (by omega);rw[show len+(i-len)=i by omega,hN (by omega),bK]at this;exact⟨_,this.choose_spec.1⟩
 have build:∀m,m<=len->∃(aT:aW) (aa:H) (aV:List (List V)) (cT:List α),z5 p w aT aa/\M.le aT/\iI h aa/\aV.length=m/\(∀e∈aV,e.length=es)/\
   (∀i oC,aV[i]?=some oC->∃c,w.cells? 0 (sr.add (i*es)) es=some c/\dq aT oC c/\∀v∈oC,v.leaf=true)/\eK (R aa) cT aV:=fun m=>by
  induction m with
  |zero=>exact fun _=>⟨M,h,[],[],a,aW.le_refl M,.refl a.ok,rfl,by simp,by simp,.nil⟩
  |succ m ih=>
   intro lk;obtain⟨hZ,h1,aV,cT,cB,bU,bC,b0,cM,fr,f0⟩:=ih (by omega);have:=tC m (by omega);rw[hN (by omega),bK]at this;obtain⟨c,nD,tD⟩:=this;obtain⟨sp,ae,aF,d,c1,c2,dF,fs,jY,qK,w4⟩:=bN n c _ hZ h1 tD cB;refine⟨sp,ae,aV++[aF],cT++[d],c1,aW.le_trans bU c2,bC.trans dF,by simp[b0],fun e he=>?_,fun i oC ai=>?_,?_⟩
   ·rcases List.mem_append.1 he with he|he
    ·exact cM e he
    ·simp at he;subst he;rw[qK,m4]
   ·rcases dz i aV.length with ay|vQ
    ·rw[nP ay]at ai;obtain⟨fT,bG,ct,dR⟩:=fr i oC ai;exact⟨fT,bG,ct.mono c2,dR⟩
    ·rw[oo vQ]at ai;have sI:i=m:=by
      rcases Nat.eq_or_lt_of_le vQ with h|h
      ·omega
      ·rw[ei (by simp;omega)]at ai;cases ai
     subst sI;rw[b0,sb]at ai;simp at ai;subst ai;exact⟨c,nD,fs,jY⟩
   ·exact(f0.imp fun _ _ x=>dP h1 ae _ _ x cB.ok dF).snoc w4
 obtain⟨hZ,h1,aV,cT,cB,bU,bC,b0,cM,fr,f0⟩:=build len (a1 _);have yL:=Hx cM;have hblk:∃(l:Loc) (c:Array Value) (ty:TypeId) (du:Nat×Nat),w.heap[l.bS]?=some (.cells c ty du)/\l.ext=len*es/\l.lim=cap*es/\l.base+l.lim<=c.size/\(cap=0\/(sr=⟨l.bS,l.base,none⟩/\sr.spot=none)):=by
  rcases nS cap with av|av
  ·obtain⟨b,c,ty,du,ah⟩:=anchor;have mK:len=0:=by omega
   exact⟨⟨b,0,0,0⟩,c,ty,du,ah,by simp[mK],by simp[av],by simp,.inl av⟩
  ·obtain⟨mh,sF⟩:=pB 0 av;obtain⟨_,_,q⟩:=World.cells?_some sF;have iC:=q 0 pq;rw[Nat.zero_mul]at iC;have bA:(sr.add 0).add 0=sr:=by simp[Addr.add]
   rw[bA,hN (by have:=(World.cells?_some sF).2.1;omega)]at iC;obtain⟨c,ty,du,aB,aY,b4⟩:=Ye iC;refine⟨⟨sr.block,sr.off,len*es,cap*es⟩,c,ty,du,aB,rfl,rfl,?_,.inr ⟨by obtain⟨x,y,z⟩:=sr;simp only at aY;subst aY;rfl,aY⟩⟩;obtain⟨c1,nD⟩:=pB (cap-1) (by omega);obtain⟨_,jB,q⟩:=World.cells?_some nD;have bj:=q (es-1) (by omega);rw[Qr aY,hN (by omega)]at bj;rw[Qr rfl]at bj;obtain⟨fT,gF,av3,bW,_,fo⟩:=Ye bj;simp only at bW fo;rw[aB]at bW;cases bW;have ay:sr.off+(cap-1)*es+(es-1)<c.size:=by
    rcases dz (sr.off+(cap-1)*es+(es-1)) c.size with h|h
    ·exact h
    ·rw[vd h]at fo;cases fo
   have:cap*es=(cap-1)*es+es:=by
    obtain⟨k,rfl⟩:∃k,cap=k+1:=⟨cap-1,by omega⟩;simp[eP]
   simp only;omega
 obtain⟨l,c,ty,du,bW,c3,fo,mE,lX⟩:=hblk;obtain⟨dX,MR⟩:=cB.rel.aAL cB.vx (xs:=aV.flatten) bW (by rw[c3,yL,b0]) (by rw[c3,fo];exact i0 es RJ) mE fun i v ar=>by
  have ai:i<len*es:=by
   rcases dz i (len*es)with h|h
   ·exact h
   ·rw[ei (by rw[yL,b0];exact h)]at ar;cases ar
  have aM:i/es<len:=P9 (by rwa[js]at ai);have aRg:0<len:=Nat.lt_of_le_of_lt (dk _) aM;have aAM:cap≠0:=by omega
  obtain⟨lX,ss⟩:=lX.resolve_left aAM;have he:aV[i/es]?=some (aV[i/es]'(by omega)):=hN (by omega)
  obtain⟨ci,bG,ct,dR⟩:=fr _ _ he;have R2:=Zl cM he;have afJ:(aV[i/es]'(by omega))[i%es]?=some v:=by
   rw[<-R2,qp (qv _ pq),qq,<-ar];congr 1;rw[js];exact Lb i es
  obtain⟨aL,tr,o5⟩:=ct.get afJ;obtain⟨_,_,z⟩:=World.cells?_some bG;have i2:=z (i%es) (qv _ pq);rw[tr,Qr ss,Qr rfl]at i2;obtain⟨fT,gF,av3,aB,_,b4⟩:=Ye i2;simp only at aB b4;rw[lX]at aB b4;simp only at aB b4;rw[bW]at aB;cases aB;refine⟨aL,?_,o5,dR v (c0 afJ)⟩;rw[<-b4];congr 1;have:=Lb i es;rw[js]at this;omega
 have aY:iI h1 (h1.new (.cells aV.flatten 0 0 .ro ty)):=(iI.refl cB.ok).new _;refine⟨_,_,[.ag h1.next 0 0 len es none],cT,⟨dX,MR⟩,aW.le_trans bU (aW.qo (cB.rel.sk 0)),bC.trans aY,.cons (.ag (l:=l) (aW.add_same _ _ _ _) (by rw[c3];omega) ?_ RJ (fun c e=>by cases e) (fun _=>by rw[fo];omega)) .nil,by simp[V.leaf],by simp[U],_,aV,rfl,⟨cM,.inr ⟨h1.next,0,0,none,by rw[b0],aV.flatten,?_,by rw[eH];exact a1 _,by rw[iL,g5]⟩⟩,f0.imp fun _ _ x=>dP _ _ _ _ x cB.ok aY,trivial,by
  have h1:cap<=9223372036854775807:=hm;have ae:cT.length=aV.length:=f0.length;omega⟩
 ·rcases lX with h|⟨h,_⟩
  ·exact .inl h
  ·exact .inr (by rw[h];rfl)
 ·unfold live;rw[H.vp];rfl
end
end
noncomputable abbrev a4:Program:=Go.Proofs.Tryz.prog
def ids:al2:={Yy:=260,count:=285,jm:=461,index:=287,make:=448,cmp:=778,sorted:=174,keys:=301,del:=255,afz:=256,maxLen:=[.oy],alc:=5,akr:=3,aks:=192}
noncomputable def iF:Prog:={funcs:=fun g=>(a4.funcs[g]?).bind (zy a4),spec:=Gr ids,quiet:=fun g=>Nat.beq g 290}
abbrev tb:=@List.eq_nil_of_length_eq_zero
abbrev wW:=@List.map_append
section
variable {X:Type}
mutual
def Az:DataW X->List (List UInt8)
 |.lit (.string b)=>[b]
 |.agg ds=>Oe ds
 |_=>[]
def Oe:List (DataW X) ->List (List UInt8)
 |[]=>[]
 |d::ds=>Az d++Oe ds
end
end
theorem YE{Y:Type}(F:Y->List (List UInt8))(c:Nat):∀(xs:List Y) (cs:List Value),cs.length=xs.length*c->(∀i x,xs[i]?=some x->∃kO:List ByteArray,(cs.drop (i*c)).take c=kO.map Value.string/\F x=kO.map fun s=>s.data.toList) ->
  ∃kO:List ByteArray,cs=kO.map Value.string/\xs.flatMap F=kO.map fun s=>s.data.toList
 |[],cs,au,_=>by
  have:cs=[]:=tb (by simpa using au);subst this;exact⟨[],rfl,rfl⟩
 |x::xs,cs,au,h=>by
  obtain⟨HQ,mW,b2⟩:=h 0 x rfl;rw[Nat.zero_mul,iL]at mW;have eB:cs.length=xs.length*c+c:=by rw[au,eG,eP];omega
  obtain⟨s1,bJ,cB⟩:=YE F c xs (cs.drop c) (by rw[jG];omega) fun i y ax=>by
   obtain⟨s,a,b⟩:=h (i+1) y (by simpa using ax);refine⟨s,?_,b⟩;rw[pH,<-a];congr 2;rw[eP];omega
  refine⟨HQ++s1,?_,by simp[b2,cB]⟩;rw[wW,<-mW,<-bJ,zI]
theorem amT{X Z:Type}(xs:List (DataW X×Z)):Oe (xs.map (·.1))=xs.flatMap fun x=>Az x.1:=by
 induction xs with
 |nil=>rfl
 |cons x xs ih=>simp only[nQ,Oe,ih,List.flatMap_cons]
section
variable {X:Type}{P:Program}{w:World}{enc:TypeId×Value->X}{held:Bool}
def Bp(P:Program)(w:World)(enc:TypeId×Value->X)(held:Bool)(t:TypeId):Prop:=∀(fuel:Nat) (cs:List Value) (x:DataW X×List MemPlace),DataW.trod enc P w 0 (fun _=>true) held fuel t cs=some x->∃kO:List ByteArray,cs=kO.map Value.string/\Az x.1=kO.map fun s=>s.data.toList
theorem aKS{t:TypeId}(bp:P.underlying t=some .string):Bp P w enc held t:=fun fuel cs x h=>by
 obtain⟨s,rfl,rfl,_⟩:=DataW.trod_string bp h;exact⟨[s],rfl,rfl⟩
theorem anP{t e:TypeId}{n:Nat}(bp:P.underlying t=some (.array n e))(U:P.cellsOf t=n*P.cellsOf e)(he:Bp P w enc held e):Bp P w enc held t:=fun fuel cs x h=>by
 obtain⟨xs,m,_,rfl,au,aq,tC⟩:=DataW.trod_array bp h;obtain⟨kO,a,b⟩:=YE (fun x:DataW X×List MemPlace=>Az x.1) (P.cellsOf e) xs cs (by rw[au,U,aq]) fun i y ax=>by
  have ai:i<n:=by
   rcases dz i xs.length with h|h
   ·omega
   ·rw[ei h]at ax;cases ax
  have:=tC i ai;rw[ax]at this;exact he m _ y this
 exact⟨kO,a,by rw[<-b];exact amT xs⟩
theorem aKT{t:TypeId}{bt:Array Field}{e:TypeId}(bp:P.underlying t=some (.struct bt))(U:P.cellsOf t=bt.size*P.cellsOf e)(aE:∀i f,bt[i]?=some f->f.type=e/\f.offset=i*P.cellsOf e)(he:Bp P w enc held e):Bp P w enc held t:=fun fuel cs x h=>by
 obtain⟨xs,m,_,rfl,au,aq,tC⟩:=DataW.trod_struct bp h;obtain⟨kO,a,b⟩:=YE (fun x:DataW X×List MemPlace=>Az x.1) (P.cellsOf e) xs cs (by rw[au,U,aq]) fun i y ax=>by
  have ai:i<bt.size:=by
   rcases dz i xs.length with h|h
   ·omega
   ·rw[ei h]at ax;cases ax
  obtain⟨h1,ae⟩:=aE i bt[i] (by simp[ai]);have:=tC i bt[i] (by simp[ai]);rw[ax,h1,ae]at this;exact he m _ y this
 exact⟨kO,a,by rw[<-b];exact amT xs⟩
end
theorem amU(M:aW):∀{kO:List ByteArray} {bs:List (List UInt8)},kO.map (fun s=>s.data.toList)=bs->dq M (bs.map fun b=>V.str (b.map UInt8.toNat)) (kO.map Value.string)
 |[],bs,h=>by simp at h;subst h;exact .nil
 |s::kO,bs,h=>by
  subst h;exact .cons (.str s) (amU M rfl)
theorem YF{P:Program}{w:World}:∀{l:List (String×DataW Unit)} {ps:List MemPlace} {n:String} {d:DataW Unit},DataW.LaidVars P w l ps->(n,d)∈l->∃g t cs fuel p,P.globalNamed n=some g/\(P.globals[g]?).map (·.type)=some t/\w.var? P n=some cs/\DataW.trod (fun _=>()) P w 0 (fun _=>true) false fuel t cs.toList=some (d,p)
 |[],_,n,d,_,h=>by cases h
 |(m,o4)::l,ps,n,d,au,h=>by
  obtain⟨g,t,cs,fuel,p,q,a,b,c,e,r,_⟩:=au;rcases List.mem_cons.1 h with h|h
  ·cases h;exact⟨g,t,cs,fuel,p,a,b,c,e⟩
  ·exact YF r h
inductive c4 where
 |done (Q:Out->Prop)|ret (res:List qG) (R:V->H->Prop)|seq (b:C) (k:c4)|bS (id:Nat) (k:c4)
def c4.run(J:Prog):c4->Out->Prop
 |.done Q,o=>Q o
 |.ret res R,o=>J7 J res R o
 |.seq b k,o=>wF o (fun t=>wp J b t (c4.run J k)) (c4.run J k)
 |.bS id k,o=>c4.run J k (x1 id o)
def dA(J:Prog)(c:C)(s:eM)(k:c4):Prop:=wp J c s (c4.run J k)
def fu(J:Prog)(ops:List bH)(I:Fr)(h:H)(ds:dB)(k:c4):Prop:=qj J ops I h ds (c4.run J k)
def wd(J:Prog)(ops:List (bH×List Nat))(i:Nat)(aD:List Rec)(I:Fr)(h:H)(ds:dB)(k:c4):Prop:=nF J ops i aD I h ds (c4.run J k)
def IY(J:Prog)(x:Option V)(d:Option S)(os:List bH)(I:Fr)(h:H)(ds:dB)(k:c4):Prop:=vw x fun v=>fu J os (cX d v I) h ds k
def Sb(J:Prog)(x:Option (V×H))(d:Option S)(os:List bH)(I:Fr)(ds:dB)(k:c4):Prop:=p2 x fun v h=>fu J os (cX d v I) h ds k
def MS(J:Prog)(x:Option (O×(P->V)))(d:Option S)(os:List bH)(I:Fr)(h:H)(ds:dB)(k:c4):Prop:=Fe x fun o g=>fu J os (cX d (g h.next) I) (h.new o) ds k
def oL(J:Prog)(f:V)(args:List V)(h:H)(d:Option S)(os:List bH)(I:Fr)(ds:dB)(k:c4):Prop:=vv J f args h fun v h=>fu J os (cX d v I) h ds k
def Sc(J:Prog)(v:V)(a b:C)(s:eM)(k:c4):Prop:=Pj v (dA J a s k) (dA J b s k)
def xr(J:Prog)(x:Option Bool)(o:bH)(os:List bH)(I:Fr)(h:H)(ds:dB)(k:c4):Prop:=EG x (fu J (o::os) I h ds k) (fu J os (cX o.dst (.bk []) I) h ds k)
def IZ(J:Prog)(x:Option V)(d:Option S)(b:List Nat)(os:List (bH×List Nat))(i:Nat)(aD:List Rec)(I:Fr)(h:H)(ds:dB)(k:c4):Prop:=vw x fun v=>kK h b aD=true/\wd J os (i+1) aD (cX d v I) h ds k
def Sd(J:Prog)(x:Option V)(d:Option S)(f:IR)(os:List (bH×List Nat))(i:Nat)(aD:List Rec)(I:Fr)(h:H)(ds:dB)(k:c4):Prop:=vw x fun v=>wd J os (i+1) (⟨i,f,I,v⟩::aD) (cX d v I) h ds k
def MT(J:Prog)(x:Option (O×(P->V)))(d:Option S)(os:List (bH×List Nat))(i:Nat)(aD:List Rec)(I:Fr)(h:H)(ds:dB)(k:c4):Prop:=h.get h.next=none/\Fe x fun o g=>wd J os (i+1) aD (cX d (g h.next) I) (h.new o) ds k
def Se(J:Prog)(x:Option (V×H))(d:Option S)(b:List Nat)(os:List (bH×List Nat))(i:Nat)(aD:List Rec)(I:Fr)(ds:dB)(k:c4):Prop:=p2 x fun v h=>kK h b aD=true/\wd J os (i+1) aD (cX d v I) h ds k
def tL(J:Prog)(f:V)(args:List V)(h:H)(d:Option S)(b:List Nat)(os:List (bH×List Nat))(i:Nat)(aD:List Rec)(I:Fr)(ds:dB)(k:c4):Prop:=vv J f args h fun v h=>kK h b aD=true/\wd J os (i+1) aD (cX d v I) h ds k
def xt(J:Prog)(x:Option Bool)(o:bH)(b:List Nat)(os:List (bH×List Nat))(i:Nat)(aD:List Rec)(I:Fr)(h:H)(ds:dB)(k:c4):Prop:=EG x (wd J ((o,b)::os) i aD I h ds k) (wd J os (i+1) aD (cX o.dst (.bk []) I) h ds k)
section
variable {J:Prog}{s:eM}{I:Fr}{h:H}{ds:dB}{k:c4}
theorem aFZ:dA J .skip s k=k.run J (.norm s):=wp_skip
theorem aIg:dA J .label s k=k.run J (.norm s):=wp_label
theorem aDy:dA J .ret s k=k.run J (.ret s):=wp_ret
theorem aF0(i:Nat):dA J (.exit i) s k=k.run J (.exit i s):=wp_exit i
theorem aDz(ops:List bH):dA J (.cF ops) ⟨I,ds,h⟩ k=fu J ops I h ds k:=aDt ops
theorem aF1(ops:List (bH×List Nat)):dA J (.qi ops) ⟨I,ds,h⟩ k=wd J ops 0 [] I h ds k:=aFT ops
theorem aF2(x:X)(a b:C):dA J (.cond x a b) ⟨I,ds,h⟩ k=Sc J (x.a7 I) a b ⟨I,ds,h⟩ k:=wp_cond x a b
theorem aIh(id:Nat)(c:C):dA J (.block id c) s k=dA J c s (.bS id k):=wp_block id c
theorem aDA(a b:C):dA J (.seq a b) s k=dA J a s (.seq b k):=wp_seq a b
theorem aLI(b:C):(c4.seq b k).run J (.norm s)=dA J b s k:=rfl
theorem aLp(b:C):(c4.seq b k).run J (.ret s)=k.run J (.ret s):=rfl
theorem aLJ(b:C)(i:Nat):(c4.seq b k).run J (.exit i s)=k.run J (.exit i s):=rfl
theorem aLK(i:Nat):(c4.bS i k).run J (.norm s)=k.run J (.norm s):=rfl
theorem aLq(i:Nat):(c4.bS i k).run J (.ret s)=k.run J (.ret s):=rfl
theorem aLL(i j:Nat):(c4.bS i k).run J (.exit j s)=if j=i then k.run J (.norm s)else k.run J (.exit j s):=by
 show c4.run J k (x1 i (.exit j s))=_;unfold x1;by_cases e:j=i
 ·subst e;simp
 ·have:Nat.beq j i=false:=by
   cases ah:Nat.beq j i with
   |false=>rfl
   |true=>exact absurd (dI ah) e
  simp only[this,bf e]
theorem aLM(res:List qG)(R:V->H->Prop):(c4.ret res R).run J (.norm s)=p2 (leave J res s) R:=rfl
theorem aLr(res:List qG)(R:V->H->Prop):(c4.ret res R).run J (.ret s)=p2 (leave J res s) R:=rfl
theorem jV(Q:Out->Prop)(o:Out):(c4.done Q).run J o=Q o:=rfl
theorem aDB:fu J [] I h ds k=k.run J (.norm ⟨I,ds,h⟩):=aId
theorem akC(d:Option S)(i:d5)(os:List bH):fu J (⟨d,.pu i,none⟩::os) I h ds k=IY J (i.f I) d os I h ds k:=aFU d i os
theorem aAN(d:Option S)(i:IR)(os:List bH):fu J (⟨d,.rd i,none⟩::os) I h ds k=IY J (i.f I h) d os I h ds k:=aFV d i os
theorem aAO(d:Option S)(i:kg)(os:List bH):fu J (⟨d,.mk i,none⟩::os) I h ds k=MS J (i.f I) d os I h ds k:=aFW d i os
theorem akD(d:Option S)(i:g7)(os:List bH):fu J (⟨d,.wr i,none⟩::os) I h ds k=Sb J (i.f I h) d os I ds k:=aFX d i os
theorem aF3(d:Option S)(f:X)(cT:List X)(os:List bH):fu J (⟨d,.call f cT,none⟩::os) I h ds k=oL J (f.a7 I) (hc I cT) h d os I ds k:=aJT d f cT os
theorem amV(d:Option S)(i:bn)(g:S×Bool)(os:List bH):fu J (⟨d,i,some g⟩::os) I h ds k=xr J (wanted (some g) I) ⟨d,i,none⟩ os I h ds k:=aKQ d i g os
theorem aIi(v:V)(d:Option S)(os:List bH):IY J (some v) d os I h ds k=fu J os (cX d v I) h ds k:=rfl
theorem aIj(v:V)(h:H)(d:Option S)(os:List bH):Sb J (some (v,h)) d os I ds k=fu J os (cX d v I) h ds k:=rfl
theorem aIk(o:O)(g:P->V)(d:Option S)(os:List bH):MS J (some (o,g)) d os I h ds k=fu J os (cX d (g h.next) I) (h.new o) ds k:=rfl
theorem aIl(a b:C):Sc J (.bool true) a b s k=dA J a s k:=rfl
theorem aJW(a b:C):Sc J (.bool false) a b s k=dA J b s k:=rfl
theorem aDC(i:Nat)(aD:List Rec):wd J [] i aD I h ds k=k.run J (.norm ⟨I,ds,h⟩):=aFY i aD
theorem akE(d:Option S)(f:d5)(b:List Nat)(os:List (bH×List Nat))(i:Nat)(aD:List Rec):wd J ((⟨d,.pu f,none⟩,b)::os) i aD I h ds k=IZ J (f.f I) d b os i aD I h ds k:=aDv d f b os i aD
theorem aAP(d:Option S)(f:IR)(b:List Nat)(os:List (bH×List Nat))(i:Nat)(aD:List Rec):wd J ((⟨d,.rd f,none⟩,b)::os) i aD I h ds k=Sd J (f.f I h) d f os i aD I h ds k:=aDu d f b os i aD
theorem aAQ(d:Option S)(f:kg)(b:List Nat)(os:List (bH×List Nat))(i:Nat)(aD:List Rec):wd J ((⟨d,.mk f,none⟩,b)::os) i aD I h ds k=MT J (f.f I) d os i aD I h ds k:=aDw d f b os i aD
theorem akF(d:Option S)(f:g7)(b:List Nat)(os:List (bH×List Nat))(i:Nat)(aD:List Rec):wd J ((⟨d,.wr f,none⟩,b)::os) i aD I h ds k=Se J (f.f I h) d b os i aD I ds k:=aDx d f b os i aD
theorem aF4(d:Option S)(f:X)(cT:List X)(b:List Nat)(os:List (bH×List Nat))(i:Nat)(aD:List Rec):wd J ((⟨d,.call f cT,none⟩,b)::os) i aD I h ds k=tL J (f.a7 I) (hc I cT) h d b os i aD I ds k:=aIe d f cT b os i aD
theorem amW(d:Option S)(o:bn)(g:S×Bool)(b:List Nat)(os:List (bH×List Nat))(i:Nat)(aD:List Rec):wd J ((⟨d,o,some g⟩,b)::os) i aD I h ds k=xt J (wanted (some g) I) ⟨d,o,none⟩ b os i aD I h ds k:=aJU d o g b os i aD
theorem aIm(v:V)(d:Option S)(os:List (bH×List Nat))(i:Nat)(aD:List Rec):IZ J (some v) d [] os i aD I h ds k=wd J os (i+1) aD (cX d v I) h ds k:=propext ⟨fun a=>a.2,fun a=>⟨rfl,a⟩⟩
theorem aIn(v:V)(d:Option S)(f:IR)(os:List (bH×List Nat))(i:Nat)(aD:List Rec):Sd J (some v) d f os i aD I h ds k=wd J os (i+1) (⟨i,f,I,v⟩::aD) (cX d v I) h ds k:=rfl
theorem aIo(hk:h.ok)(o:O)(g:P->V)(d:Option S)(os:List (bH×List Nat))(i:Nat)(aD:List Rec):MT J (some (o,g)) d os i aD I h ds k=wd J os (i+1) aD (cX d (g h.next) I) (h.new o) ds k:=propext ⟨fun a=>a.2,fun a=>⟨hk.fresh,a⟩⟩
theorem lU{c:C}(bn:Nat->eM->Prop)(step:∀m t,bn m t->dA J c t (.done fun o=>wF o (fun h0=>∃c8,c8<m/\bn c8 h0) (k.run J))){m:Nat}{t:eM}(ai:bn m t):dA J (.loop c) t k:=wp_loop bn step ai
theorem aJX(bn:eM->Prop)(Q:Out->Prop):(c4.done fun o=>wF o bn Q).run J (.norm s)=bn s:=rfl
theorem aIp(bn:eM->Prop)(Q:Out->Prop):(c4.done fun o=>wF o bn Q).run J (.ret s)=Q (.ret s):=rfl
theorem aJY(bn:eM->Prop)(Q:Out->Prop)(i:Nat):(c4.done fun o=>wF o bn Q).run J (.exit i s)=Q (.exit i s):=rfl
theorem ya{g:FuncId}{args:List V}{R:V->H->Prop}{F:F}(aA:J.spec g args h=none)(dw:J.funcs g=some F)(hle:Nat.ble args.length F.n=true)(hw:dA J F.body ⟨kZ args 0 Fr.e,[],h⟩ (.ret F.res R)):rI J g args h R:=aJV aA dw hle hw
end
def oi(J:Prog)(g:FuncId)(args:List V)(h:H)(v:V)(aa:H):Prop:=∃n,ri (exec J n) J g args h=some (v,aa)
theorem anQ{J:Prog}{g:FuncId}{args:List V}{h:H}{n m:Nat}{q:V×H}(iS:n<=m)(e:ri (exec J n) J g args h=some q):ri (exec J m) J g args h=some q:=by
 rcases ZB (yh J iS) J g args h with h|h
 ·rw[e]at h;cases h
 ·rw[<-h,e]
theorem oi.eq{J:Prog}{g:FuncId}{args:List V}{h:H}{v:V}{aa:H}(a:oi J g args h v aa)(k:V->H->Prop):rI J g args h k=k v aa:=propext ⟨fun⟨n,dg,gr,e,q⟩=>by
  obtain⟨m,cD⟩:=a;have h1:=anQ (G4 n m) e;have ae:=anQ (G5 n m) cD;rw[h1]at ae;cases ae;exact q,fun q=>let⟨m,e⟩:=a;⟨m,v,aa,e,q⟩⟩
theorem rI.to {J:Prog}{g:FuncId}{args:List V}{h:H}{R:V->H->Prop}(a:rI J g args h R):∃v aa,oi J g args h v aa/\R v aa:=let⟨n,v,aa,e,q⟩:=a;⟨v,aa,⟨n,e⟩,q⟩
theorem rI.is{J:Prog}{g:FuncId}{args:List V}{h:H}{v:V}{aa:H}(a:rI J g args h fun x y=>x=v/\y=aa):oi J g args h v aa:=by
 obtain⟨n,x,y,e,rfl,rfl⟩:=a;exact⟨n,e⟩
section
variable {J:Prog}{I:Fr}{ds:dB}{k:c4}{g:FuncId}{args:List V}{h aa:H}{v:V}
theorem oi.cl(a:oi J g args h v aa)(d:Option S)(os:List bH):oL J (.fn (.func g) [] []) args h d os I ds k=fu J os (cX d v I) aa ds k:=a.eq _
theorem oi.bL(a:oi J g args h v aa)(d:Option S)(b:List Nat)(os:List (bH×List Nat))(i:Nat)(aD:List Rec):tL J (.fn (.func g) [] []) args h d b os i aD I ds k=(kK aa b aD=true/\wd J os (i+1) aD (cX d v I) aa ds k):=a.eq _
def xu(J:Prog)(f:V)(args:List V)(h:H)(v:V)(aa:H):Prop:=∀k,vv J f args h k=k v aa
theorem oi.val(a:oi J g args h v aa):xu J (.fn (.func g) [] []) args h v aa:=fun k=>a.eq k
theorem oi.CJ{c:V}{cs:List V}(a:oi J g (args++c::cs) h v aa):xu J (.fn (.func g) [] (c::cs)) args h v aa:=fun k=>a.eq k
theorem xu.cl{f:V}(a:xu J f args h v aa)(d:Option S)(os:List bH):oL J f args h d os I ds k=fu J os (cX d v I) aa ds k:=a _
end
abbrev G6:=@Prod.mk.injEq
abbrev hX:=@decide_true
theorem X.afK(v:V)(I:Fr):(X.c v).a7 I=v:=rfl
theorem Fr.gs(I:Fr)(v:V){a b:Nat}(bN:a<512)(ah:b<512):(I.set v (a0 a)).get (a0 b)=if a=b then v else I.get (a0 b):=by
 by_cases h:a=b
 ·subst h;rw[Fr.gV,bl rfl]
 ·rw[bf h,Fr.ej _ _ fun e=>h (G0 bN ah e)]
theorem aJZ(s:S)(v:V)(I:Fr):cX (some s) v I=I.set v s:=rfl
theorem aJ0(v:V)(I:Fr):cX none v I=I:=rfl
theorem aF5(I:Fr):hc I []=[]:=rfl
theorem aIq(I:Fr)(x:X)(xs:List X):hc I (x::xs)=x.a7 I::hc I xs:=rfl
theorem aJ1(c:Bool):x4 (.bool c) true=some c:=by cases c<;>rfl
theorem aJ2(c:Bool):x4 (.bool c) false=some (!c):=by cases c<;>rfl
theorem aKU(b:Bool):x4 (.bk []) b=some false:=rfl
theorem aAR(x:X)(I:Fr):(d5.dd x).f I=some (x.a7 I):=rfl
def akG(c a b:V):Option V:=match c.isTrue with|some true=>some a|some false=>some b|none=>none
theorem aF6(c a b:X)(I:Fr):(d5.pick c a b).f I=akG (c.a7 I) (a.a7 I) (b.a7 I):=rfl
theorem aKV(c:Bool)(a b:V):akG (.bool c) a b=some (if c=true then a else b):=by cases c<;>rfl
theorem aDD(op:BinOp)(q:Q)(x y:X)(I:Fr):(d5.bin op q x y).f I=V.bin op q (x.a7 I) (y.a7 I):=rfl
theorem aAS(op:UnOp)(x:X)(I:Fr):(d5.un op x).f I=V.un op (x.a7 I):=rfl
theorem aDE(k:IntKind)(x:X)(I:Fr):(d5.Mw k x).f I=JV k (x.a7 I):=rfl
theorem aDF(g:Fn)(a b:List X)(I:Fr):(d5.RE g a b).f I=some (.fn g (hc I a) (hc I b)):=rfl
theorem aIr(o n:Nat)(x:X)(I:Fr):(d5.er o n x).f I=hM o n (x.a7 I):=rfl
theorem aDG(g:Bool)(o n:Nat)(x:X)(I:Fr):(d5.RF g o n x).f I=Dj g o n (x.a7 I):=rfl
theorem aF7(es:Nat)(x i:X)(I:Fr):(d5.lL es x i).f I=jP es (x.a7 I) (i.a7 I):=rfl
theorem YG(es n:Nat)(x i:X)(I:Fr):(d5.KG es n x i).f I=zF es n (x.a7 I) (i.a7 I):=rfl
theorem aIs(x i:X)(I:Fr):(d5.Gp x i).f I=DZ (x.a7 I) (i.a7 I):=rfl
theorem aF8(i:Nat)(x:X)(I:Fr):(d5.uY i x).f I=DQ i (x.a7 I):=rfl
theorem aF9(s:Bool)(x:X)(I:Fr):(d5.jO s x).f I=uZ s (x.a7 I):=rfl
def rV(x:Option V)(d y:Nat):Option Nat:=match x with
 |none=>some d
 |some x=>match x.nat with
  |some n=>match Nat.ble n y with|true=>some n|false=>none
  |none=>none
def pr(br ai eo:Option V)(len cap:Nat)(k:Nat->Nat->Nat->V):Option V:=
 match rV eo cap cap with
 |some m=>match rV ai len m with
  |some h=>match rV br 0 h with
   |some l=>some (k l h m)
   |none=>none
  |none=>none
 |none=>none
theorem aIt(I:Fr)(x:Option X)(d y:Nat):bound I x d y=rV (x.map fun x=>x.a7 I) d y:=by cases x<;>rfl
theorem anR(I:Fr)(br ai eo:Option X)(len cap:Nat)(k:Nat->Nat->Nat->V):uj I br ai eo len cap k=pr (br.map fun x=>x.a7 I) (ai.map fun x=>x.a7 I) (eo.map fun x=>x.a7 I) len cap k:=by
 unfold uj pr;simp only[aIt];rfl
def r2(es:Nat)(x:V)(br ai eo:Option V):Option V:=match x with
 |.al=>pr br ai eo 0 0 fun _ _ _=>.al
 |.ag f k off len jA cap=>match Nat.beq es jA with
  |true=>match cap with
   |some c=>pr br ai eo len c fun l h m=>.ag f k (off+l*es) (h-l) es (some (m-l))
   |none=>match eo with
    |some _=>pr br ai eo len len fun l h m=>.ag f k (off+l*es) (h-l) es (some (m-l))
    |none=>pr br ai none len len fun l h _=>.ag f k (off+l*es) (h-l) es none
  |false=>none
 |_=>none
theorem aGa(es:Nat)(x:X)(br ai eo:Option X)(I:Fr):(d5.A8 es x br ai eo).f I=r2 es (x.a7 I) (br.map fun x=>x.a7 I) (ai.map fun x=>x.a7 I) (eo.map fun x=>x.a7 I):=by
 show Gq es x br ai eo I=_;unfold Gq r2;simp only[anR];cases eo<;>rfl
def oU:List V->List (Nat×Nat×V) ->Option (List V)
 |z,[]=>some z
 |z,(off,n,v)::ps=>
  match Nat.beq v.cells.length n with
  |true=>match mO z off v.cells with
   |some k5=>oU k5 ps
   |none=>none
  |false=>none
def AA(I:Fr):List (Nat×Nat×X) ->List (Nat×Nat×V)
 |[]=>[]
 |(a,b,x)::ps=>(a,b,x.a7 I)::AA I ps
theorem fill_eq(I:Fr):∀(ps:List (Nat×Nat×X)) (z:List V),fill I z ps=oU z (AA I ps)
 |[],_=>rfl
 |(a,b,x)::ps,z=>by
  unfold fill AA oU;simp only[fill_eq I ps];rfl
theorem aGb(I:Fr):AA I []=[]:=rfl
theorem aIu(I:Fr)(a b:Nat)(x:X)(ps:List (Nat×Nat×X)):AA I ((a,b,x)::ps)=(a,b,x.a7 I)::AA I ps:=rfl
def jQ(z:List V)(ps:List (Nat×Nat×V)):Option V:=match oU z ps with|some cs=>some (.agg cs)|none=>none
theorem aIv(z:List V)(ps:List (Nat×Nat×X))(I:Fr):(d5.build z ps).f I=jQ z (AA I ps):=by
 show zE z ps I=_;unfold zE jQ;rw[fill_eq];rfl
def vR(h:H)(g:Bool)(n:Nat)(v:V):Option V:=match v with
 |.ptr f k off room=>match Nat.ble n room with|true=>one g (lu (live h f k) off n)|false=>none
 |_=>none
theorem aGc(g:Bool)(n:Nat)(x:X)(I:Fr)(h:H):(IR.load g n x).f I h=vR h g n (x.a7 I):=rfl
theorem aIw(ty:Nat)(z:List V)(I:Fr):(kg.alloc ty z).f I=some (.cells z 0 0 .rw ty,fun f=>.ptr f 0 0 z.length):=rfl
def wj(ty n:Nat)(v:V):Option (O×(P->V)):=match Nat.beq v.cells.length n with
 |true=>some (.cells v.cells 0 0 .rw ty,fun f=>.ptr f 0 0 n)
 |false=>none
theorem aDH(ty n:Nat)(x:X)(I:Fr):(kg.box ty n x).f I=wj ty n (x.a7 I):=rfl
def g6(ty es len:Nat)(z:List V)(ps:List (Nat×Nat×V)):Option (O×(P->V)):=match oU (e2 z len) ps with
 |some cs=>some (.cells cs 0 0 .rw ty,fun f=>.ag f 0 0 len es (some len))
 |none=>none
theorem aJ3(ty es len:Nat)(z:List V)(ps:List (Nat×Nat×X))(I:Fr):(kg.K4 ty es len z ps).f I=g6 ty es len z (AA I ps):=by
 show GZ ty es len z ps I=_;unfold GZ g6;rw[fill_eq];rfl
def Xd(ty es bytes:Nat)(z:List V)(len cap:V):Option (O×(P->V)):=match len.nat with
 |some l=>match cap.nat with
  |some c=>match Nat.ble l c&&Nat.ble c 1099511627776&&Nat.ble (bytes*c) 140737488355328 with
   |true=>some (.cells (e2 z c) 0 0 .rw ty,fun f=>.ag f 0 0 l es (some c))
   |false=>none
  |none=>none
 |none=>none
theorem aGd(ty es bytes:Nat)(z:List V)(len cap:X)(I:Fr):(kg.U3 ty es bytes z len cap).f I=Xd ty es bytes z (len.a7 I) (cap.a7 I):=rfl
def CK(h:H)(n:Nat)(a v:V):Option (V×H):=match a with
 |.ptr f k off room=>match Nat.beq v.cells.length n&&Nat.ble n room with
  |true=>match nj h f k off v.cells with
   |some h=>some (.bk [],h)
   |none=>none
  |false=>none
 |_=>none
theorem aIx(n:Nat)(a x:X)(I:Fr)(h:H):(g7.store n a x).f I h=CK h n (a.a7 I) (x.a7 I):=rfl
def pt(h:H)(ty es bytes:Nat)(a b:V):Option (V×H):=match uc b with
 |some n=>match sh h es n b with
  |some new=>append h ty es bytes n new a
  |none=>none
 |none=>none
theorem aDI(ty es bytes:Nat)(a b:X)(I:Fr)(h:H):(g7.app ty es bytes a b).f I h=pt h ty es bytes (a.a7 I) (b.a7 I):=rfl
def copyV(h:H)(es:Nat)(a b:V):Option (V×H):=match a with
 |.al=>match uc b with|some _=>some (.int .i64 (.ofNat 0),h)|none=>none
 |.ag f k off len jA _=>match uc b with
  |some m=>match Nat.beq (Nat.min m len) 0 with
   |true=>some (.int .i64 (.ofNat 0),h)
   |false=>match Nat.beq es jA with
    |true=>match sh h es (Nat.min m len) b with
     |some cs=>match nj h f k off cs with
      |some h=>some (.int .i64 (.ofNat (Nat.min m len)),h)
      |none=>none
     |none=>none
    |false=>none
  |none=>none
 |_=>none
theorem aGe(es:Nat)(a b:X)(I:Fr)(h:H):(g7.copy es a b).f I h=copyV h es (a.a7 I) (b.a7 I):=rfl
def Pk(h:H)(es:Nat)(z:List V)(x:V):Option (V×H):=match x with
 |.al=>some (.bk [],h)
 |.ag f k off len jA _=>match Nat.beq len 0 with
  |true=>some (.bk [],h)
  |false=>match Nat.beq es jA with
   |true=>match nj h f k off (e2 z len)with
    |some h=>some (.bk [],h)
    |none=>none
   |false=>none
 |_=>none
theorem aGf(es:Nat)(z:List V)(x:X)(I:Fr)(h:H):(g7.N2 es z x).f I h=Pk h es z (x.a7 I):=rfl
theorem aAT(q:Q)(a b:Int):V.bin .add q (.int .i64 a) (.int .i64 b)=some (.int .i64 (b8 .i64 (a+b))):=rfl
theorem aAU(q:Q)(a b:Int):V.bin .sub q (.int .i64 a) (.int .i64 b)=some (.int .i64 (b8 .i64 (a-b))):=rfl
theorem BL(a b:Int):qO a b=decide (a=b):=by rw[Bw];by_cases h:a=b<;>simp[h]
theorem av4(a b:Bool):V.bin .eql .bool (.bool a) (.bool b)=some (.bool (a==b)):=rfl
theorem aIy(b:Bool):V.un .not (.bool b)=some (.bool (!b)):=rfl
theorem GL(a c:Int)(b d:Bool):V.bin .eql (.agg [.li,.fL]) (.agg [.int .i64 a,.bool b]) (.agg [.int .i64 c,.bool d])=some (.bool (decide ((a,b)=(c,d)))):=by
 have e:V.bin .eql (.agg [.li,.fL]) (.agg [.int .i64 a,.bool b]) (.agg [.int .i64 c,.bool d])=(match nn [.li,.fL] [.int .i64 a,.bool b] [.int .i64 c,.bool d]with|some b=>some (.bool b)|none=>none):=rfl;rw[e];simp only[nn,ho.eq,me,BL,G6];by_cases h:a=c
 ·subst h;cases b<;>cases d<;>simp
 ·simp[h]
theorem GM(a c:Int)(b d:Bool):V.bin .neq (.agg [.li,.fL]) (.agg [.int .i64 a,.bool b]) (.agg [.int .i64 c,.bool d])=some (.bool (!decide ((a,b)=(c,d)))):=by
 have e:V.bin .neq (.agg [.li,.fL]) (.agg [.int .i64 a,.bool b]) (.agg [.int .i64 c,.bool d])=(match nn [.li,.fL] [.int .i64 a,.bool b] [.int .i64 c,.bool d]with|some b=>some (.bool (!b))|none=>none):=rfl;rw[e];simp only[nn,ho.eq,me,BL,G6];by_cases h:a=c
 ·subst h;cases b<;>cases d<;>simp
 ·simp[h]
theorem gz{n:Int}(h1:-9223372036854775808<=n)(ae:n<9223372036854775808):b8 .i64 n=n:=by
 rw[BV];simp[IntKind.wrap,IntKind.bits,IntKind.signed];omega
theorem pM{n:Nat}(h1:1<=n)(h:n<9223372036854775807):b8 .i64 ((n:Int) -1)=((n-1:Nat):Int):=by rw[gz (by omega) (by omega)];omega
theorem cG{n:Nat}(h:n<9223372036854775807):b8 .i64 ((n:Int)+1)=((n+1:Nat):Int):=by rw[gz (by omega) (by omega)];omega
theorem qx(k:IntKind)(n:Nat):V.nat (.int k (n:Int))=some n:=rfl
theorem aKW(n:Nat):Int.ofNat n=(n:Int):=rfl
theorem hD(a b:Nat):Nat.ble a b=decide (a<=b):=by
 by_cases h:a<=b
 ·rw[GK h];simp[h]
 ·cases ah:Nat.ble a b with
  |false=>simp[h]
  |true=>exact absurd (iZ ah) h
theorem hE(a b:Nat):Nat.beq a b=decide (a=b):=by
 by_cases h:a=b
 ·subst h;simp
 ·cases ah:Nat.beq a b with
  |false=>simp[h]
  |true=>exact absurd (dI ah) h
def uN(v:V)(es i:Nat):V:=match v with|.ag f k off _ _ _=>.ptr f k (off+i*es) es|_=>.kt
theorem bB.addr{h:H}{v:V}{es:Nat}{aV:List (List V)}(s:bB h v es aV){i:Nat}(ai:i<aV.length):jP es v (.int .i64 (i:Int))=some (uN v es i):=by
 obtain⟨au,⟨rfl,rfl⟩|⟨f,k,off,cap,rfl,c⟩⟩:=s
 ·simp at ai
 ·have ah:Nat.blt i aV.length=true:=by rw[lv];exact ai
  simp[jP,qx,uN,ah]
theorem bB.load{h:H}{v:V}{es:Nat}{aV:List (List V)}(s:bB h v es aV){i:Nat}{e:List V}(he:aV[i]?=some e)(g:Bool):vR h g es (uN v es i)=one g (some e):=by
 obtain⟨au,⟨rfl,rfl⟩|⟨f,k,off,cap,rfl,c⟩⟩:=id s
 ·simp at he
 ·simp only[uN,vR,hD,a1,hX];rw[s.elem he]
theorem aDJ(cs:List V):one true (some cs)=some (.agg cs):=rfl
theorem aDK(v:V):one false (some [v])=some v:=rfl
theorem aJ4(J:Prog)(res:List qG)(I:Fr)(h:H):leave J res ⟨I,[],h⟩=match results h I res with
  |some aF=>some (zM aF,h)
  |none=>none:=rfl
theorem aLs(h:H)(I:Fr):results h I []=some []:=rfl
theorem results_tmp(h:H)(I:Fr)(p:S)(aD:List qG):results h I (.tmp p::aD)=match results h I aD with
  |some aF=>some (I.get p::aF)
  |none=>none:=rfl
theorem aLN(h:H)(I:Fr)(p:S)(g:Bool)(n:Nat)(aD:List qG):results h I (.cell p g n::aD)=match vR h g n (I.get p)with
  |some v=>match results h I aD with
   |some aF=>some (v::aF)
   |none=>none
  |none=>none:=rfl
theorem aIz(v:V):zM [v]=v:=rfl
theorem aIA(v w:V)(aF:List V):zM (v::w::aF)=.bk (v::w::aF):=rfl
theorem EA(h:H)(aD:List Rec):kK h [] aD=true:=rfl
theorem aJ5(n:Nat)(I:Fr):kZ [] n I=I:=rfl
theorem aKX(v:V)(aF:List V)(n:Nat)(I:Fr):kZ (v::aF) n I=kZ aF (n+1) (I.set v (a0 n)):=rfl
theorem fF(h:H)(o:O):(h.new o).next=rb h.next:=id rfl
theorem Hf(h:H)(f:P)(o:O):(h.set f o).next=h.next:=id rfl
theorem rm{h:H}{f:P}{k:Nat}{xs:List V}{aZ dead:Nat}{md:kN}{ty:TypeId}(e:h.get f=some (.cells xs aZ dead md ty))(h1:dead<=k)(ae:k<=aZ):live h f k=some xs:=by
 unfold live;rw[e];simp only[O.live,hD,h1,ae,hX,nT]
theorem anS(o n:Nat)(f:P)(k off room:Nat)(h:o+n<=room):hM o n (.ptr f k off room)=some (.ptr f k (off+o) n):=by
 simp only[hM,hD,h,hX]
theorem aIB(ty n:Nat)(cs:List V)(h:cs.length=n):wj ty n (.agg cs)=some (.cells cs 0 0 .rw ty,fun f=>.ptr f 0 0 n):=by
 simp only[wj,V.cells,hE,h,hX]
theorem cA.set_set{α:Type}(x y:α):∀(k:P) (t:cA α),cA.set x k (cA.set y k t)=cA.set x k t
 |[],t=>by cases t<;>rfl
 |d::k,t=>by
  have ih:=cA.set_set x y k;cases t with
  |e=>cases d<;>simp only[cA.set,cA.UX,D.u,QX,vr,oZ,tj,pN,mV,Mb,QY,cA.gL]<;>congr 1<;>congr 1<;>exact ih _
  |n v c=>
   obtain⟨mh,c1,c2,dF,fs,jY,qK,w4⟩:=c;cases d<;>simp only[cA.set,cA.UX,D.u,QX,vr,oZ,tj,pN,mV,Mb,QY]<;>congr 1<;>congr 1<;>exact ih _
theorem H.aGg(h:H)(o cu:O):(h.new o).set h.next cu=h.new cu:=by
 show H.mk _ _=H.mk _ _;congr 1;exact cA.set_set _ _ _ _
theorem aAV(ty:Nat)(x:V)(a b:Int):g6 ty 1 2 [x] [(0,1,.int .i64 a),(1,1,.int .i64 b)]=some (.cells [.int .i64 a,.int .i64 b] 0 0 .rw ty,fun f=>.ag f 0 0 2 1 (some 2)):=rfl
theorem aAW(ty:Nat)(x:V)(a b c:Int):g6 ty 1 3 [x] [(0,1,.int .i64 a),(1,1,.int .i64 b),(2,1,.int .i64 c)]=some (.cells [.int .i64 a,.int .i64 b,.int .i64 c] 0 0 .rw ty,fun f=>.ag f 0 0 3 1 (some 3)):=rfl
end Go.ao
namespace Go.ao.cE
abbrev b1:=Int×Bool
def lt(a b:b1):Bool:=decide (a.1<b.1)||(decide (a.1=b.1)&&(!a.2&&b.2))
theorem lt_irrefl(a:b1):lt a a=false:=by unfold lt;cases a.2<;>simp
theorem lt_trans{a b c:b1}(h:lt a b=true)(k:lt b c=true):lt a c=true:=by
 obtain⟨a,p⟩:=a;obtain⟨b,q⟩:=b;obtain⟨c,r⟩:=c;simp only[lt,uf,dJ,kL,wQ]at h k⊢;cases p<;>cases q<;>cases r<;>simp at h k⊢<;>omega
theorem Ef(a b:b1):lt a b=true\/a=b\/lt b a=true:=by
 obtain⟨a,p⟩:=a;obtain⟨b,q⟩:=b;simp only[lt,uf,dJ,kL,wQ,G6];cases p<;>cases q<;>simp<;>omega
theorem lt_asymm{a b:b1}(h:lt a b=true):lt b a=false:=by
 cases k:lt b a with
 |false=>rfl
 |true=>have:=lt_trans h k;rw[lt_irrefl]at this;cases this
def uO(l:List b1):Prop:=l.Pairwise fun a b=>lt a b=true
theorem uO.eq:∀{l m:List b1},uO l->uO m->(∀x,x∈l↔x∈m) ->l=m
 |[],[],_,_,_=>rfl
 |[],y::m,_,_,h=>by have:=(h y).2 (by simp);simp at this
 |x::l,[],_,_,h=>by have:=(h x).1 (by simp);simp at this
 |x::l,y::m,au,hm,h=>by
  have eB:=List.pairwise_cons.1 au;have lk:=List.pairwise_cons.1 hm;have fJ:x=y:=by
   rcases List.mem_cons.1 ((h x).1 (by simp))with e|e
   ·exact e
   ·rcases List.mem_cons.1 ((h y).2 (by simp))with cD|cD
    ·exact cD.symm
    ·have a:=lk.1 x e;have b:=eB.1 y cD;rw[lt_asymm a]at b;cases b
  subst fJ;congr 1;refine uO.eq eB.2 lk.2 fun z=>?_;have aX:=h z;simp only[lT]at aX;constructor
  ·intro l0;rcases aX.1 (.inr l0)with e|e
   ·subst e;have:=eB.1 z l0;rw[lt_irrefl]at this;cases this
   ·exact e
  ·intro abV;rcases aX.2 (.inr abV)with e|e
   ·subst e;have:=lk.1 z abV;rw[lt_irrefl]at this;cases this
   ·exact e
def ins(x:b1):List b1->List b1
 |[]=>[x]
 |y::cV=>if lt y x then y::ins x cV else if y=x then y::cV else x::y::cV
def hY(l:List b1):List b1:=l.foldl (fun out x=>ins x out) []
theorem Yg(x z:b1):∀l,z∈ins x l↔z=x\/z∈l
 |[]=>by simp[ins]
 |y::cV=>by
  unfold ins;split
  ·simp only[lT,Yg x z cV];constructor
   ·rintro(a|a|a)<;>simp[a]
   ·rintro(a|a|a)<;>simp[a]
  ·split
   ·rename_i h;subst h;simp
   ·simp
theorem amc(x:b1):∀{l},uO l->uO (ins x l)
 |[],_=>List.pairwise_singleton _ _
 |y::cV,h=>by
  have aa:=List.pairwise_cons.1 h;unfold ins;split
  ·rename_i ax;refine List.pairwise_cons.2 ⟨fun z aX=>?_,amc x aa.2⟩;rcases(Yg x z cV).1 aX with e|e
   ·subst e;exact ax
   ·exact aa.1 z e
  ·split
   ·exact h
   ·rename_i h1 ae;have fJ:lt x y=true:=by
     rcases Ef x y with a|a|a
     ·exact a
     ·exact absurd a.symm ae
     ·exact absurd a h1
    refine List.pairwise_cons.2 ⟨fun z aX=>?_,h⟩;rcases List.mem_cons.1 aX with e|e
    ·subst e;exact fJ
    ·exact lt_trans fJ (aa.1 z e)
theorem Y1:∀(l out:List b1),uO out->uO (l.foldl (fun out x=>ins x out) out)/\∀z,z∈l.foldl (fun out x=>ins x out) out↔z∈l\/z∈out
 |[],out,h=>⟨h,fun z=>by simp⟩
 |x::l,out,h=>by
  obtain⟨a,b⟩:=Y1 l (ins x out) (amc x h);refine⟨a,fun z=>?_⟩;rw[D4,b z,Yg,lT];constructor
  ·rintro(q|q|q)<;>simp[q]
  ·rintro((q|q)|q)<;>simp[q]
theorem ZC(l:List b1):uO (hY l):=(Y1 l [] List.Pairwise.nil).1
theorem L7(l:List b1)(z:b1):z∈hY l↔z∈l:=by have:=(Y1 l [] List.Pairwise.nil).2 z;simpa[hY]using this
theorem aor(x:b1):∀l,(ins x l).length<=l.length+1
 |[]=>by simp[ins]
 |y::cV=>by
  unfold ins;split
  ·have:=aor x cV;simp;omega
  ·split<;>simp
theorem apt:∀(l out:List b1),(l.foldl (fun out x=>ins x out) out).length<=l.length+out.length
 |[],out=>by simp
 |x::l,out=>by
  have a:=apt l (ins x out);have b:=aor x out;rw[D4,eG];omega
theorem QU(l:List b1):(hY l).length<=l.length:=by have:=apt l [];simpa[hY]using this
def k3:List b1->List b1
 |[]=>[]
 |[x]=>[x]
 |x::y::l=>if y=x then k3 (y::l)else x::k3 (y::l)
theorem ZD(z:b1):∀l,z∈k3 l↔z∈l
 |[]=>by simp[k3]
 |[x]=>by simp[k3]
 |x::y::l=>by
  have ih:=ZD z (y::l);unfold k3;split
  ·rename_i h;subst h;rw[ih];simp
  ·rw[lT,ih];simp
theorem aoL:∀{l:List b1},(l.Pairwise fun a b=>lt b a=false) ->uO (k3 l)
 |[],_=>List.Pairwise.nil
 |[x],_=>List.pairwise_singleton _ _
 |x::y::l,h=>by
  have aa:=List.pairwise_cons.1 h;have ih:=aoL aa.2;unfold k3;split
  ·exact ih
  ·rename_i bV;refine List.pairwise_cons.2 ⟨fun z aX=>?_,ih⟩;have aX:=(ZD z (y::l)).1 aX;have fJ:lt x y=true:=by
    rcases Ef x y with a|a|a
    ·exact a
    ·exact absurd a.symm bV
    ·have:=aa.1 y (by simp);rw[a]at this;cases this
   rcases List.mem_cons.1 aX with e|e
   ·subst e;exact fJ
   ·have MV:=(List.pairwise_cons.1 aa.2).1 z e;rcases Ef y z with a|a|a
    ·exact lt_trans fJ a
    ·subst a;exact fJ
    ·rw[a]at MV;cases MV
theorem aKY{l m:List b1}(bh:∀z,z∈m↔z∈l)(aA:m.Pairwise fun a b=>lt b a=false):k3 m=hY l:=
 uO.eq (aoL aA) (ZC l) fun z=>by rw[ZD,bh,L7]
def ix:List b1->Bool
 |a::b::l=>lt a b&&ix (b::l)
 |_=>true
end Go.ao.cE
namespace Go.ao
abbrev b1:=cE.b1
def BF:List V->Option (List b1)
 |[]=>some []
 |.int .i64 a::.bool b::aF=>match BF aF with
  |some l=>some ((a,b)::l)
  |none=>none
 |_=>none
def k1:List b1->List V
 |[]=>[]
 |x::l=>.int .i64 x.1::.bool x.2::k1 l
def k0(l:List b1):List b1:=l.mergeSort fun x y=>!cE.lt y x
theorem aoQ:∀{aF:List V} {l:List b1},BF aF=some l->aF=k1 l
 |[],l,h=>by simp[BF]at h;subst h;rfl
 |[v],l,h=>by
  unfold BF at h;split at h
  ·rename_i heq;cases heq
  ·rename_i heq;cases heq
  ·cases h
 |v::u::aF,l,h=>by
  unfold BF at h;split at h
  ·rename_i heq;cases heq
  ·rename_i a b vN heq;cases heq;split at h
   ·rename_i m hm;cases h;rw[aoQ hm];rfl
   ·cases h
  ·cases h
theorem ao5:∀(l:List b1),BF (k1 l)=some l
 |[]=>rfl
 |x::l=>by simp[k1,BF,ao5 l]
theorem ti:∀(l:List b1),(k1 l).length=l.length*2
 |[]=>rfl
 |x::l=>by simp[k1,ti l];omega
theorem aoR:∀{l:List b1} {q:Nat} {x:b1},l[q]?=some x->(k1 l)[q*2]?=some (.int .i64 x.1)/\(k1 l)[q*2+1]?=some (.bool x.2)
 |[],q,x,h=>by simp at h
 |y::l,0,x,h=>by simp at h;subst h;exact⟨rfl,rfl⟩
 |y::l,q+1,x,h=>by
  have:=aoR (l:=l) (q:=q) (x:=x) (by simpa using h);have aN:(q+1)*2=q*2+1+1:=by omega
  have bd:(q+1)*2+1=q*2+1+1+1:=by omega
  rw[aN];simpa[k1]using this
def Ep(ES:FuncId):eX:=fun args h=>match args with
 |[.al,.fn (.func _) [] []]=>some (.bk [],h)
 |[.ag f k off len es _,.fn (.func g) [] []]=>match Nat.beq g ES&&Nat.beq es 2&&Nat.ble len 1099511627776 with
  |true=>match Nat.beq len 0 with
   |true=>some (.bk [],h)
   |false=>match lu (live h f k) off (len*2)with
    |some cs=>match BF cs with
     |some l=>match nj h f k off (k1 (k0 l))with
      |some aa=>some (.bk [],aa)
      |none=>none
     |none=>none
    |none=>none
  |false=>none
 |_=>none
end Go.ao
