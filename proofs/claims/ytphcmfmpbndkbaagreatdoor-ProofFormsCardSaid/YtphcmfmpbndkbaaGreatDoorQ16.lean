/- A part of the proof that ProofForms holds for every input. -/
import Derived.Test.YtphcmfmpbndkbaaGreatDoorQ15
set_option maxRecDepth 100000
set_option maxHeartbeats 4000000
set_option linter.all false
noncomputable section
namespace Go.ao
section
open Form
variable {J:Prog}[ak J]{a:H}
theorem ajV(n:Int):aS J a 224 [.ad n] (.bool (tM n)):=by
 refine aS.bE ak.VA rfl fun h _ _=>?_;unfold tM;by_cases h1:n=17
 ·simp only[Vz,go_sem,seval,h1]
 ·simp only[Vz,go_sem,seval,h1]
theorem ayN[bP:aK a](s:b9)(aA:s.length<1000000):aS J a 225 [.str s] (.bool (decide (d9 s=0)||decide (jR s=0))):=by
 refine aS.bE ak.VC rfl fun h _ _=>?_;have c1:=OS (J:=J) (a:=h) s aA;have c2:=Wq (J:=J) (a:=h) s aA;by_cases h1:d9 s=0
 ·simp only[VB,go_sem,seval,c1.cl,h1]
 ·simp only[VB,go_sem,seval,c1.cl,c2.cl,h1]
def De(c:Nat):Bool:=!(c==32||c==10||c==40||c==41||c==123||c==125)
theorem ayO(s:b9)(aA:s.length<1000000):aS J a 303 [.str s] (.bool (plain s)):=by
 refine aS.bE ak.ahF rfl fun h _ _=>?_;have bh: plain s=(!s.isEmpty&&decide (s.length<=200)&&s.all De):=rfl;cases qT:s with
 |nil=>simp only[Oo,go_sem,seval,gS];rfl
 |cons x r=>
  rw[<-qT];have he:s.isEmpty=false:=by rw[qT];rfl
  have au:¬((s.length:Int)=0):=by rw[qT];simp;omega
  by_cases ae:(200:Int)<(s.length:Int)
  ·have p9:¬s.length<=200:=by omega
   have aE: plain s=false:=by rw[bh];simp[p9]
   simp only[Oo,go_sem,seval,gS,au,ae,aE]
  ·have p9:s.length<=200:=by omega
   have aE: plain s=s.all De:=by rw[bh,he];simp[p9]
   rw[aE];simp only[Oo,go_sem,seval,gS,au,ae];refine dK s.length (fun i t=>∃I,t=⟨I,[],h⟩/\s.all De=(s.drop i).all De/\I.gt 0=.str s/\I.gt 3=.ad (i:Nat)) ?_ ?_ (dk _) ⟨_,rfl,rfl,?_,?_⟩
   ·rintro i t ai ⟨I,rfl,e,bq,aR⟩;obtain⟨c,U⟩:=bI ai;have ay:((i:Int)<(s.length:Int)):=by omega
    rw[en U,ye]at e;cases a6:De c with
    |true=>
     rw[a6,ju]at e;unfold De at a6;simp at a6;obtain⟨⟨⟨⟨⟨fZ,dD⟩,gx⟩,hT⟩,g9⟩,qM⟩:=a6;have e5:¬((c:Int)=32):=by omega
     have cO:¬((c:Int)=10):=by omega
     have c5:¬((c:Int)=40):=by omega
     have fw:¬((c:Int)=41):=by omega
     have uy:¬((c:Int)=123):=by omega
     have HT:¬((c:Int)=125):=by omega
     simp only[go_sem,seval,bq,aR,gS,ay,tN U,e5,cO,c5,fw,uy,HT,cG (show i<9223372036854775807 by omega)];refine⟨_,rfl,e,?_,?_⟩
     all_goals simp only[go_sem,seval,bq]
    |false=>
     rw[a6,mg]at e;have hK:c=32\/c=10\/c=40\/c=41\/c=123\/c=125:=by
      unfold De at a6;simp at a6;omega
     rw[e];rcases hK with rfl|rfl|rfl|rfl|rfl|rfl
     all_goals simp only[go_sem,seval,bq,aR,gS,ay,tN U]
   ·rintro t ⟨I,rfl,e,bq,aR⟩;have ay:¬((s.length:Int)<(s.length:Int)):=by omega
    rw[fp]at e;simp only[go_sem,seval,bq,aR,gS,ay,e];rfl
   all_goals simp only[go_sem,seval]
theorem ajW(s:b9)(aA:s.length<1000000):aS J a 193 [.str s] (.bool (plain s)):=by
 refine aS.bE ak.agl rfl fun h _ _=>?_;simp only[agk,go_sem,seval,(ayO (J:=J) (a:=h) s aA).cl]
theorem JI{v:V}{t:List bb}{S W:Nat->V}[bP:aK a](aU:fc a v t S W)(au:t.length<1000000){n:bb}(aq:t[t.length-1]?=some n):aS J a 36 [v] (eW n (S (t.length-1)) (W (t.length-1))):=by
 refine aS.bE ak.abj rfl fun h _ _=>?_;have av:0<t.length:=by
  rcases nS t.length with e|e
  ·rw[ei (by omega)]at aq;cases aq
  ·exact e
 have b5:b8 .i64 ((t.length:Int) -1)=((t.length-1:Nat):Int):=pM av (by omega)
 have st:∀(h:H) (f:P) (c:List V),c.length=5->fz (some (.af [.ad 0,.str [],.str [],.al,.al] 90)) h f 5 0 0 5 (.agg c)=some (.bk [],h.set f (.af c 90)):=fun h f c U=>pL _ _ _ _ 5 5 (a1 _) (.agg c) U rfl;have cZ:∀(c:List V) (ty:TypeId),c.length=5->ec (some (.af c ty)) true 5 0 0 5=some (.agg c):=fun c ty U=>by
  rw[um _ _ _ _ _ _ _ (a1 _),td (by omega),iL,kM (by omega)];rfl
 simp only[abi,go_sem,seval,aU.ag.a2,gj,b5,aU.ag.addr (aU.lt (show t.length-1<t.length by omega)),aU.ag.bM (aU.at aq),st,cZ,eW]
theorem g1(op:Int)(x y:b9)(s w:V)(ty:TypeId):ec (some (.af [.ad op,.str x,.str y,s,w] ty)) false 1 0 0 1=some (.ad op):=rfl
theorem sQ(op:Int)(x y:b9)(s w:V)(ty:TypeId):ec (some (.af [.ad op,.str x,.str y,s,w] ty)) false 1 0 1 1=some (.str x):=rfl
theorem qe(op:Int)(x y:b9)(s w:V)(ty:TypeId):ec (some (.af [.ad op,.str x,.str y,s,w] ty)) false 1 0 2 1=some (.str y):=rfl
theorem rQ(op:Int)(x y:b9)(s w:V)(ty:TypeId):ec (some (.af [.ad op,.str x,.str y,s,w] ty)) false 1 0 3 1=some s:=rfl
theorem l7(op:Int)(x y:b9)(s w:V)(ty:TypeId):ec (some (.af [.ad op,.str x,.str y,s,w] ty)) false 1 0 4 1=some w:=rfl
theorem g2(f:P):hM 0 1 (.ptr f 0 0 5)=some (.ptr f 0 0 1):=rfl
theorem sR(f:P):hM 1 1 (.ptr f 0 0 5)=some (.ptr f 0 1 1):=rfl
theorem qf(f:P):hM 2 1 (.ptr f 0 0 5)=some (.ptr f 0 2 1):=rfl
theorem q2(f:P):hM 3 1 (.ptr f 0 0 5)=some (.ptr f 0 3 1):=rfl
theorem l8(f:P):hM 4 1 (.ptr f 0 0 5)=some (.ptr f 0 4 1):=rfl
theorem ayP[bP:aK a]{n:bb}{s w:V}(r:qY a n s w):aS J a 100 [eW n s w] (.bool (Form.shape n)):=by
 refine aS.bE ak.afM rfl fun h ca g=>?_;have ar:=r.kids.a2;rw[c7]at ar;have bA:decide ((n.kids.length:Int)=0)=decide (n.kids.length=0):=by rw[ov];omega
 have aN:decide ((n.kids.length:Int)=1)=decide (n.kids.length=1):=by rw[ov];omega
 have bd:decide ((n.kids.length:Int)=2)=decide (n.kids.length=2):=by rw[ov];omega
 have bO:decide ((n.kids.length:Int)=3)=decide (n.kids.length=3):=by rw[ov];omega
 have fY:decide ((1:Int)<=(n.kids.length:Int))=decide (1<=n.kids.length):=by rw[ov];omega
 unfold Form.shape;by_cases av:n.op∈([0,1,2,3]:List Int)
 ·rw[bl av];simp only[lT,tf,sg]at av;rcases av with q|q|q|q
  all_goals simp only[Dw,go_sem,seval,eW,g2,l8,g1,l7,ar,bA,q]
 ·rw[bf av];simp only[lT,tf,sg,not_or]at av;obtain⟨mW,bJ,g8,tq⟩:=av;by_cases h1:n.op∈([4,6,7]:List Int)
  ·rw[bl h1];simp only[lT,tf,sg]at h1;rcases h1 with q|q|q
   all_goals simp only[Dw,go_sem,seval,eW,g2,l8,g1,l7,ar,q]
  ·rw[bf h1];simp only[lT,tf,sg,not_or]at h1;obtain⟨oH,yz,Rj⟩:=h1;by_cases sw:n.op=5
   ·rw[bl sw];simp only[Dw,go_sem,seval,eW,g2,l8,g1,l7,ar,aN,sw]
   ·rw[bf sw];by_cases y3:n.op=10
    ·rw[bl y3];simp only[Dw,go_sem,seval,eW,g2,l8,g1,l7,ar,bO,y3]
    ·rw[bf y3];by_cases ae:n.op∈([17,18,19]:List Int)
     ·rw[bl ae];simp only[lT,tf,sg]at ae;rcases ae with q|q|q
      all_goals simp only[Dw,go_sem,seval,eW,g2,l8,g1,l7,ar,fY,q]
     ·rw[bf ae];simp only[lT,tf,sg,not_or]at ae;obtain⟨cB,bU,bC⟩:=ae;simp only[Dw,go_sem,seval,eW,g2,l8,g1,l7,ar,bd,mW,bJ,g8,tq,oH,sw,yz,Rj,y3,cB,bU,bC]
def Bk(eT:b9):List (b9×b9) ->Nat->Int
 |[],_=>-1
 |v::l,i=>if v.1=eT then(i:Int)else Bk eT l (i+1)
theorem anh(eT:b9):∀(l:List (b9×b9)) (i:Nat),decide (0<=Bk eT l i)=decide (eT∈l.map Prod.fst)
 |[],_=>rfl
 |v::l,i=>by
  have ih:=anh eT l (i+1);unfold Bk;by_cases h:v.1=eT
  ·rw[bl h];subst h;simp
  ·rw[bf h,ih];rw[ov];rw[nQ,lT];exact⟨.inr,fun q=>q.elim (fun e=>absurd e.symm h) id⟩
theorem ayQ{v:V}{l:List (b9×b9)}[bP:aK a](s:bB a v 2 (hi l))(au:l.length<1000000000)(eT:b9):aS J a 194 [v,.str eT] (.ad (Bk eT l 0)):=by
 refine aS.bE ak.agn rfl fun h _ g=>?_;simp only[agm,go_sem,seval];refine dK l.length (fun i t=>∃I,t=⟨I,[],h⟩/\Bk eT l 0=Bk eT (l.drop i) i/\I.gt 0=v/\I.gt 1=.str eT/\I.gt 5=.ad (i:Nat)) ?_ ?_ (dk _) ⟨_,rfl,rfl,?_,?_,?_⟩
 ·rintro i t ai ⟨I,rfl,e,bq,f1,bu⟩;obtain⟨x,ab⟩:=bI ai;have ay:((i:Int)<(l.length:Int)):=by omega
  have ck:i<(hi l).length:=by rw[jd];exact ai
  rw[en ab,Bk]at e;by_cases aq:x.1=eT
  ·rw[bl aq]at e;simp only[go_sem,seval,bq,f1,bu,s.a2,jd,ay,s.addr ck,s.er ck,s.hn (nX ab),aq,e]
  ·rw[bf aq]at e;simp only[go_sem,seval,bq,f1,bu,s.a2,jd,ay,s.addr ck,s.er ck,s.hn (nX ab),aq,cG (show i<9223372036854775807 by omega)];refine⟨_,rfl,e,?_,?_,?_⟩
   all_goals simp only[go_sem,seval,bq,f1]
 ·rintro t ⟨I,rfl,e,bq,f1,bu⟩;have ay:¬((l.length:Int)<(l.length:Int)):=by omega
  rw[fp]at e;have e:Bk eT l 0=-1:=e;simp only[go_sem,seval,bq,bu,s.a2,jd,ay,e]
 all_goals simp only[go_sem,seval]
theorem ajX{v u:V}{t:List bb}{S W:Nat->V}[bP:aK a](aU:fc a v t S W)(au:t.length<1000000){F:List Nat}(Mn:bB a u 1 (dY .i64 F))(dw:∀x∈F,x<=F.length)(aOs:F.length<1000000){i:Nat}{n:bb}(aq:t[i]?=some n)(ai:i<=F.length):
  aS J a 101 [v,u,.ad (i:Nat)] (.bool (ordered F i n)):=by
 refine aS.bE ak.afO rfl fun h ca g=>?_;have hit:i<t.length:=by
  rcases dz i t.length with q|q
  ·exact q
  ·rw[ei q]at aq;cases aq
 have R:=aU.row i n aq;have hk:=R.ki;have bJ:=aU.ag.addr (aU.lt hit);have NH:=fun(j n:Nat) (h:j+n<=5)=>aU.ag.er (aU.lt hit) h;have fq:b8 .i64 ((n.kids.length:Int) -1)=(n.kids.length:Int) -1:=gz (by omega) (by omega)
 have ar:=R.kids.a2;rw[c7]at ar;unfold ordered;simp only[afN,go_sem,seval,bJ,aU.ag.er (aU.lt hit),aU.ag.hn (aU.at aq),ar,fq];refine lU (fun m t=>∃I next,t=⟨I,[],h⟩/\m<=n.kids.length/\next<=F.length/\oj F i n.kids.reverse=oj F next (n.kids.take m).reverse/\I.gt 0=v/\I.gt 1=u/\I.gt 2=.ad (i:Nat)/\I.gt 7=.ad (next:Nat)/\I.gt 8=.ad ((m:Int) -1)) ?_ (m:=n.kids.length) ⟨_,i,rfl,a1 _,ai,by rw[g5],?_,?_,?_,?_,?_⟩
 ·rintro m t ⟨I,next,rfl,hm,sH,e,bq,f1,cq,cH,cQ⟩;cases m with
  |zero=>
   have cQ:I.gt 8=.ad (-1):=cQ;have av:¬((0:Int)<=-1):=by decide
   have e:oj F i n.kids.reverse=true:=e;simp only[go_sem,seval,cQ,av,e]
  |succ m=>
   have aN:(((m+1:Nat):Int) -1)=(m:Int):=by omega
   rw[aN]at cQ;have av:(0:Int)<=(m:Int):=by omega
   obtain⟨x,ab⟩:=bI (l:=n.kids) (i:=m) (by omega);have cB:=R.kids.addr (i:=m) (by rw[c7];omega);have cY:=R.kids.bM (gn ab);rw[nq ab,List.reverse_append]at e;have e:oj F i n.kids.reverse=if x<0\/x≠(next:Int) -1 then false else oj F ((F[x.toNat]?).getD 0) (n.kids.take m).reverse:=e
   have wn:b8 .i64 ((next:Int) -1)=(next:Int) -1:=gz (by omega) (by omega)
   have o1:b8 .i64 ((m:Int) -1)=(m:Int) -1:=gz (by omega) (by omega)
   by_cases jl:x<0
   ·rw[bl (.inl jl)]at e;simp only[go_sem,seval,bq,f1,cq,cH,cQ,av,bJ,aU.ag.er (aU.lt hit),aU.ag.hn (aU.at aq),cB,cY,jl,e]
   ·by_cases TF:x=(next:Int) -1
    ·rw[bf (by rintro(q|q);exact jl q;exact q TF)]at e;obtain⟨j,rfl⟩:∃j:Nat,x=j:=⟨x.toNat,by omega⟩;have a5:j<F.length:=by omega
     obtain⟨y,ax⟩:=bI a5;rw[show((j:Int)).toNat=j by omega,ax,hC]at e
     have c1:=Mn.addr (i:=j) (by rw[dy];exact a5);have atN:b8 .i64 ((next:Int) -1)=(j:Int):=by rw[wn];omega
     simp only[go_sem,seval,bq,f1,cq,cH,cQ,av,bJ,aU.ag.er (aU.lt hit),aU.ag.hn (aU.at aq),cB,cY,jl,atN,c1,Mn.bM (jr ax),o1];refine⟨m,by omega,_,y,rfl,by omega,dw y (c0 ax),e,?_,?_,?_,?_,?_⟩
     all_goals simp only[go_sem,seval,bq,f1,cq]
    ·rw[bl (.inr TF)]at e;simp only[go_sem,seval,bq,f1,cq,cH,cQ,av,bJ,aU.ag.er (aU.lt hit),aU.ag.hn (aU.at aq),cB,cY,jl,wn,TF,e]
 all_goals simp only[go_sem,seval]
theorem an6(bt Z:List Nat)(dw:∀x∈bt,x<=bt.length):∀(l:List Int) (next:Nat),next<=bt.length->oj (bt++Z) next l=oj bt next l
 |[],_,_=>rfl
 |k::l,next,aq=>by
  unfold oj;by_cases h:k<0\/k≠(next:Int) -1
  ·rw[bl h,bl h]
  ·rw[bf h,bf h];have hk:k.toNat<bt.length:=by omega
   rw[nP hk];obtain⟨y,ax⟩:=bI hk;rw[ax,hC];exact an6 bt Z dw l y (dw y (c0 ax))
theorem aoB(bt:List Nat)(dw:∀x∈bt,x<=bt.length)(k:Int):∀(l:List Int) (next:Nat),next<=bt.length->oj bt next (l++[k])=true->0<=k/\k.toNat<bt.length
 |[],next,aq,e=>by
  rw[nR]at e;unfold oj at e;by_cases h:k<0\/k≠(next:Int) -1
  ·rw[bl h]at e;cases e
  ·omega
 |x::l,next,aq,e=>by
  rw[zH]at e;unfold oj at e;by_cases h:x<0\/x≠(next:Int) -1
  ·rw[bl h]at e;cases e
  ·rw[bf h]at e;have hk:x.toNat<bt.length:=by omega
   obtain⟨y,ax⟩:=bI hk;rw[ax,hC]at e;exact aoB bt dw k l y (dw y (c0 ax)) e
theorem ani{bt:List Nat}{m x:Nat}(hm:0<m):(bt++List.replicate m 0).set bt.length x=bt++[x]++List.replicate (m-1) 0:=by
 obtain⟨k,rfl⟩:∃k,m=k+1:=⟨m-1,by omega⟩;rw[G7 _ _ (a1 _),sb,List.replicate_succ];simp
theorem aI7{bt Z:List Nat}{x y:Nat}:(bt++[x]++Z).set bt.length y=bt++[y]++Z:=by
 rw[nk,G7 _ _ (a1 _),sb];simp
def BS(bt:List Nat)(n:bb):Nat:=if n.kids≠[]/\ordered bt bt.length n=true then(bt[(n.kids.headD 0).toNat]?).getD 0 else bt.length
theorem Hy(n:bb)(t:List bb)(bt:List Nat):dN (n::t) bt=dN t (bt++[BS bt n]):=rfl
theorem adw{v:V}{t:List bb}{S W:Nat->V}[bP:aK a](aU:fc a v t S W)(au:t.length<1000000):
  cJ J a 99 [v] (fun w h=>bB h w 1 (dY .i64 (dN t []))/\(dN t []).length=t.length/\∀j x:Nat,(dN t [])[j]?=some x->x<=j):=by
 refine cJ.bE ak.abU rfl fun h ca g=>?_;have h8:=wY 3 1 8 [.ad (.ofNat 0)] t.length (by omega) (by omega);rw[BX]at h8;have rM:(Int.ofNat 0)=0:=rfl;simp only[rM]at h8;have rv:eC h.next h:=⟨a1 _⟩
 have adp:eC h.next a:=an
 have st:=fun(O:List Nat) (aa:H) (i:Nat) (ai:i<O.length) (x:Nat)=>BE (k:=.i64) O 3 aa h.next i ai x
 have e1:=fun i ai=>rp h.next 0 0 t.length 1 (some t.length) i ai
 simp only[eH,kz]at st e1;simp only[abT,go_sem,seval,aU.ag.a2,gj,h8];refine dK t.length (fun i s=>∃I h1 bt,s=⟨I,[],h1⟩/\aj h h1/\bt.length=i/\(∀j x:Nat,bt[j]?=some x->x<=j)/\dN t []=dN (t.drop i) bt/\h1.get h.next=some (.af (d8 .i64 (bt++List.replicate (t.length-i) 0)) 3)/\
  I.gt 0=v/\I.gt 3=.ag h.next 0 0 t.length 1 (some t.length)/\I.gt 4=.ad (i:Nat)) ?_ ?_ (dk _) ⟨_,_,[],rfl,an,rfl,(fun j x e=>by simp at e),rfl,by rw[nR,x5];exact ef,?_,?_,?_⟩
 ·rintro i s ai ⟨I,h1,bt,rfl,aB,uV,ah,ha,e4,bq,aR,bZ⟩;have bW:=aB.bx;have Nv:=aP e4;have dx:aj a h1:=g.aG aB;obtain⟨n,aq⟩:=bI ai;have ay:((i:Int)<(t.length:Int)):=by omega
  rw[en aq,Hy]at ha;have dw:∀x∈bt,x<=bt.length:=fun x ab=>by
   obtain⟨j,a5⟩:=List.mem_iff_getElem?.1 ab;have:=ah j x a5;rcases dz j bt.length with q|q
   ·omega
   ·rw[ei q]at a5;cases a5
  have R:=aU.row i n aq;have ar:=R.kids.a2;rw[c7]at ar;have bJ:=aU.ag.addr (aU.lt ai);have st1:=st (bt++List.replicate (t.length-i) 0) h1 i (by rw[fi,te];omega) i;rw[<-uV,ani (by omega),uV]at st1;obtain⟨Z,Cf⟩:∃Z,Z=List.replicate (t.length-i-1) 0:=⟨_,rfl⟩;rw[<-Cf]at st1;have adx:(bt++[i]++Z).length=t.length:=by rw[Cf];simp;omega
  obtain⟨eb,ff⟩:∃H:H,H=h1.set h.next (.af (d8 .i64 (bt++[i]++Z)) 3):=⟨_,rfl⟩
  have c3:aK eb:=by rw[ff];exact an
  have aY:aj h eb:=by rw[ff];exact an
  have iW:aj a eb:=g.aG aY;have a8:eb.get h.next=some (.af (d8 .i64 (bt++[i]++Z)) 3):=by rw[ff];exact jt
  have art:=aP a8;have Mn:bB eb (.ag h.next 0 0 t.length 1 (some t.length)) 1 (dY .i64 (bt++[i]++Z)):=by
   have:=nY a8 (some t.length);rwa[adx]at this
  have atO:∀x∈bt++[i]++Z,x<=(bt++[i]++Z).length:=fun x ab=>by
   rw[adx];rcases List.mem_append.1 ab with q|q
   ·rcases List.mem_append.1 q with q|q
    ·have:=dw x q;omega
    ·simp at q;omega
   ·rw[Cf,Lv]at q;omega
  have co:=ajX (J:=J) (aU.aO bP.ok iW) au Mn atO (by omega) aq (by omega);have hj:ordered (bt++[i]++Z) i n=ordered bt bt.length n:=by
   unfold ordered;rw[nk,an6 bt _ dw _ _ (by omega),uV]
  rw[hj]at co;have DG:∀x,bt++[x]++Z=(bt++[x])++List.replicate (t.length-(i+1)) 0:=fun x=>by rw[Cf,Nat.sub_sub]
  have yH:∀x:Nat,x<=i->x=BS bt n->(∀j y:Nat,(bt++[x])[j]?=some y->y<=j):=fun x ab _ j y a5=>by
   rcases dz j bt.length with q|q
   ·rw[nP q]at a5;exact ah j y a5
   ·rw[oo q]at a5;have:j-bt.length=0:=by
     rcases nS (j-bt.length)with e|e
     ·exact e
     ·rw[ei (by simp;omega)]at a5;cases a5
    rw[this]at a5;simp at a5;omega
  by_cases hk:n.kids=[]
  ·have hlen:¬((0:Int)<(n.kids.length:Int)):=by rw[hk];simp
   have ab:i=BS bt n:=by unfold BS;rw[bf (by simp[hk]),uV]
   simp only[go_sem,seval,bq,aR,bZ,ay,aU.ag.a2,gj,e1 i ai,e4,st1];simp only[<-ff];simp only[go_sem,seval,bq,aR,bZ,bJ,aU.ag.er (aU.lt ai),aU.ag.hn (aU.at aq),ar,hlen,cG (show i<9223372036854775807 by omega)];refine⟨_,eb,bt++[i],rfl,aY,by simp[uV],yH i (a1 _) ab,by rw[<-ab]at ha;exact ha,by rw[a8,DG i],?_,?_,?_⟩
   all_goals simp only[go_sem,seval,bq,aR]
  ·have hlen:((0:Int)<(n.kids.length:Int)):=by
    have:n.kids.length≠0:=fun e=>hk (tb e);omega
   cases a6:ordered bt bt.length n with
   |false=>
    rw[a6]at co;have ab:i=BS bt n:=by unfold BS;rw[bf (by simp[a6]),uV]
    simp only[go_sem,seval,bq,aR,bZ,ay,aU.ag.a2,gj,e1 i ai,e4,st1];simp only[<-ff];simp only[go_sem,seval,bq,aR,bZ,bJ,aU.ag.er (aU.lt ai),aU.ag.hn (aU.at aq),ar,hlen,co.cl,cG (show i<9223372036854775807 by omega)];refine⟨_,_,bt++[i],rfl,an,by simp[uV],yH i (a1 _) ab,by rw[<-ab]at ha;exact ha,by rw[bQ,a8,DG i],?_,?_,?_⟩
    all_goals simp only[go_sem,seval,bq,aR]
   |true=>
    rw[a6]at co;obtain⟨fa,eR,xi⟩:∃fa eR,n.kids=fa::eR:=by
     cases q:n.kids with
     |nil=>exact absurd q hk
     |cons x l=>exact⟨x,l,rfl⟩
    have mK:0<=fa/\fa.toNat<bt.length:=by
     refine aoB bt dw fa eR.reverse bt.length (a1 _) ?_;have:n.kids.reverse=eR.reverse++[fa]:=by rw[xi,List.reverse_cons]
     rw[<-this];exact a6
    obtain⟨j,rfl⟩:∃j:Nat,fa=j:=⟨fa.toNat,by omega⟩;have a5:j<bt.length:=by omega
    obtain⟨y,ax⟩:=bI a5;have acX:=ah j y ax;have ab:y=BS bt n:=by
     unfold BS;rw[bl ⟨hk,a6⟩,xi];show y=(bt[(j:Int).toNat]?).getD 0;rw[show(j:Int).toNat=j by omega,ax,hC]
    have tY:n.kids[0]?=some (j:Int):=by rw[xi];rfl
    have b2:=R.kids.addr (i:=0) (by rw[c7,xi];simp);have dO:=R.kids.bM (gn tY);have TG:(bt++[i]++Z)[j]?=some y:=by rw[nk,nP a5];exact ax
    have ld:=vg (KU (k:=.i64) TG) 3 .rw;simp only[eH,kz]at ld;have st2:=st (bt++[i]++Z) (cg co eb an) i (by omega) y;have yC:(bt++[i]++Z).set i y=bt++[y]++Z:=by rw[<-uV];exact aI7
    rw[yC]at st2;have atP:jP 1 (W i) (.ad 0)=some (uN (W i) 1 0):=b2;simp only[go_sem,seval,bq,aR,bZ,ay,aU.ag.a2,gj,e1 i ai,e4,st1];simp only[<-ff];simp only[go_sem,seval,bq,aR,bZ,bJ,aU.ag.er (aU.lt ai),aU.ag.hn (aU.at aq),ar,hlen,co.cl,atP,dO,e1 j (by omega),e1 i ai,a8,ld,st2,cG (show i<9223372036854775807 by omega)];refine⟨_,_,bt++[y],rfl,an,by simp[uV],yH y (by omega) ab,by rw[<-ab]at ha;exact ha,by rw[jt,DG y],?_,?_,?_⟩
    all_goals simp only[go_sem,seval,bq,aR]
 ·rintro s ⟨I,h1,bt,rfl,aB,uV,ah,ha,e4,bq,aR,bZ⟩;have bW:=aB.bx;have dx:aj a h1:=g.aG aB;have ay:¬((t.length:Int)<(t.length:Int)):=by omega
  rw[fp]at ha;have ha:dN t []=bt:=ha;rw[sb,List.replicate_zero,qy]at e4;have ag:=nY e4 (some t.length);rw[uV]at ag;rw[ha];simp only[go_sem,seval,bq,aR,bZ,aU.ag.a2,gj,ay];exact⟨ag,uV,ah⟩
 all_goals simp only[go_sem,seval]
 all_goals rfl
theorem akX(a b:Bool):V.bin .neq .bool (.bool a) (.bool b)=some (.bool (!decide (a=b))):=by cases a<;>cases b<;>rfl
theorem aL7(t:List bb)(q:Bool)(k:Int)(l:List Int):BW t q (k::l)=if decide (q8 t k=19)=(q&&!l.isEmpty)then BW t q l else false:=rfl
theorem ayR{v:V}{t:List bb}{S W:Nat->V}[bP:aK a](aU:fc a v t S W)(au:t.length<1000000){n:bb}{s w:V}(r:qY a n s w)(aA:s.cells=[s])(hk:∀k∈n.kids,0<=k/\k.toNat<t.length):
  aS J a 102 [v,eW n s w] (.bool (s9 t n)):=by
 refine aS.bE ak.afQ rfl fun h ca g=>?_;have ar:=r.kids.a2;rw[c7]at ar;have ki:=r.ki;have lf:=ajV (J:=J) (a:=h) n.op;have fq:b8 .i64 ((n.kids.length:Int) -1)=(n.kids.length:Int) -1:=gz (by omega) (by omega)
 unfold s9;obtain⟨H1,cR⟩:∃H:H,H=h.new (.af [.ad n.op,.str n.sort,.str n.name,s,w] 90):=⟨_,rfl⟩;have bW:aK H1:=by rw[cR];exact an
 have aB:aj h H1:=by rw[cR];exact an
 obtain⟨cB,mN⟩:∃b:P,b=h.next:=⟨_,rfl⟩
 have bj:H1.get cB=some (.af [.ad n.op,.str n.sort,.str n.name,s,w] 90):=by rw[cR,mN];exact ef
 have fZ:=aP bj;simp only[afP,go_sem,seval,eW];simp only[<-mN];simp only[<-cR];refine dK n.kids.length (fun i h0=>∃I h1,h0=⟨I,[],h1⟩/\aj H1 h1/\BW t (tM n.op) n.kids=BW t (tM n.op) (n.kids.drop i)/\I.gt 0=v/\I.gt 3=.ptr cB 0 0 5/\I.gt 5=.ad (i:Nat)) ?_ ?_ (dk _) ⟨_,H1,rfl,an,rfl,?_,?_,?_⟩
 ·rintro i h0 ai ⟨I,h1,rfl,aY,e,bq,aR,bu⟩;have c3:=aY.bx;have lF:=aB.aG aY;have dx:aj a h1:=g.aG lF;have kC:=aY.dW;have e5:=(aY.gt cB).trans bj;obtain⟨k,Df⟩:=bI ai;have ay:((i:Int)<(n.kids.length:Int)):=by omega
  obtain⟨tY,tB⟩:=hk k (c0 Df);obtain⟨j,rfl⟩:∃j:Nat,k=j:=⟨k.toNat,by omega⟩;have a5:j<t.length:=by omega
  obtain⟨m,hm⟩:=bI a5;have cw:q8 t (j:Int)=m.op:=by unfold q8;rw[show(j:Int).toNat=j by omega,hm];rfl
  rw[en Df,aL7,cw]at e;have bX:(!(n.kids.drop (i+1)).isEmpty)=decide ((i:Int)<(n.kids.length:Int) -1):=by
   have:(n.kids.drop (i+1)).isEmpty=decide (n.kids.length<=i+1):=by
    rw[i9,List.isEmpty_iff,kL,List.drop_eq_nil_iff]
   rw[this,<-decide_not,ov];omega
  rw[bX]at e;have b2:=r.kids.addr (i:=i) (by rw[c7];exact ai);have dO:=r.kids.bM (gn Df);have bJ:=aU.ag.addr (aU.lt a5);cases aM:tM n.op with
  |true=>
   rw[aM]at lf;rw[aM,ju]at e;by_cases p7:m.op=19
   ·by_cases tS:(i:Int)<(n.kids.length:Int) -1
    ·rw[ke p7,ke tS]at e;rw[bl rfl]at e;simp only[go_sem,seval,bq,aR,bu,e5,g2,l8,g1,l7,ar,ay,lf.cl,bQ,fq,b2,dO,bJ,aU.ag.er (aU.lt a5),aU.ag.hn (aU.at hm),p7,tS,cG (show i<9223372036854775807 by omega)];refine⟨_,_,rfl,an,e,?_,?_,?_⟩
     all_goals simp only[go_sem,seval,bq,aR]
    ·rw[ke p7,jS tS]at e;rw[bf (by decide)]at e;rw[e];simp only[go_sem,seval,bq,aR,bu,e5,g2,l8,g1,l7,ar,ay,lf.cl,bQ,fq,b2,dO,bJ,aU.ag.er (aU.lt a5),aU.ag.hn (aU.at hm),p7,tS]
   ·by_cases tS:(i:Int)<(n.kids.length:Int) -1
    ·rw[jS p7,ke tS]at e;rw[bf (by decide)]at e;rw[e];simp only[go_sem,seval,bq,aR,bu,e5,g2,l8,g1,l7,ar,ay,lf.cl,bQ,fq,b2,dO,bJ,aU.ag.er (aU.lt a5),aU.ag.hn (aU.at hm),p7,tS]
    ·rw[jS p7,jS tS]at e;rw[bl rfl]at e;simp only[go_sem,seval,bq,aR,bu,e5,g2,l8,g1,l7,ar,ay,lf.cl,bQ,fq,b2,dO,bJ,aU.ag.er (aU.lt a5),aU.ag.hn (aU.at hm),p7,tS,cG (show i<9223372036854775807 by omega)];refine⟨_,_,rfl,an,e,?_,?_,?_⟩
     all_goals simp only[go_sem,seval,bq,aR]
  |false=>
   rw[aM]at lf;rw[aM,mg]at e;by_cases a3:m.op=19
   ·rw[bf (by simp[a3])]at e;rw[e];simp only[go_sem,seval,bq,aR,bu,e5,g2,l8,g1,l7,ar,ay,lf.cl,bQ,fq,b2,dO,bJ,aU.ag.er (aU.lt a5),aU.ag.hn (aU.at hm),akX,a3]
   ·rw[bl (by simp[a3])]at e;simp only[go_sem,seval,bq,aR,bu,e5,g2,l8,g1,l7,ar,ay,lf.cl,bQ,fq,b2,dO,bJ,aU.ag.er (aU.lt a5),aU.ag.hn (aU.at hm),akX,a3,cG (show i<9223372036854775807 by omega)];refine⟨_,_,rfl,an,e,?_,?_,?_⟩
    all_goals simp only[go_sem,seval,bq,aR]
 ·rintro h0 ⟨I,h1,rfl,aY,e,bq,aR,bu⟩;have c3:=aY.bx;have lF:=aB.aG aY;have dx:aj a h1:=g.aG lF;have kC:=aY.dW;have e5:=(aY.gt cB).trans bj;have ay:¬((n.kids.length:Int)<(n.kids.length:Int)):=by omega
  rw[fp]at e;simp only[go_sem,seval,bq,aR,bu,e5,l8,l7,ar,ay,e];rfl
 all_goals simp only[go_sem,seval]
theorem ams(s:b9):decide (s=[])=s.isEmpty:=by cases s<;>rfl
theorem ayS[bP:aK a]{n:bb}(s w:V)(aq:n.name.length<1000000):aS J a 103 [eW n s w] (.ad (rn n)):=by
 refine aS.bE ak.afR rfl fun h ca g=>?_;have c1:=ayN (J:=J) (a:=h) n.name aq;have c2:=ajW (J:=J) (a:=h) n.name aq;have af:=fun(b:Bool) (e:Int)=>AY (J:=J) (a:=h) b e;have he:=ams n.name;unfold rn;by_cases ae:n.op=2
 ·rw[bl ae];simp only[Ka,go_sem,seval,eW,g2,qf,g1,qe,ae,c1.cl,bQ,(af _ _).cl]
 ·rw[bf ae];by_cases az:n.op=3
  ·rw[bl az];simp only[Ka,go_sem,seval,eW,g2,qf,g1,qe,az,c2.cl,bQ,(af _ _).cl]
  ·rw[bf az];by_cases bo:n.op=4
   ·rw[bl bo];simp only[Ka,go_sem,seval,eW,g2,qf,g1,qe,bo,he,(af _ _).cl]
   ·rw[bf bo];simp only[Ka,go_sem,seval,eW,g2,qf,g1,qe,ae,az,bo,he,(af _ _).cl]
theorem ayT[bP:aK a]{n:bb}(s w:V)(aq:n.name.length<1000000):aS J a 105 [eW n s w] (.ad (zT n)):=by
 refine aS.bE ak.afT rfl fun h ca g=>?_;have c1:=OS (J:=J) (a:=h) n.name aq;have c2:=Wq (J:=J) (a:=h) n.name aq;have af:=fun(b:Bool) (e:Int)=>AY (J:=J) (a:=h) b e;have he:=ams n.sort;unfold zT isNum zk Bq mb;by_cases ae:n.op=2
 ·rw[bl ae];by_cases ai:n.sort=[73,110,116]
  ·have aI:¬(n.sort=[82,101,97,108]):=by rw[ai];decide
   by_cases aX:d9 n.name=0
   ·simp only[xT,go_sem,seval,eW,g2,sR,qf,g1,sQ,qe,ae,ai,aX,c1.cl,bQ,(af _ _).cl]
   ·have oJ:¬([73,110,116]=[82,101,97,108]):=by decide
    simp only[xT,go_sem,seval,eW,g2,sR,qf,g1,sQ,qe,ae,ai,aX,oJ,c1.cl,bQ,(af _ _).cl]
    try rfl
  ·by_cases aI:n.sort=[82,101,97,108]
   ·have ck:¬([82,101,97,108]=[73,110,116]):=by decide
    simp only[xT,go_sem,seval,eW,g2,sR,qf,g1,sQ,qe,ae,aI,ck,c2.cl,bQ,(af _ _).cl]
    try rfl
   ·simp only[xT,go_sem,seval,eW,g2,sR,qf,g1,sQ,qe,ae,ai,aI,bQ,(af _ _).cl]
    try rfl
 ·rw[bf ae];by_cases az:n.op∈([12,13,14]:List Int)
  ·rw[bl az];simp only[lT,tf,sg]at az;by_cases ai:n.sort=[73,110,116]
   ·rcases az with q|q|q
    all_goals simp only[xT,go_sem,seval,eW,g2,sR,qf,g1,sQ,qe,q,ai,(af _ _).cl]
   ·rcases az with q|q|q
    all_goals simp only[xT,go_sem,seval,eW,g2,sR,qf,g1,sQ,qe,q,ai,(af _ _).cl]
  ·rw[bf az];simp only[lT,tf,sg,not_or]at az;obtain⟨atQ,atS,atT⟩:=az;by_cases bo:n.op∈([3,4,10]:List Int)
   ·rw[bl bo];simp only[lT,tf,sg]at bo;rcases bo with q|q|q
    all_goals simp only[xT,go_sem,seval,eW,g2,sR,qf,g1,sQ,qe,q,he,(af _ _).cl]
   ·rw[bf bo];simp only[lT,tf,sg,not_or]at bo;obtain⟨tq,oH,y3⟩:=bo;by_cases NI:n.op=19
    ·rw[bl NI];simp only[xT,go_sem,seval,eW,g2,sR,qf,g1,sQ,qe,NI,he,(af _ _).cl]
    ·rw[bf NI];simp only[xT,go_sem,seval,eW,g2,sR,qf,g1,sQ,qe,ae,atQ,atS,atT,tq,oH,y3,NI,(af _ _).cl]
theorem aKj(l:List (b9×b9))(i:Nat):(hi l).take i=hi (l.take i):=by simp[hi,G2]
theorem ajY[bP:aK a]{n:bb}{s w:V}(r:qY a n s w)(au:∀v∈n.vars,v.1.length<1000000){aJ:H}[ca:aK aJ][eZ:aj a aJ]{cB:P}{I:Fr}{k:c4}
  (aN:aJ.get cB=some (.af [.ad n.op,.str n.sort,.str n.name,s,w] 90)) (f1:I.gt 1=.ptr cB 0 0 5) (bu:I.gt 5=.ad 0)
  (eu:∀aQ aa,aj aJ aa->nU [] n.vars=0->k.run J (.exit 0 ⟨aQ,[],aa⟩)) (ht:∀aQ aa,aj aJ aa->aQ.gt 2=.ad (nU [] n.vars) ->k.run J (.ret ⟨aQ,[],aa⟩)):dA J aln ⟨I,[],aJ⟩ k:=by
 have fZ:=aP aN;have ar:=r.vars.a2;rw[jd]at ar;have hF:=r.hF;unfold aln;refine dK n.vars.length (fun i t=>∃I h1,t=⟨I,[],h1⟩/\aj aJ h1/\nU [] n.vars=nU ((n.vars.take i).map Prod.fst) (n.vars.drop i)/\I.gt 1=.ptr cB 0 0 5/\I.gt 5=.ad (i:Nat)) ?_ ?_ (dk _) ⟨I,aJ,rfl,an,rfl,f1,bu⟩
 ·rintro i t ai ⟨I,h1,rfl,aB,e,f1,bu⟩;have bW:=aB.bx;have dx:aj a h1:=eZ.aG aB;have ry:=aB.dW;have e5:=(aB.gt cB).trans aN;obtain⟨x,ab⟩:=bI ai;have ay:((i:Int)<(n.vars.length:Int)):=by omega
  have Dc:=au x (c0 ab);have ck:i<(hi n.vars).length:=by rw[jd];exact ai
  have bJ:=r.vars.addr ck;have iD:=ajW (J:=J) (a:=aJ) x.1 Dc;have af:=fun(b:Bool) (e:Int)=>AY (J:=J) (a:=aJ) b e;have ts:=r.vars.wG r.Ge (i:=i) (by rw[jd];omega);have st:=r.vars.to (i:=i) (by rw[jd];omega);rw[aKj]at st;have h3:=ayQ (J:=J) st (by rw[el];omega) x.1;have hm:=anh x.1 (n.vars.take i) 0;rw[en ab,aoO]at e;cases bh: plain x.1 with
  |false=>
   rw[bf (by simp[bh])]at e;rw[bh]at iD;simp only[go_sem,seval,f1,bu,e5,q2,rQ,ar,ay,bJ,r.vars.er ck,r.vars.hn (nX ab),iD.cl,(af _ _).cl,cd];exact ht _ _ an (by simp only[go_sem,seval,e])
  |true=>
   rw[bl bh]at e;rw[bh]at iD;by_cases ev:x.1∈(n.vars.take i).map Prod.fst
   ·rw[bl ev]at e;rw[ke ev]at hm;simp only[go_sem,seval,f1,bu,e5,q2,rQ,ar,ay,bJ,r.vars.er ck,r.vars.hn (nX ab),iD.cl,(af _ _).cl,cd,bQ,ts,h3.bL,hm];exact ht _ _ an (by simp only[go_sem,seval,e])
   ·rw[bf ev]at e;rw[jS ev]at hm;simp only[go_sem,seval,f1,bu,e5,q2,rQ,ar,ay,bJ,r.vars.er ck,r.vars.hn (nX ab),iD.cl,(af _ _).cl,cd,bQ,ts,h3.bL,hm,cG (show i<9223372036854775807 by omega)];refine⟨_,_,rfl,an,?_,?_,?_⟩
    ·rw[e,nq ab,wW];rfl
    all_goals simp only[go_sem,seval,f1]
 ·rintro t ⟨I,h1,rfl,aB,e,f1,bu⟩;have bW:=aB.bx;have ry:=aB.dW;have e5:=(aB.gt cB).trans aN;have ay:¬((n.vars.length:Int)<(n.vars.length:Int)):=by omega
  rw[fp]at e;simp only[go_sem,seval,f1,bu,e5,q2,rQ,ar,ay];exact eu _ _ an e
theorem ayU[bP:aK a]{n:bb}{s w:V}(r:qY a n s w)(au:∀v∈n.vars,v.1.length<1000000):aS J a 104 [eW n s w] (.ad (mA n)):=by
 refine aS.bE ak.afS rfl fun h ca g=>?_;have lf:=ajV (J:=J) (a:=h) n.op;have ar:=r.vars.a2;rw[jd]at ar;unfold mA;cases aM:tM n.op with
 |true=>
  rw[aM]at lf;rw[bl rfl];by_cases h1:(n.vars.length:Int)<1
  ·rw[bl (.inl (by omega))];simp only[Dx,go_sem,seval,eW,g2,q2,g1,rQ,lf.cl,bQ,ar,h1]
  ·by_cases ae:(12:Int)<(n.vars.length:Int)
   ·rw[bl (.inr (by omega))];simp only[Dx,go_sem,seval,eW,g2,q2,g1,rQ,lf.cl,bQ,ar,h1,ae]
   ·rw[bf (by omega)];simp only[Dx,go_sem,seval,eW,g2,q2,g1,rQ,lf.cl,bQ,ar,h1,ae];refine ajY (a:=a) r au (cB:=h.next) (by simp only[go_sem,seval]) (by simp only[go_sem,seval]) (by simp only[go_sem,seval]) (fun aQ aa bR e=>?_) (fun aQ aa bR e=>?_)
    ·have ch:=bR.bx;have eZ:aj h aa:=aj.aG (b:=_) an bR;simp only[go_sem,seval,e]
    ·have ch:=bR.bx;have eZ:aj h aa:=aj.aG (b:=_) an bR;simp only[go_sem,seval,e]
 |false=>
  rw[aM]at lf;rw[bf (by decide)];by_cases ae:(0:Int)<(n.vars.length:Int)
  ·have h1:¬((n.vars.length:Int)<0):=by omega
   rw[bl (by omega)];simp only[Dx,go_sem,seval,eW,g2,q2,g1,rQ,lf.cl,bQ,ar,h1,ae]
  ·have h1:¬((n.vars.length:Int)<0):=by omega
   rw[bf (by omega)];simp only[Dx,go_sem,seval,eW,g2,q2,g1,rQ,lf.cl,bQ,ar,h1,ae];refine ajY (a:=a) r au (cB:=h.next) (by simp only[go_sem,seval]) (by simp only[go_sem,seval]) (by simp only[go_sem,seval]) (fun aQ aa bR e=>?_) (fun aQ aa bR e=>?_)
   ·have ch:=bR.bx;have eZ:aj h aa:=aj.aG (b:=_) an bR;simp only[go_sem,seval,e]
   ·have ch:=bR.bx;have eZ:aj h aa:=aj.aG (b:=_) an bR;simp only[go_sem,seval,e]
theorem aLv(n:bb)(t:List bb)(ds:List Nat):Form.hW (n::t) ds=Form.hW t (ds++[ka ds n.kids 0+1]):=rfl
theorem aLw(ds:List Nat)(k:Int)(l:List Int)(m:Nat):ka ds (k::l) m=ka ds l (max m ((ds[k.toNat]?).getD 0)):=rfl
theorem ayV[bP:aK a]{v:V}{t:List bb}{S W:Nat->V}(aU:fc a v t S W){i:Nat}{n:bb}(aq:t[i]?=some n){ds Z:List Nat}(oa:ds.length=i)(ah:∀x∈ds,x<=i)(hk:∀k∈n.kids,0<=k/\k.toNat<i){aJ:H}[ca:aK aJ][eZ:aj a aJ]{f:P}{N:Nat}(ai:i<N)(ha:aJ.get f=some (.af (d8 .i64 (ds++Z)) 3)){I:Fr}{k:c4}
  (bq:I.gt 0=v) (aR:I.gt 3=.ag f 0 0 N 1 (some N)) (bZ:I.gt 4=.ad (i:Nat)) (bu:I.gt 5=.ad 0) (cj:I.gt 6=.ad 0) (vt:N<1000000)
  (eu:∀aQ,ka ds n.kids 0<=i->aQ.gt 0=v->aQ.gt 3=.ag f 0 0 N 1 (some N) ->aQ.gt 4=.ad (i:Nat) ->aQ.gt 5=.ad (ka ds n.kids 0:Nat) ->k.run J (.exit 2 ⟨aQ,[],aJ⟩)):dA J alo ⟨I,[],aJ⟩ k:=by
 have hit:i<t.length:=by
  rcases dz i t.length with q|q
  ·exact q
  ·rw[ei q]at aq;cases aq
 have R:=aU.row i n aq;have ki:=R.ki;have ar:=R.kids.a2;rw[c7]at ar;have bJ:=aU.ag.addr (aU.lt hit);have e1:=fun i ai=>rp f 0 0 N 1 (some N) i ai;simp only[eH,kz]at e1;unfold alo;refine dK n.kids.length (fun m t=>∃I deep,t=⟨I,[],aJ⟩/\deep<=i/\ka ds n.kids 0=ka ds (n.kids.drop m) deep/\I.gt 0=v/\I.gt 3=.ag f 0 0 N 1 (some N)/\I.gt 4=.ad (i:Nat)/\I.gt 5=.ad (deep:Nat)/\I.gt 6=.ad (m:Nat)) ?_ ?_ (dk _) ⟨I,0,rfl,dk _,rfl,bq,aR,bZ,bu,cj⟩
 ·rintro m h0 hm ⟨I,deep,rfl,a3,e,bq,aR,bZ,bu,cj⟩;obtain⟨x,ab⟩:=bI hm;have ay:((m:Int)<(n.kids.length:Int)):=by omega
  obtain⟨jl,TH⟩:=hk x (c0 ab);obtain⟨j,rfl⟩:∃j:Nat,x=j:=⟨x.toNat,by omega⟩;have a5:j<ds.length:=by omega
  obtain⟨y,ax⟩:=bI a5;have acX:=ah y (c0 ax);rw[en ab,aLw,show(j:Int).toNat=j by omega,ax,hC]at e;have b2:=R.kids.addr (i:=m) (by rw[c7];exact hm);have dO:=R.kids.bM (gn ab);have TG:(ds++Z)[j]?=some y:=by rw[nP a5];exact ax
  have ld:=vg (KU (k:=.i64) TG) 3 .rw;simp only[eH,kz]at ld;simp only[go_sem,seval,bq,aR,bZ,bu,cj,bJ,aU.ag.er (aU.lt hit),aU.ag.hn (aU.at aq),ar,ay,b2,dO,e1 j (by omega),ha,ld,cG (show m<9223372036854775807 by omega)];refine⟨_,max deep y,rfl,by omega,e,?_,?_,?_,?_,?_⟩
  all_goals simp only[go_sem,seval,bq,aR,bZ]
 ·rintro h0 ⟨I,deep,rfl,a3,e,bq,aR,bZ,bu,cj⟩;have ay:¬((n.kids.length:Int)<(n.kids.length:Int)):=by omega
  rw[fp]at e;have e:ka ds n.kids 0=deep:=e;simp only[go_sem,seval,bq,bZ,cj,bJ,aU.ag.er (aU.lt hit),aU.ag.hn (aU.at aq),ar,ay];refine eu _ (by omega) ?_ ?_ ?_ ?_
  all_goals simp only[go_sem,seval,bq,aR,bZ,bu,e]
theorem ayW{v:V}{t:List bb}{S W:Nat->V}[bP:aK a](aU:fc a v t S W)(au:t.length<1000000)(hk:∀(i:Nat) (n:bb),t[i]?=some n->∀k∈n.kids,(0:Int)<=k/\k.toNat<i):
  cJ J a 106 [v] (fun w h=>bB h w 1 (dY .i64 (Form.hW t []))/\(Form.hW t []).length=t.length):=by
 refine cJ.bE ak.afU rfl fun h ca g=>?_;have h8:=wY 3 1 8 [.ad (.ofNat 0)] t.length (by omega) (by omega);rw[BX]at h8;have rM:(Int.ofNat 0)=0:=rfl;simp only[rM]at h8;have rv:eC h.next h:=⟨a1 _⟩
 have adp:eC h.next a:=an
 have st:=fun(O:List Nat) (aa:H) (i:Nat) (ai:i<O.length) (x:Nat)=>BE (k:=.i64) O 3 aa h.next i ai x
 have e1:=fun i ai=>rp h.next 0 0 t.length 1 (some t.length) i ai
 simp only[eH,kz]at st e1;simp only[Of,aDO,go_sem,seval,aU.ag.a2,gj,h8];refine dK t.length (fun i s=>∃I h1 ds,s=⟨I,[],h1⟩/\aj h h1/\ds.length=i/\(∀x∈ds,x<=i)/\Form.hW t []=Form.hW (t.drop i) ds/\h1.get h.next=some (.af (d8 .i64 (ds++List.replicate (t.length-i) 0)) 3)/\
  I.gt 0=v/\I.gt 3=.ag h.next 0 0 t.length 1 (some t.length)/\I.gt 4=.ad (i:Nat)) ?_ ?_ (dk _) ⟨_,_,[],rfl,an,rfl,(fun x e=>by simp at e),rfl,by rw[nR,x5];exact ef,?_,?_,?_⟩
 ·rintro i s ai ⟨I,h1,ds,rfl,aB,oa,ah,iQ,e4,bq,aR,bZ⟩;have bW:=aB.bx;have Nv:=aP e4;have dx:aj a h1:=g.aG aB;obtain⟨n,aq⟩:=bI ai;have ay:((i:Int)<(t.length:Int)):=by omega
  rw[en aq,aLv]at iQ;simp only[go_sem,seval,bq,bZ,aU.ag.a2,gj,ay];refine ayV (a:=a) aU aq oa ah (hk i n aq) ai e4 (by simp only[go_sem,seval,bq]) (by simp only[go_sem,seval,aR]) (by simp only[go_sem,seval,bZ]) (by simp only[go_sem,seval]) (by simp only[go_sem,seval]) au ?_;intro aQ a3 fy c5 fw uy;generalize ka ds n.kids 0=d at*;have st1:=st (ds++List.replicate (t.length-i) 0) h1 i (by rw[fi,te];omega) (d+1);rw[<-oa,ani (by omega),oa]at st1;simp only[go_sem,seval,fy,c5,fw,uy,e1 i ai,e4,st1,cG (show d<9223372036854775807 by omega),cG (show i<9223372036854775807 by omega)];refine⟨_,_,ds++[d+1],rfl,an,by simp[oa],?_,iQ,by rw[jt,Nat.sub_sub],?_,?_,?_⟩
  ·intro x ab;rcases List.mem_append.1 ab with q|q
   ·have:=ah x q;omega
   ·simp at q;omega
  all_goals simp only[go_sem,seval,fy,c5]
 ·rintro s ⟨I,h1,ds,rfl,aB,oa,ah,iQ,e4,bq,aR,bZ⟩;have bW:=aB.bx;have dx:aj a h1:=g.aG aB;have ay:¬((t.length:Int)<(t.length:Int)):=by omega
  rw[fp]at iQ;have iQ:Form.hW t []=ds:=iQ;rw[sb,List.replicate_zero,qy]at e4;have ag:=nY e4 (some t.length);rw[oa]at ag;rw[iQ];simp only[go_sem,seval,bq,aR,bZ,aU.ag.a2,gj,ay];exact⟨ag,oa⟩
 all_goals simp only[go_sem,seval]
 all_goals rfl
theorem LR(H:H)[mZ:aK H](b7 bG:Int):aS J (H.new (.af [.ad b7,.ad bG] 3)) 41 [.ag H.next 0 0 2 1 (some 2)] (.ad (cm [b7,bG])):=
 NF (l:=[b7,bG]) (wH H [b7,bG] 3) (by simp)
theorem BY(H:H)[mZ:aK H](b7 bG:Int)(d:Option S)(os:List bH)(I:Fr)(ds:dB)(k:c4):oL J (.fn (.func 41) [] []) [.ag H.next 0 0 2 1 (some 2)] (H.new (.af [.ad b7,.ad bG] 3)) d os I ds k=fu J os (cX d (.ad (cm [b7,bG])) I) (cg (LR (J:=J) H b7 bG) (H.new (.af [.ad b7,.ad bG] 3)) an) ds k:=(LR H b7 bG).cl _ _ _
theorem Ew(H:H)[mZ:aK H](b7 bG:Int)(d:Option S)(b:List Nat)(os:List (bH×List Nat))(n:Nat)(aD:List Rec)(I:Fr)(ds:dB)(k:c4):tL J (.fn (.func 41) [] []) [.ag H.next 0 0 2 1 (some 2)] (H.new (.af [.ad b7,.ad bG] 3)) d b os n aD I ds k=(kK (cg (LR (J:=J) H b7 bG) (H.new (.af [.ad b7,.ad bG] 3)) an) b aD=true/\wd J os (n+1) aD (cX d (.ad (cm [b7,bG])) I) (cg (LR (J:=J) H b7 bG) (H.new (.af [.ad b7,.ad bG] 3)) an) ds k):=(LR H b7 bG).bL _ _ _ _ _ _
theorem LS(H:H)[mZ:aK H](b7 bG ct:Int):aS J (H.new (.af [.ad b7,.ad bG,.ad ct] 3)) 41 [.ag H.next 0 0 3 1 (some 3)] (.ad (cm [b7,bG,ct])):=
 NF (l:=[b7,bG,ct]) (wH H [b7,bG,ct] 3) (by simp)
theorem aI8(H:H)[mZ:aK H](b7 bG ct:Int)(d:Option S)(os:List bH)(I:Fr)(ds:dB)(k:c4):oL J (.fn (.func 41) [] []) [.ag H.next 0 0 3 1 (some 3)] (H.new (.af [.ad b7,.ad bG,.ad ct] 3)) d os I ds k=fu J os (cX d (.ad (cm [b7,bG,ct])) I) (cg (LS (J:=J) H b7 bG ct) (H.new (.af [.ad b7,.ad bG,.ad ct] 3)) an) ds k:=(LS H b7 bG ct).cl _ _ _
theorem Qx(H:H)[mZ:aK H](b7 bG ct:Int)(d:Option S)(b:List Nat)(os:List (bH×List Nat))(n:Nat)(aD:List Rec)(I:Fr)(ds:dB)(k:c4):tL J (.fn (.func 41) [] []) [.ag H.next 0 0 3 1 (some 3)] (H.new (.af [.ad b7,.ad bG,.ad ct] 3)) d b os n aD I ds k=(kK (cg (LS (J:=J) H b7 bG ct) (H.new (.af [.ad b7,.ad bG,.ad ct] 3)) an) b aD=true/\wd J os (n+1) aD (cX d (.ad (cm [b7,bG,ct])) I) (cg (LS (J:=J) H b7 bG ct) (H.new (.af [.ad b7,.ad bG,.ad ct] 3)) an) ds k):=(LS H b7 bG ct).bL _ _ _ _ _ _
theorem YP(H:H)[mZ:aK H](b7 bG ct dR:Int):aS J (H.new (.af [.ad b7,.ad bG,.ad ct,.ad dR] 3)) 41 [.ag H.next 0 0 4 1 (some 4)] (.ad (cm [b7,bG,ct,dR])):=
 NF (l:=[b7,bG,ct,dR]) (wH H [b7,bG,ct,dR] 3) (by simp)
theorem aI9(H:H)[mZ:aK H](b7 bG ct dR:Int)(d:Option S)(b:List Nat)(os:List (bH×List Nat))(n:Nat)(aD:List Rec)(I:Fr)(ds:dB)(k:c4):tL J (.fn (.func 41) [] []) [.ag H.next 0 0 4 1 (some 4)] (H.new (.af [.ad b7,.ad bG,.ad ct,.ad dR] 3)) d b os n aD I ds k=(kK (cg (YP (J:=J) H b7 bG ct dR) (H.new (.af [.ad b7,.ad bG,.ad ct,.ad dR] 3)) an) b aD=true/\wd J os (n+1) aD (cX d (.ad (cm [b7,bG,ct,dR])) I) (cg (YP (J:=J) H b7 bG ct dR) (H.new (.af [.ad b7,.ad bG,.ad ct,.ad dR] 3)) an) ds k):=(YP H b7 bG ct dR).bL _ _ _ _ _ _
theorem LX(e:Int)(l:List Int):cm (e::l)=if e=0 then cm l else e:=rfl
theorem aoT:∀l m:List Int,cm (l++m)=if cm l=0 then cm m else cm l
 |[],m=>by
  have:cm []=0:=rfl;rw[this,bl rfl];rfl
 |e::l,m=>by
  have ih:=aoT l m;rw[zH,LX,LX];by_cases h:e=0
  ·rw[bl h,bl h];exact ih
  ·rw[bf h,bf h,bf h]
theorem aL8(t:List bb)(bt:List Nat)(i:Nat)(n:bb)(l:List bb):np t bt i (n::l)=if mB t bt i n=0 then np t bt (i+1) l else mB t bt i n:=rfl
theorem aLx(t:List bb)(bt:List Nat)(i:Nat)(n:bb):mB t bt i n=if cm [cd (decide (n.op<0)||decide (20<=n.op)) 11,cd (!Form.shape n) 2,cd (!ordered bt i n) 9]=0 then cm [cd (!s9 t n) 11,rn n,mA n,zT n]else cm [cd (decide (n.op<0)||decide (20<=n.op)) 11,cd (!Form.shape n) 2,cd (!ordered bt i n) 9]:=aoT [_,_,_] [_,_,_,_]
theorem aK4{x y:Int}{b:Bool}(h:cm [x,y,cd (!b) 9]=0):b=true:=by
 rw[LX,LX,LX]at h;cases b with
 |true=>rfl
 |false=>
  exfalso;have e:cd (!false) 9=9:=rfl;rw[e]at h;by_cases ab:x=0
  ·rw[bl ab]at h;by_cases ax:y=0
   ·rw[bl ax]at h;cases h
   ·rw[bf ax]at h;exact ax h
  ·rw[bf ab]at h;exact ab h
theorem ady[bP:aK a]{v:V}{t:List bb}{S W:Nat->V}(aU:fc a v t S W)(au:t.length<1000000)(aA:r4 t):aS J a 35 [v] (.ad (hQ t)):=by
 refine aS.bE ak.Sl rfl fun h ca g=>?_;have af:=fun(b:Bool) (e:Int)=>AY (J:=J) (a:=h) b e;have mK:((t.length:Nat):Int)=0↔t.length=0:=by omega
 have Wf:¬(10:Int)=0:=by decide
 have Ta:¬(5:Int)=0:=by decide
 by_cases av:t.length=0
 ·have he:hQ t=10:=by unfold hQ;rw[bl av]
  have xG:¬((2000:Int)<((t.length:Nat):Int)):=by omega
  simp only[MU,go_sem,seval,aU.ag.a2,gj,mK,av,xG,(af _ _).cl,cd,BY,cm,Wf,he,Int.natCast_zero]
 by_cases xG:2000<t.length
 ·have he:hQ t=5:=by unfold hQ;rw[bf av,bl xG]
  have DK:((2000:Int)<((t.length:Nat):Int)):=by omega
  simp only[MU,go_sem,seval,aU.ag.a2,gj,mK,av,DK,(af _ _).cl,cd,BY,cm,Ta,he]
 have DK:¬((2000:Int)<((t.length:Nat):Int)):=by omega
 have kT:=adw (J:=J) aU au;simp only[MU,go_sem,seval,aU.ag.a2,gj,mK,av,DK,(af _ _).cl,cd,BY,cm];refine kT.run fun wf ae aY c3 hp=>?_;obtain⟨vF,HV,Cm⟩:=hp;have ey:aj h ae:=aj.aG (b:=_) an aY;have iW:aj a ae:=g.aG ey;have dw:∀x∈dN t [],x<=(dN t []).length:=fun x ab=>by
  obtain⟨j,a5⟩:=List.mem_iff_getElem?.1 ab;have:=Cm j x a5;rcases dz j (dN t []).length with q|q
  ·omega
  ·rw[ei q]at a5;cases a5
 have eA:hQ t=if np t (dN t []) 0 t≠0 then np t (dN t []) 0 t else cm [cd (decide (lN t (t.length-1)≠0)) 9,cd (decide (q8 t ((t.length-1:Nat):Int)=19)) 11,cd (decide (60<((Form.hW t [])[t.length-1]?).getD 0)) 24]:=by
  unfold hQ;rw[bf av,bf xG];rfl
 obtain⟨E,bX⟩:∃E:Int,E=hQ t:=⟨_,rfl⟩;rw[<-bX];simp only[go_sem,seval];refine dK t.length (fun i s=>∃I h1,s=⟨I,[],h1⟩/\aj ae h1/\np t (dN t []) 0 t=np t (dN t []) i (t.drop i)/\(∀j,j<i->pI t j)/\I.gt 0=v/\I.gt 4=wf/\I.gt 5=.ad (i:Nat)) ?_ ?_ (dk _) ⟨_,ae,rfl,an,rfl,(fun j a5=>by omega),?_,?_,?_⟩
 ·rintro i s ai ⟨I,h1,rfl,aB,lC,iE,bq,bZ,bu⟩;have bW:=aB.bx;have lF:aj h h1:=ey.aG aB;have dx:aj a h1:=iW.aG aB;obtain⟨n,aq⟩:=bI ai;have R:=aU.row i n aq;have ay:((i:Int)<(t.length:Int)):=by omega
  have bJ:=aU.ag.addr (aU.lt ai);obtain⟨iS,xo⟩:=aA i n aq;rw[en aq,aL8]at lC;have mq:∀(h:H) (f:P) (c:List V),c.length=5->fz (some (.af [.ad 0,.str [],.str [],.al,.al] 90)) h f 5 0 0 5 (.agg c)=some (.bk [],h.set f (.af c 90)):=fun h f c U=>pL _ _ _ _ 5 5 (a1 _) (.agg c) U rfl;have cZ:∀(c:List V) (ty:TypeId),c.length=5->ec (some (.af c ty)) true 5 0 0 5=some (.agg c):=fun c ty U=>by
   rw[um _ _ _ _ _ _ _ (a1 _),td (by omega),iL,kM (by omega)];rfl
  have Rv:=fK R.vars;have Ik:=fK R.kids;obtain⟨fr,p8⟩:∃b:P,b=h1.next:=⟨_,rfl⟩
  obtain⟨cx,fe⟩:∃H:H,H=h1.new (.af [.ad n.op,.str n.sort,.str n.name,S i,W i] 90):=⟨_,rfl⟩;have fo:aK cx:=by rw[fe];exact an
  have b4:aj h1 cx:=by rw[fe];exact an
  have l3:aj h cx:=lF.aG b4;have pk:aj a cx:=dx.aG b4;have xM:aj ae cx:=aB.aG b4;have dQ:cx.get fr=some (.af [.ad n.op,.str n.sort,.str n.name,S i,W i] 90):=by rw[fe,p8];exact ef
  have qM:=aP dQ;have cs:aS J a 100 [.agg [.ad n.op,.str n.sort,.str n.name,S i,W i]] (.bool (Form.shape n)):=ayP (J:=J) R;have co:=ajX (J:=J) (a:=cx) (aU.aO bP.ok pk) au (vF.aO c3.ok xM) dw (by omega) aq (by omega);have iP:=aLx t (dN t []) i n;obtain⟨aN,yQ⟩:∃aN,aN=cm [cd (decide (n.op<0)||decide (20<=n.op)) 11,cd (!Form.shape n) 2,cd (!ordered (dN t []) i n) 9]:=⟨_,rfl⟩;rw[<-yQ]at iP;simp only[go_sem,seval,bq,bu,aU.ag.a2,gj,ay,bJ,aU.ag.bM (aU.at aq),mq];simp only[<-p8];simp only[<-fe];have TI:∀e:Int,e≠0->mB t (dN t []) i n=e->E=e:=fun e h1 ae=>by
   rw[bf (by rw[ae];exact h1),ae]at lC;rw[bX,eA,bl (by rw[lC];exact h1),lC]
  by_cases xR:n.op<0
  ·have Gm:cm [cd true 11,cd (!Form.shape n) 2,cd (!ordered (dN t []) i n) 9]=11:=rfl;have p6:aN=11:=by rw[yQ];simp[xR];rfl
   have ayX:=TI 11 (by decide) (by rw[iP,bf (by rw[p6];decide),p6]);rw[ayX];simp only[go_sem,seval,bq,bZ,bu,dQ,g2,g1,cZ,xR,(af _ _).bL,cs.bL,co.bL,bQ,Rv,Ik,Qx,Gm]
  ·have Gm:cm [cd (decide (20<=n.op)) 11,cd (!Form.shape n) 2,cd (!ordered (dN t []) i n) 9]=aN:=by rw[yQ];simp[xR]
   by_cases aX:aN=0
   ·rw[bl aX]at iP;have hj:=aK4 (Gm.trans aX);have Jv: pI t i:=fun gN xh=>by rw[aq]at xh;cases xh;exact hj
    have rZ:∀k∈n.kids,0<=k/\k.toNat<t.length:=fun k hk=>by
     have:=Jv.hJ aq k hk;omega
    rw[aX]at Gm;have iD:aS J a 102 [v,.agg [.ad n.op,.str n.sort,.str n.name,S i,W i]] (.bool (s9 t n)):=ayR (J:=J) aU au R R.vars.cell rZ;have ep:aS J a 103 [.agg [.ad n.op,.str n.sort,.str n.name,S i,W i]] (.ad (rn n)):=ayS (J:=J) (S i) (W i) iS.1;have Ad:aS J a 104 [.agg [.ad n.op,.str n.sort,.str n.name,S i,W i]] (.ad (mA n)):=ayU (J:=J) R (fun x ab=>(xo x ab).1);have jz:aS J a 105 [.agg [.ad n.op,.str n.sort,.str n.name,S i,W i]] (.ad (zT n)):=ayT (J:=J) (S i) (W i) iS.1;obtain⟨bd,tJ⟩:∃bd,bd=cm [cd (!s9 t n) 11,rn n,mA n,zT n]:=⟨_,rfl⟩;rw[<-tJ]at iP;simp only[go_sem,seval,bq,bZ,bu,dQ,g2,g1,cZ,xR,(af _ _).bL,cs.bL,co.bL,iD.bL,ep.bL,Ad.bL,jz.bL,bQ,Rv,Ik,Qx,aI9,Gm,<-tJ];by_cases E4:bd=0
    ·rw[iP,bl E4]at lC;simp only[go_sem,seval,E4,bu,cG (show i<9223372036854775807 by omega)];refine⟨_,_,rfl,an,lC,?_,?_,?_,?_⟩
     ·intro j a5;rcases dz j i with q|q
      ·exact iE j q
      ·have:j=i:=by omega
       subst this;exact Jv
     all_goals simp only[go_sem,seval,bq,bZ]
    ·have JJ:=TI bd E4 iP;rw[JJ];simp only[go_sem,seval,E4]
   ·rw[bf aX]at iP;have atU:=TI aN aX iP;rw[atU];simp only[go_sem,seval,bq,bZ,bu,dQ,g2,g1,cZ,xR,(af _ _).bL,cs.bL,co.bL,bQ,Rv,Ik,Qx,Gm,aX]
 ·rintro s ⟨I,h1,rfl,aB,lC,iE,bq,bZ,bu⟩;have bW:=aB.bx;have lF:aj h h1:=ey.aG aB;have dx:aj a h1:=iW.aG aB;have ay:¬((t.length:Int)<(t.length:Int)):=by omega
  rw[fp]at lC;have lC:np t (dN t []) 0 t=0:=lC;have nO:t.length-1<t.length:=by omega
  obtain⟨n,aq⟩:=bI nO;have hw:b8 .i64 ((t.length:Int) -1)=((t.length-1:Nat):Int):=pM (by omega) (by omega)
  have uF:=ayW (J:=J) aU au (fun i m e k hk=>by
   have hit:i<t.length:=by
    rcases dz i t.length with q|q
    ·exact q
    ·rw[ei q]at e;cases e
   have:=(iE i hit).hJ e k hk;omega)
  obtain⟨y,ax⟩:=bI (l:=dN t []) (i:=t.length-1) (by omega);have atV:lN t (t.length-1)=y:=by unfold lN;rw[ax];rfl
  have cw:q8 t ((t.length-1:Nat):Int)=n.op:=by unfold q8;rw[show((t.length-1:Nat):Int).toNat=t.length-1 by omega,aq];rfl
  have JJ:E=cm [cd (decide (y≠0)) 9,cd (decide (n.op=19)) 11,cd (decide (60<((Form.hW t [])[t.length-1]?).getD 0)) 24]:=by
   rw[bX,eA,bf (by rw[lC];simp),atV,cw]
  have d1:(!decide ((y:Int)=0))=decide (y≠0):=by
   by_cases q:y=0
   ·simp[q]
   ·have:¬((y:Int)=0):=by omega
    simp[q,this]
  have cB:=vF.addr (i:=t.length-1) (by rw[dy];omega);have atW:=vF.aO c3.ok aB;have fL:=atW.bM (jr ax);have bJ:=aU.ag.addr (aU.lt nO);obtain⟨Z5,atX⟩:∃β,β=decide (y≠0):=⟨_,rfl⟩;rw[<-atX]at d1 JJ;simp only[go_sem,seval,bq,bZ,bu,aU.ag.a2,gj,ay,hw,cB,fL,bJ,aU.ag.er (aU.lt nO),aU.ag.hn (aU.at aq),(af _ _).bL,d1];refine uF.oR fun w az b4 fo rd=>?_;rw[EA];refine⟨rfl,?_⟩;obtain⟨Ag,ld⟩:=rd;obtain⟨z,aX⟩:=bI (l:=Form.hW t []) (i:=t.length-1) (by omega);rw[aX,hC]at JJ;have d2:decide ((60:Int)<(z:Int))=decide (60<z):=by apply decide_eq_decide.2;omega
  have l3:aj h az:=aj.aG (b:=_) an b4;have c1:=Ag.addr (i:=t.length-1) (by rw[dy];omega);rw[JJ];simp only[go_sem,seval,c1,Ag.bM (jr aX),d2,(af _ _).bL,(af _ _).cl,Qx,aI8]
 all_goals simp only[go_sem,seval]
end
end Go.ao
