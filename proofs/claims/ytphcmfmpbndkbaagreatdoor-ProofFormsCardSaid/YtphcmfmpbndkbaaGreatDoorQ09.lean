/- A part of the proof that ProofForms holds for every input. -/
import Derived.Test.YtphcmfmpbndkbaaGreatDoorQ08
set_option maxRecDepth 100000
set_option maxHeartbeats 4000000
set_option linter.all false
noncomputable section
namespace Go.ao
abbrev jS:=@decide_eq_false
abbrev ov:=@decide_eq_decide
section
open Form d3
variable {J:Prog}[ak J]{a:H}
def a9:Nat:=1000000000
theorem jF:a9=1000000000:=rfl
abbrev ra:=dY .u32
structure fI(h:H)(v:V)(l:List Nat):Prop where
 ag:bB h v 1 (ra l)
 cap:om v
 lim:fA a9 l
theorem fI.aO{h aa:H}{v:V}{l:List Nat}(m:fI h v l)[k:aK h][g:aj h aa]:fI aa v l:=⟨m.ag.aO k.ok g,m.cap,m.lim⟩
def gZ(n:Nat)(w:V)(h:H):Prop:=∃v l,w=.agg [v]/\fI h v l/\d3.Can a9 l/\val a9 l=n
theorem gZ.aO{h aa:H}{n:Nat}{w:V}(m:gZ n w h)[aK h][aj h aa]:gZ n w aa:=let⟨v,l,e,q,c,x⟩:=m;⟨v,l,e,q.aO,c,x⟩
def o6(b n:Nat)(w:V)(h:H):Prop:=∃v l,w=.agg [v]/\fI h v l/\d3.Can a9 l/\val a9 l=n/\l1 b v
theorem o6.ZV{h:H}{b n:Nat}{w:V}(m:o6 b n w h):gZ n w h:=let⟨v,l,e,q,c,x,_⟩:=m;⟨v,l,e,q,c,x⟩
theorem o6.mono{h:H}{b b3 n:Nat}{w:V}(m:o6 b n w h)(ah:b3<=b):o6 b3 n w h:=let⟨v,l,e,q,c,x,r⟩:=m;⟨v,l,e,q,c,x,r.mono ah⟩
theorem fI.iA{h:H}{v:V}{l:List Nat}(m:fI h v l){b:Nat}(r:l1 b v){g:P}(aC:aH g<b)(o:O):fI (h.set g o) v l:=⟨m.ag.iA r aC o,m.cap,m.lim⟩
theorem o6.iA{h:H}{b n:Nat}{w:V}(m:o6 b n w h){g:P}(aC:aH g<b)(o:O):o6 b n w (h.set g o):=let⟨v,l,e,q,c,x,r⟩:=m;⟨v,l,e,q.iA r aC o,c,x,r⟩
theorem vl{l:List Nat}(c:d3.Can a9 l){k:Nat}(h:val a9 l<a9^k):l.length<=k:=by
 rcases nS l.length with e|e
 ·omega
 ·have h1:=c.ge (by rintro rfl;simp at e);have:a9^(l.length-1)<a9^k:=by omega
  have:=(Nat.pow_lt_pow_iff_right (show 1<a9 by decide)).1 this;omega
theorem fI.cell{h:H}{v:V}{l:List Nat}(m:fI h v l):v.cells=[v]:=m.ag.cell
theorem qA(f:P)(k off:Nat):hM 0 1 (.ptr f k off 1)=some (.ptr f k off 1):=rfl
theorem ql(ty:Nat)(v:V):wj ty 1 (.agg [v])=some (.af [v] ty,fun f=>.ptr f 0 0 1):=rfl
theorem ld1(v:V)(ty:TypeId)(b:Bool):ec (some (.af [v] ty)) b 1 0 0 1=some (if b=true then .agg [v]else v):=by cases b<;>rfl
theorem st1(v x:V)(ty:TypeId)(h:H)(f:P):fz (some (.af [x] ty)) h f 1 0 0 1 (.agg [v])=some (.bk [],h.set f (.af [v] ty)):=rfl
theorem OJ{n:Nat}{w:V}[bP:aK a](m:gZ n w a):aS J a 220 [w] (.bool (decide (n=0))):=by
 obtain⟨v,l,rfl,dd,c,rfl⟩:=m;refine aS.bE ak.agK rfl fun h _ _=>?_;have e:decide ((l.length:Int)=0)=decide (val a9 l=0):=by
  cases l with
  |nil=>simp[val]
  |cons x l=>
   have:¬val a9 (x::l)=0:=fun e=>by have:=c.zero e;cases this
   have ae:¬(((x::l).length:Nat):Int)=0:=by simp;omega
   rw[jS this,jS ae]
 simp only[agJ,go_sem,seval,ql,ld1,dd.ag.a2,dy,e]
theorem aGD{l:List Nat}(c:d3.Can a9 l):(val a9 l=1)↔l=[1]:=by
 constructor
 ·intro e;have c1:d3.Can a9 [1]:=⟨fun x ab=>by simp at ab;subst ab;decide,by simp⟩;exact c.ext c1 (by rw[e];rfl)
 ·rintro rfl;rfl
theorem awW{n:Nat}{w:V}[bP:aK a](m:gZ n w a):aS J a 222 [w] (.bool (decide (n=1))):=by
 have qH:=m;obtain⟨v,l,rfl,dd,c,rfl⟩:=m;refine aS.bE ak.agN rfl fun h _ _=>?_;have a3:decide (val a9 l=1)=decide (l=[1]):=decide_eq_decide.2 (aGD c);rw[a3];clear a3 c qH
 match l,dd with
 |[],dd=>simp only[Oj,go_sem,seval,ql,ld1,dd.ag.a2,dy]
 |[x],dd=>
  have I6:jP 1 v (.ad 0)=_:=dd.ag.addr (i:=0) (by simp[dY]);have Fm:=dd.ag.bM (i:=0) (jr (x:=x) rfl);have bA:(Int.ofNat 0)=0:=rfl;have bd:decide ((x:Int)=1)=decide ([x]=[1]):=by rw[ov];simp;omega
  simp only[Oj,go_sem,seval,ql,ld1,dd.ag.a2,dy,I6,Fm,bd]
 |x::y::l,dd=>
  have ae:¬(((l.length+1+1:Nat)):Int)=1:=by omega
  have az:¬(x::y::l=[1]):=by simp
  simp only[Oj,go_sem,seval,ql,ld1,dd.ag.a2,dy,ae,az]
def ZW(n:Nat)(b:Bool)(w:V)(h:H):Prop:=∃v,w=.agg [v,.bool b]/\gZ n (.agg [v]) h
theorem awX{n:Nat}{w:V}[bP:aK a](m:gZ n w a)(b:Bool):cJ J a 340 [w,.bool b] (ZW n (b&&!decide (n=0))):=by
 have qH:=m;obtain⟨v,l,rfl,dd,c,rfl⟩:=m;refine cJ.bE ak.ahR rfl fun h _ _=>?_;have mh:=OJ (J:=J) qH;have fb:∀(v:V) (b:Bool),jQ [.al,.bool false] [(0,1,.agg [v]),(1,1,.bool b)]=some (.agg [v,.bool b]):=fun _ _=>rfl;have pT:∀(h:H) (f:P) (v:V) (b:Bool) (x y:V),fz (some (.af [x,y] 293)) h f 2 0 0 2 (.agg [v,.bool b])=some (.bk [],h.set f (.af [v,.bool b] 293)):=fun _ _ _ _ _ _=>rfl;have cZ:∀(v:V) (b:Bool),ec (some (.af [v,.bool b] 293)) true 2 0 0 2=some (.agg [v,.bool b]):=fun _ _=>rfl;have EI:=fK dd.ag;cases b with
 |false=>
  simp only[VN,go_sem,seval,ql,ld1,fb,pT,cZ];exact⟨v,rfl,v,l,rfl,dd.aO,c,rfl⟩
 |true=>
  simp only[VN,go_sem,seval,ql,ld1,mh.cl,mh.bL,bQ,fb,pT,cZ,EI];exact⟨v,rfl,v,l,rfl,dd.aO,c,rfl⟩
theorem ajk(x y:Int):aS J a 515 [.ad x,.ad y] (.ad (if x<y then-1 else if y<x then 1 else 0)):=by
 refine aS.bE ak.aiP rfl fun h _ _=>?_;by_cases h1:x<y
 ·simp only[OA,go_sem,seval,h1]
 ·by_cases ae:y<x
  ·simp only[OA,go_sem,seval,h1,ae]
  ·simp only[OA,go_sem,seval,h1,ae]
theorem Kn{l:List Nat}{v:V}[bP:aK a](m:fI a v l)(i:Nat):aS J a 424 [.agg [v],.ad (i:Nat)] (.int .u64 (gI l i:Nat)):=by
 refine aS.bE ak.aix rfl fun h _ _=>?_;unfold gI;by_cases ai:i<l.length
 ·obtain⟨x,ab⟩:=bI ai;have uP:i<(ra l).length:=by rw[dy];exact ai
  have m3:((i:Int)<(l.length:Int)):=by omega
  have vX:=m.lim x (c0 ab);have hw:b8 .u64 (x:Int)=(x:Int):=wrap_u64 (by have:=jF;omega);simp only[VT,go_sem,seval,ql,ld1,m.ag.a2,dy,m3,m.ag.addr uP,m.ag.bM (jr ab),hw,ab,hC]
 ·have m3:¬((i:Int)<(l.length:Int)):=by omega
  simp only[VT,go_sem,seval,ql,ld1,m.ag.a2,dy,m3,ei (BA ai),Option.getD_none]
theorem awY{v:V}{l:List Int}[aK a](s:bB a v 1 (dH l))(au:l.length<1000000000):aS J a 216 [v] (.ad (cm l)):=by
 refine aS.bE ak.agG rfl fun h _ g=>?_;simp only[agF,go_sem,seval,s.a2,c7];refine dK l.length (fun i t=>∃I,t=⟨I,[],h⟩/\cm l=cm (l.drop i)/\I.gt 5=v/\I.gt 6=.ad (l.length:Nat)/\I.gt 7=.ad (i:Nat)) ?_ ?_ (dk _) ⟨_,rfl,rfl,?_,?_,?_⟩
 ·rintro i t ai ⟨I,rfl,e,eY,eI,gl⟩;obtain⟨x,ab⟩:=bI ai;have a3:=en ab;have ck:i<(dH l).length:=by rw[c7];exact ai
  by_cases av:x=0
  ·simp only[go_sem,seval,eY,eI,gl,ai,s.addr ck,s.bM (gn ab),av,cG (show i<9223372036854775807 by omega)];refine⟨_,rfl,?_,?_,?_,?_⟩
   ·rw[e,a3,av];rfl
   all_goals simp only[go_sem,seval,eY,eI,gl]
  ·simp[go_sem,seval,eY,eI,gl,ai,s.addr ck,s.bM (gn ab),av,e,a3,cm]
 ·rintro t ⟨I,rfl,e,eY,eI,gl⟩;simp only[go_sem,seval,eY,eI,gl,nW,e,fp,cm]
 all_goals simp only[go_sem,seval]
theorem Zn:∀l:List Nat,strip (l++[0])=strip l
 |[]=>rfl
 |x::l=>by
  show strip (x::(l++[0]))=_;unfold strip;rw[Zn l]
theorem Zo:∀(l:List Nat) (y:Nat),y≠0->strip (l++[y])=l++[y]
 |[],y,h=>by simp[strip,h]
 |x::l,y,h=>by
  show strip (x::(l++[y]))=_;unfold strip;rw[Zo l y h];cases l<;>rfl
def Bs(l:List Nat):Bool:=decide (l.getLast?=some 0)
theorem aKc{l:List Nat}{m x:Nat}(h:l[m]?=some x):l.take (m+1)=l.take m++[x]:=by rw[mU,h];rfl
theorem fI.to {h:H}{v:V}{l:List Nat}(q:fI h v l){i:Nat}(ai:i<=l.length):fI h (nd v i) (l.take i):=by
 refine⟨?_,am1 q.ag q.cap (by rw[dy];exact ai),q.lim.take i⟩;have:=q.ag.to (i:=i) (by rw[dy];exact ai);have e:(ra l).take i=ra (l.take i):=by unfold ra dY;rw[G2]
 rwa[e]at this
theorem awZ{b:P}{v:V}{l:List Nat}[bP:aK a](ah:a.get b=some (.af [.int .u32 0] 397))(m:fI a v l)(au:l.length<1000000000):gp J a (.fn (.func 418) [] [.ptr b 0 0 1]) [v] (.bool (Bs l)):=by
 refine gp.bE ak.aiq rfl fun h ca g=>?_;have dr:=g.at ah;have cL:=aP dr;rcases List.eq_nil_or_concat l with rfl|⟨q,y,rfl⟩
 ·have av:¬((0:Int)<((0:Nat):Int)):=by omega
  simp only[VS,go_sem,seval,m.ag.a2,dy,av,Bs,List.getLast?_nil]
 ·rw[List.concat_eq_append]at m au⊢;rw[fi]at au;have ax:(q++[y])[q.length]?=some y:=by simp
  have ay:q.length<(ra (q++[y])).length:=by rw[dy];simp
  have av:(0:Int)<((q.length+1:Nat):Int):=by omega
  have hw:b8 .i64 (((q.length+1:Nat):Int) -1)=(q.length:Int):=by rw[gz (by omega) (by omega)];omega
  have aX:decide ((y:Int)=0)=Bs (q++[y]):=by
   unfold Bs;rw[ov];simp
  simp only[VS,go_sem,seval,m.ag.a2,dy,fi,av,hw,m.ag.addr ay,m.ag.bM (jr ax),dr,aX]
theorem aw0{v:V}{l:List Nat}[bP:aK a](m:fI a v l):aS J a 419 [v] (Br v):=by
 refine aS.bE ak.ais rfl fun h ca g=>?_;have ce:=m.ag.aGA m.cap;rw[dy]at ce;simp only[air,go_sem,seval,m.ag.a2,dy,ce]
def kb(v:V)(l:List Nat):V:=Br (nd v (strip l).length)
theorem anV(l:List Nat):strip l=l.take (strip l).length:=by
 obtain⟨n,e⟩:=L4 l;have:=lP (List.take (strip l).length) e;rw[List.take_append_of_le_length (a1 _),g5]at this;exact this.symm
theorem fI.kb{h:H}{v:V}{l:List Nat}(q:fI h v l):fI h (kb v l) (strip l):=by
 have:=q.to (Y0 l);rw[<-anV]at this;exact⟨this.ag.clip,aIL _,this.lim⟩
theorem Be{v:V}{l:List Nat}[bP:aK a](q:fI a v l)(au:l.length<1000000000):aS J a 341 [v] (kb v l):=by
 refine aS.bE ak.ahT rfl fun h ca g=>?_;simp only[ahS,go_sem,seval];have bA:(Int.ofNat 0)=0:=rfl;refine lU (fun m t=>∃I h1,t=⟨I,[],h1⟩/\aj (h.new (.af [.int .u32 0] 397)) h1/\m<=l.length/\strip l=strip (l.take m)/\I.gt 0=nd v m/\I.gt 4=.fn (.func 418) [] [.ptr h.next 0 0 1]) ?_ (m:=l.length) ⟨_,_,rfl,an,a1 _,by rw[g5],?_,?_⟩
 ·rintro m t ⟨I,h1,rfl,aB,hm,aA,bq,bZ⟩;have bW:=aB.bx;have e0:aj h (h.new (.af [.int .u32 0] 397)):=an;have lF:aj h h1:=e0.aG aB;have dx:aj a h1:=g.aG lF;have z2:fI h1 (nd v m) (l.take m):=(q.aO (aa:=h1)).to hm;have dr:h1.get h.next=some (.af [.int .u32 0] 397):=aB.at ef
  have c1:=awZ (J:=J) dr z2 (by rw[el];omega);cases aX:Bs (l.take m)with
  |false=>
   rw[aX]at c1;have c2:=aw0 (J:=J) z2;simp only[go_sem,seval,bq,bZ,c1.cl,c2.cl];have e:strip l=l.take m:=by
    rw[aA];rcases List.eq_nil_or_concat (l.take m)with e|⟨pQ,y,e⟩
    ·rw[e];rfl
    ·rw[e,List.concat_eq_append];refine Zo pQ y ?_;rintro rfl;rw[e]at aX;simp[Bs]at aX
   have hlen:(strip l).length=m:=by rw[e,el];omega
   rw[<-hlen];rfl
  |true=>
   rw[aX]at c1;cases m with
   |zero=>simp[Bs]at aX
   |succ m=>
    obtain⟨x,ab⟩:=bI (l:=l) (i:=m) (by omega);have bp:=aKc ab;have jl:x=0:=by rw[bp]at aX;simpa[Bs]using aX
    have hw:b8 .i64 (((m+1:Nat):Int) -1)=(m:Int):=by rw[gz (by omega) (by omega)];omega
    have hlen:(l.take (m+1)).length=m+1:=by rw[el];omega
    have ce:=z2.ag.wG z2.cap (i:=m) (by rw[dy,hlen];omega);simp only[go_sem,seval,bq,bZ,c1.cl,z2.ag.a2,dy,hlen,hw,ce];refine⟨m,by omega,_,_,rfl,an,by omega,?_,?_,?_⟩
    ·rw[aA,bp,jl,Zn]
    ·simp only[go_sem,seval,aKa]
    ·simp only[go_sem,seval,bZ]
 ·have:=aIM q.ag;rw[dy]at this;simp only[go_sem,seval,this]
 ·simp only[go_sem,seval]
theorem gZ.strip{h:H}{w:V}{l:List Nat}{n:Nat}(m:fI h w (strip l))(au:fA a9 l)(e:val a9 l=n):gZ n (.agg [w]) h:=⟨w,_,rfl,m,yj au,by rw[yi];exact e⟩
theorem Hs{b:Nat}{v:V}(r:l1 b v)(l:List Nat):l1 b (kb v l):=aGB (ame r _)
theorem o6.strip{h:H}{b:Nat}{w:V}{l:List Nat}{n:Nat}(m:fI h w (strip l))(au:fA a9 l)(e:val a9 l=n)(r:l1 b w):o6 b n (.agg [w]) h:=⟨w,_,rfl,m,yj au,by rw[yi];exact e,r⟩
end
abbrev G7:=@List.set_append_right
abbrev te:=@List.length_replicate
section
open Form d3
variable {J:Prog}[ak J]{a:H}
theorem QF(m:List Nat){n:Nat}(h:m.length<=n):m.take n=m:=kM h
theorem GU{B:Nat}:fA B []:=fun _ h=>by cases h
theorem am2{B:Nat}{D:List Nat}(h:fA B D){d:Nat}(a3:d<B):fA B (D++[d]):=fun x ab=>by
 rcases List.mem_append.1 ab with q|q
 ·exact h x q
 ·simp at q;subst q;exact a3
theorem Lu{α:Type}{D Z:List α}{m x:α}{i:Nat}(h:D.length=i):(D++m::Z).set i x=D++x::Z:=by rw[G7 _ _ (by omega)];simp[h]
theorem aIQ(D:List Nat)(d:Nat):val a9 (D++[d])=val a9 D+a9^D.length*d:=by rw[zX];simp[val]
theorem V4{n m:Nat}{v w:V}[bP:aK a](tu:gZ n v a)(cU:gZ m w a){K:Nat}(j0:K<=100000)(aq:n<a9^K)(hle:m<=n):cJ J a 425 [v,w] (o6 (aH a.next) (n-m)):=by
 obtain⟨v,l,rfl,dd,c1,rfl⟩:=tu;obtain⟨w,cr,rfl,d6,c2,rfl⟩:=cU;have iO:=vl c1 aq;have vU:cr.length<=l.length:=by
  rcases dz l.length cr.length with q|q
  ·have:=c1.Lg (by decide) c2 q;omega
  ·exact q
 refine cJ.bE ak.aiz rfl fun h ca g=>?_;have h8:=wY 397 1 4 [.int .u32 (.ofNat 0)] l.length (by omega) (by omega);rw[BX]at h8;have rM:(Int.ofNat 0)=0:=rfl;simp only[rM]at h8;obtain⟨cx,fe⟩:∃cx:H,cx=((h.new (.af [v] 291)).new (.af [w] 291)).new (.af [.al] 291):=⟨_,rfl⟩
 have fo:aK cx:=by rw[fe];exact an
 have b4:aj h cx:=by rw[fe];exact an
 have aq4:=dd.aO (aa:=cx.new (.af (d8 .u32 (List.replicate l.length 0)) 397)) (g:=g.aG (b4.aG an));obtain⟨cb,eY,ha,mV⟩:=aGz (k:=.u32) (l:=List.replicate l.length 0) (m:=l) (h:=cx.new (.af (d8 .u32 (List.replicate l.length 0)) 397)) (f:=cx.next) (ty:=397) (c:=some l.length) ef aq4.ag (by rw[te]);rw[te]at eY;have lX:=mV.bx;have Rc:=mV.dW;have eE:aj h (cx.new (.af (d8 .u32 (List.replicate l.length 0)) 397)):=b4.aG an;have Cc:eC cx.next h:=⟨b4.g.next⟩
 have eg:aj h cb:=mV.t4 h;obtain⟨bC,fW⟩:∃bC:P,bC=(h.new (.af [v] 291)).next:=⟨_,rfl⟩
 obtain⟨b0,fB⟩:∃b0:P,b0=((h.new (.af [v] 291)).new (.af [w] 291)).next:=⟨_,rfl⟩
 have Sw:fQ bC cx:=by rw[fW,fe];exact an
 have Sx:fQ b0 cx:=by rw[fB,fe];exact an
 have abZ:eC b0 h:=by rw[fB];exact an
 have ab0:dp bC b0:=by rw[fW,fB];exact an
 have cc:cb.get bC=some (.af [w] 291):=by rw[mV.gt];rw[j9];rw[fe,fW];simp only[go_sem,seval]
 have dc:cb.get b0=some (.af [.al] 291):=by rw[mV.gt];rw[j9];rw[fe,fB];simp only[go_sem,seval]
 simp only[aiy,go_sem,seval,ql,ld1,qA,dd.ag.a2,d6.ag.a2,dy,h8];simp only[<-fB,<-fW];simp only[<-fe,eY];have st:=fun(O:List Nat) (h:H) (i:Nat) (ai:i<O.length) (x:Nat)=>BE (k:=.u32) O 397 h cx.next i ai x
 have e1:=fun i ai=>rp cx.next 0 0 l.length 1 (some l.length) i ai
 simp only[eH,kz]at st e1;simp only[go_sem,seval];refine dK l.length (fun i t=>∃I h1 D c,t=⟨I,[],h1⟩/\aj h h1/\h1.get bC=some (.af [w] 291)/\h1.get b0=some (.af [.al] 291)/\h1.get cx.next=some (.af (d8 .u32 (D++l.drop i)) 397)/\
  D.length=i/\fA a9 D/\c<=1/\val a9 (l.take i)+a9^i*c=val a9 D+val a9 (cr.take i)/\
  I.gt 3=.ptr bC 0 0 1/\I.gt 4=.ptr b0 0 0 1/\I.gt 5=.ag cx.next 0 0 l.length 1 (some l.length)/\I.gt 6=.ad (c:Nat)/\I.gt 18=.ad (l.length:Nat)/\I.gt 19=.ad (i:Nat)) ?_ ?_ (dk _) ⟨_,cb,[],0,rfl,eg,cc,dc,ha,rfl,GU,by omega,by simp[val],?_,?_,?_,?_,?_,?_⟩
 ·rintro i t ai ⟨I,h1,D,c,rfl,aB,c5,fw,e4,gC,Cd,U,ar,aR,bZ,bu,cj,ph,mo⟩;have bW:=aB.bx;have gx:=aP c5;have hT:=aP fw;have p5:=aP e4;have aNc:dp bC cx.next:=an
  have MX:dp b0 cx.next:=an
  obtain⟨x,ab⟩:=bI ai;have Sy:=en ab;have vX:=dd.lim x (c0 ab);have xw:=BN (B:=a9) (by decide) d6.lim i;have aq5:(D++l.drop i)[i]?=some x:=by rw[Sy];rw[oo (by omega)];simp[gC]
  have ld:=vg (KU (k:=.u32) aq5) 397 .rw;simp only[eH,kz]at ld;have cl:=Kn (J:=J) (d6.aO (aa:=h1) (g:=g.aG aB)) i;generalize MY:gI cr i=y at xw cl;have yt:=fK d6.ag;have hlen:(D++l.drop i).length=l.length:=by rw[fi,gC,jG];omega
  have uA:b8 .i64 (x:Int)=(x:Int):=wrap_i64 (by have:=jF;omega);have EJ:b8 .i64 (y:Int)=(y:Int):=wrap_i64 (by have:=jF;omega);have ay:((i:Int)<(l.length:Int)):=by omega
  have b5:b8 .i64 ((x:Int) -(y:Int))=(x:Int) -(y:Int):=by have:=jF;exact gz (by omega) (by omega)
  have d7:b8 .i64 ((x:Int) -(y:Int) -(c:Int))=(x:Int) -(y:Int) -(c:Int):=by have:=jF;exact gz (by omega) (by omega)
  have key:∀(d fT:Nat),d<a9->fT<=1->x+a9*fT=d+gI cr i+c->val a9 (l.take (i+1))+a9^(i+1)*fT=val a9 (D++[d])+val a9 (cr.take (i+1)):=fun d fT _ _ e=>by
   rw[aIQ,QT a9 ab,HC,gC,pK];have bd:a9^i*x+a9^i*a9*fT=a9^i*(d+gI cr i+c):=by rw[<-e,mT,oq]
   rw[mT,mT]at bd;omega
  by_cases xR:(x:Int) -(y:Int) -(c:Int)<0
  ·obtain⟨d,a3⟩:∃d:Nat,x+a9=d+y+c:=⟨x+a9-y-c,by have:=jF;omega⟩;have yW:d<a9:=by have:=jF;omega
   have E1:x+a9*1=d+gI cr i+c:=by rw[MY,kz];exact a3
   have jW:b8 .i64 ((x:Int) -(y:Int) -(c:Int)+1000000000)=((d:Nat):Int):=by
    have:=jF;rw[gz (by omega) (by omega)];omega
   have iq:b8 .u32 ((d:Nat):Int)=((d:Nat):Int):=wrap_u32 (by have:=jF;omega)
   simp only[go_sem,seval,aR,bZ,bu,cj,ph,mo,ay,e1 i ai,e4,ld,c5,ld1,cl.bL,bQ,rW,q9,uA,EJ,b5,d7,xR,jW,iq,st (D++l.drop i) _ i (by rw[hlen];exact ai)];refine⟨_,_,D++[d],1,rfl,an,by simp only[go_sem,seval,c5],by simp only[go_sem,seval,fw],?_,by simp[gC],am2 Cd yW,a1 _,key _ 1 yW (a1 _) E1,by simp only[go_sem,seval,aR],by simp only[go_sem,seval,bZ],by simp only[go_sem,seval,bu],by simp only[go_sem,seval],by simp only[go_sem,seval,ph],by simp only[go_sem,seval,mo,cG (show i<9223372036854775807 by omega)]⟩;rw[jt,Sy,Lu gC,nk];rfl
  ·obtain⟨d,a3⟩:∃d:Nat,x=d+y+c:=⟨x-y-c,by omega⟩;have yW:d<a9:=by omega
   have E1:x+a9*0=d+gI cr i+c:=by rw[MY,Nat.mul_zero];exact a3
   have iq:b8 .u32 ((x:Int) -(y:Int) -(c:Int))=((d:Nat):Int):=by
    rw[show(x:Int) -(y:Int) -(c:Int)=((d:Nat):Int) by omega]
    exact wrap_u32 (by have:=jF;omega)
   simp only[go_sem,seval,aR,bZ,bu,cj,ph,mo,ay,e1 i ai,e4,ld,c5,ld1,cl.bL,bQ,rW,q9,uA,EJ,b5,d7,xR,iq,st (D++l.drop i) _ i (by rw[hlen];exact ai)];refine⟨_,_,D++[d],0,rfl,an,by simp only[go_sem,seval,c5],by simp only[go_sem,seval,fw],?_,by simp[gC],am2 Cd yW,dk _,key _ 0 yW (dk _) E1,by simp only[go_sem,seval,aR],by simp only[go_sem,seval,bZ],by simp only[go_sem,seval,bu],by simp only[go_sem,seval],by simp only[go_sem,seval,ph],by simp only[go_sem,seval,mo,cG (show i<9223372036854775807 by omega)]⟩;rw[jt,Sy,Lu gC,nk];rfl
 ·rintro t ⟨I,h1,D,c,rfl,aB,c5,fw,e4,gC,Cd,U,ar,aR,bZ,bu,cj,ph,mo⟩;have bW:=aB.bx;have hT:=aP fw;have ay:¬((l.length:Int)<(l.length:Int)):=by omega
  rw[g5,QF cr vU]at ar;rw[fp,qy]at e4;have ah:=sa Cd;rw[gC]at ah;have sF:c=0:=by
   rcases dz c 1 with q|q
   ·omega
   ·have:c=1:=by omega
    subst this;omega
  subst sF;have ag:=nY e4 (some l.length);rw[gC]at ag;have cs:=Be (J:=J) (a:=h1) (v:=.ag cx.next 0 0 l.length 1 (some l.length)) (l:=D) ⟨ag,a1 _,Cd⟩ (by omega);have fb:∀w',jQ [.al] [(0,1,kb (.ag cx.next 0 0 l.length 1 (some l.length)) w')]=some (.agg [kb (.ag cx.next 0 0 l.length 1 (some l.length)) w']):=fun _=>rfl;simp only[go_sem,seval,bZ,bu,ph,mo,ay,cs.cl,fb,bQ,fw,st1,ld1];have p5:=aP e4;have MX:dp cx.next b0:=an
  have I7:((cg cs h1 an).set b0 (.af [kb (.ag cx.next 0 0 l.length 1 (some l.length)) D] 291)).get cx.next=some (.af (d8 .u32 D) 397):=by rw[GN,bQ];exact e4
  have AF:=nY I7 (some l.length);rw[gC]at AF;exact o6.strip (fI.kb ⟨AF,a1 _,Cd⟩) Cd (by omega) (Hs (v:=.ag cx.next 0 0 l.length 1 (some l.length)) (iK g.g.next b4.g.next) _)
 all_goals simp only[go_sem,seval]
end
abbrev se:=@Int.natCast_add
abbrev vm:=@List.length_set
abbrev Lv:=@List.mem_replicate
section
open Form d3
variable {J:Prog}[ak J]{a:H}
theorem aw1[bP:aK a]{w:V}{m:List Nat}(d6:fI a w m){aJ:H}[ca:aK aJ][eZ:aj a aJ]{bC b0 f:P}{O:List Nat}{N i x:Nat}{I:Fr}{k:c4}
  (vt:i+m.length+1<=N) (aq6:N<1000000000) (hO:O.length=N) (m0:fA a9 O) (ab:x<a9) (ar:val a9 O+x*a9^i*val a9 m<a9^(i+(m.length+1)))
  (_:dp bC f) (_:dp b0 f) (_:eC f a)
  (bO:aJ.get bC=some (.af [w] 291)) (fY:aJ.get b0=some (.af [.al] 291)) (ha:aJ.get f=some (.af (d8 .u32 O) 397))
  (aR:I.gt 3=.ptr bC 0 0 1) (bu:I.gt 5=.ag f 0 0 N 1 (some N)) (cj:I.gt 6=.ad (i:Nat)) (cH:I.gt 7=.int .u32 (x:Nat)) (cQ:I.gt 8=.int .u64 0) (m6:I.gt 31=.ad (m.length+1:Nat)) (f32:I.gt 32=.ad 0)
  (eu:∀aQ aa tv,aj a aa->aa.get bC=some (.af [w] 291) ->aa.get b0=some (.af [.al] 291) ->aa.get f=some (.af (d8 .u32 tv) 397) ->tv.length=N->fA a9 tv->val a9 tv=val a9 O+x*a9^i*val a9 m->
   aQ.gt 3=.ptr bC 0 0 1->aQ.gt 4=I.gt 4->aQ.gt 5=.ag f 0 0 N 1 (some N) ->aQ.gt 21=I.gt 21->aQ.gt 22=I.gt 22->aQ.gt 23=I.gt 23->k.run J (.exit 2 ⟨aQ,[],aa⟩)):dA J alI ⟨I,[],aJ⟩ k:=by
 have st:=fun(O:List Nat) (h:H) (i:Nat) (ai:i<O.length) (x:Nat)=>BE (k:=.u32) O 397 h f i ai x;have e1:=fun i ai=>rp f 0 0 N 1 (some N) i ai;simp only[eH,kz]at st e1;generalize tO:I.gt 4=v4 at eu;generalize zl:I.gt 21=aq7 at eu;generalize zm:I.gt 22=MZ at eu;generalize zn:I.gt 23=Sz at eu;unfold alI;refine dK (m.length+1) (fun j t=>∃I h1 mF c,t=⟨I,[],h1⟩/\aj a h1/\h1.get bC=some (.af [w] 291)/\h1.get b0=some (.af [.al] 291)/\h1.get f=some (.af (d8 .u32 mF) 397)/\
  mF.length=N/\fA a9 mF/\c<a9/\val a9 mF+a9^(i+j)*c=val a9 O+x*a9^i*val a9 (m.take j)/\
  I.gt 3=.ptr bC 0 0 1/\I.gt 5=.ag f 0 0 N 1 (some N)/\I.gt 6=.ad (i:Nat)/\I.gt 7=.int .u32 (x:Nat)/\I.gt 8=.int .u64 (c:Nat)/\I.gt 31=.ad (m.length+1:Nat)/\I.gt 32=.ad (j:Nat)/\
  I.gt 4=v4/\I.gt 21=aq7/\I.gt 22=MZ/\I.gt 23=Sz) ?_ ?_ (dk _) ⟨I,aJ,O,0,rfl,eZ,bO,fY,ha,hO,m0,by decide,by simp[val],aR,bu,cj,cH,cQ,m6,f32,tO,zl,zm,zn⟩
 ·rintro j t a5 ⟨I,h1,mF,c,rfl,aB,c5,fw,e4,CP,yX,U,ar,aR,bu,cj,cH,cQ,m6,f32,tO,zl,zm,zn⟩;have bW:=aB.bx;have gx:=aP c5;have hT:=aP fw;have p5:=aP e4;obtain⟨v,CQ⟩:=bI (l:=mF) (i:=i+j) (by omega);have aq8:=yX v (c0 CQ);have cl:=Kn (J:=J) (d6.aO (aa:=h1)) j;have xw:=BN (B:=a9) (by decide) d6.lim j;have ms:=amY (B:=a9) (i:=i) (k:=j) (a:=x) (o:=gI m j) (c:=c) CQ;have bp:=HC a9 m j;generalize MY:gI m j=y at xw cl ms bp;have fJ:x*y<=999999999*999999999:=Nat.mul_le_mul (by have:=jF;omega) (by have:=jF;omega);generalize bh:x*y=p at fJ ms;have ld:=vg (KU (k:=.u32) CQ) 397 .rw;simp only[eH,kz]at ld;have yt:=fK d6.ag;have M0:b8 .i64 ((i:Int)+(j:Int))=((i+j:Nat):Int):=by rw[<-se];exact wrap_i64 (by omega)
  have apH:b8 .u64 (v:Int)=(v:Int):=wrap_u64 (by have:=jF;omega);have uA:b8 .u64 (x:Int)=(x:Int):=wrap_u64 (by have:=jF;omega);have wp:b8 .u64 ((x:Int)*(y:Int))=(p:Int):=by rw[<-bh,<-D9];exact wrap_u64 (by omega)
  have b5:b8 .u64 ((v:Int)+(p:Int))=((v+p:Nat):Int):=by rw[<-se];exact wrap_u64 (by have:=jF;omega)
  have d7:b8 .u64 (((v+p:Nat):Int)+(c:Int))=((v+p+c:Nat):Int):=by rw[<-se];exact wrap_u64 (by have:=jF;omega)
  have I8:v+p+c<a9*a9:=by rw[jF]at*;omega
  generalize aq:v+p+c=n at d7 ms I8;have yY:n%a9<a9:=qv _ (by decide);have yZ:n/a9<a9:=P9 I8;have gw:=Km .int .u64 n a9 (by decide);have jy:=DH .int .u64 n a9 (by decide);have vA:((a9:Nat):Int)=1000000000:=rfl
  rw[vA]at gw jy;generalize n%a9=r at gw yY ms;generalize n/a9=q at jy yZ ms;have w7:b8 .u64 (q:Int)=(q:Int):=wrap_u64 (by have:=jF;omega);have wr:b8 .u32 (r:Int)=(r:Int):=wrap_u32 (by have:=jF;omega);rw[w7]at jy;have ay:((j:Int)<((m.length+1:Nat):Int)):=by omega
  simp only[go_sem,seval,aR,bu,cj,cH,cQ,m6,f32,ay,e1 (i+j) (by omega),e4,ld,c5,ld1,cl.bL,bQ,q9,xV,M0,apH,uA,wp,b5,d7,gw,jy,wr,st mF _ (i+j) (by omega)];refine⟨_,_,mF.set (i+j) r,q,rfl,an,by simp only[go_sem,seval,c5],by simp only[go_sem,seval,fw],jt,by rw[vm];exact CP,yX.set yY,yZ,?_,by simp only[go_sem,seval,aR],by simp only[go_sem,seval,bu],by simp only[go_sem,seval,cj],by simp only[go_sem,seval,cH],by simp only[go_sem,seval],by simp only[go_sem,seval,m6],by simp only[go_sem,seval,f32,cG (show j<9223372036854775807 by omega)],by simp only[go_sem,seval,tO],by simp only[go_sem,seval,zl],by simp only[go_sem,seval,zm],by simp only[go_sem,seval,zn]⟩;rw[ms,ar,bp,mT,qs]
 ·rintro t ⟨I,h1,mF,c,rfl,aB,c5,fw,e4,CP,yX,U,kF,aR,bu,cj,cH,cQ,m6,f32,tO,zl,zm,zn⟩;have ay:¬(((m.length+1:Nat):Int)<((m.length+1:Nat):Int)):=by omega
  rw[QF m (by omega)]at kF;generalize a9^(i+(m.length+1))=T at ar kF;have sF:c=0:=by
   rcases nS c with q|q
   ·exact q
   ·have h1:=Nat.le_mul_of_pos_right T q;omega
  subst sF;simp only[go_sem,seval,m6,f32,ay];exact eu _ _ mF aB c5 fw e4 CP yX (by rw[Nat.mul_zero,ud]at kF;exact kF) (by simp only[go_sem,seval,aR]) (by simp only[go_sem,seval,tO]) (by simp only[go_sem,seval,bu]) (by simp only[go_sem,seval,zl]) (by simp only[go_sem,seval,zm]) (by simp only[go_sem,seval,zn])
theorem V5{n m:Nat}{v w:V}[bP:aK a](tu:gZ n v a)(cU:gZ m w a){K:Nat}(j0:K<=100000)(aq:n<a9^K)(hm:m<a9^K):cJ J a 422 [v,w] (o6 (aH a.next) (n*m)):=by
 obtain⟨v,l,rfl,dd,c1,rfl⟩:=tu;obtain⟨w,cr,rfl,d6,c2,rfl⟩:=cU;have iO:=vl c1 aq;have iP:=vl c2 hm;refine cJ.bE ak.aiv rfl fun h ca g=>?_;obtain⟨N,vt⟩:∃N,N=l.length+cr.length+1:=⟨_,rfl⟩;have h8:=wY 397 1 4 [.int .u32 (.ofNat 0)] N (by omega) (by omega);rw[BX]at h8;have rM:(Int.ofNat 0)=0:=rfl;simp only[rM]at h8;have SA:b8 .i64 ((l.length:Int)+(cr.length:Int))=((l.length+cr.length:Nat):Int):=by rw[<-se];exact wrap_i64 (by omega)
 have SB:b8 .i64 (((l.length+cr.length:Nat):Int)+1)=(N:Int):=by rw[cG (by omega),vt]
 have o1:b8 .i64 ((cr.length:Int)+1)=((cr.length+1:Nat):Int):=cG (by omega)
 obtain⟨cx,fe⟩:∃cx:H,cx=((h.new (.af [v] 291)).new (.af [w] 291)).new (.af [.al] 291):=⟨_,rfl⟩
 have fo:aK cx:=by rw[fe];exact an
 have b4:aj h cx:=by rw[fe];exact an
 obtain⟨bC,fW⟩:∃bC:P,bC=(h.new (.af [v] 291)).next:=⟨_,rfl⟩
 obtain⟨b0,fB⟩:∃b0:P,b0=((h.new (.af [v] 291)).new (.af [w] 291)).next:=⟨_,rfl⟩
 have Sw:fQ bC cx:=by rw[fW,fe];exact an
 have Sx:fQ b0 cx:=by rw[fB,fe];exact an
 have abZ:eC b0 h:=by rw[fB];exact an
 have ab0:dp bC b0:=by rw[fW,fB];exact an
 have cc:cx.get bC=some (.af [w] 291):=by rw[fe,fW];simp only[go_sem,seval]
 have dc:cx.get b0=some (.af [.al] 291):=by rw[fe,fB];simp only[go_sem,seval]
 have rv:eC cx.next h:=⟨b4.g.next⟩
 simp only[Ov,aDU,go_sem,seval,ql,ld1,qA,dd.ag.a2,d6.ag.a2,dy,SA,SB,h8];simp only[<-fB,<-fW];simp only[<-fe];refine dK l.length (fun i t=>∃I h1 O,t=⟨I,[],h1⟩/\aj h h1/\h1.get bC=some (.af [w] 291)/\h1.get b0=some (.af [.al] 291)/\h1.get cx.next=some (.af (d8 .u32 O) 397)/\
  O.length=N/\fA a9 O/\val a9 O=val a9 (l.take i)*val a9 cr/\
  I.gt 3=.ptr bC 0 0 1/\I.gt 4=.ptr b0 0 0 1/\I.gt 5=.ag cx.next 0 0 N 1 (some N)/\I.gt 21=v/\I.gt 22=.ad (l.length:Nat)/\I.gt 23=.ad (i:Nat)) ?_ ?_ (dk _) ⟨_,_,List.replicate N 0,rfl,b4.aG an,by simp only[go_sem,seval,cc],by simp only[go_sem,seval,dc],ef,te,fun x ab=>by rw[Lv]at ab;rw[ab.2];decide,by rw[LW];simp[val],by simp only[go_sem,seval],by simp only[go_sem,seval],by simp only[go_sem,seval],by simp only[go_sem,seval],by simp only[go_sem,seval],by simp only[go_sem,seval]⟩
 ·rintro i t ai ⟨I,h1,O,rfl,aB,c5,fw,e4,hO,m0,ar,aR,bZ,bu,CR,uQ,CS⟩;have bW:=aB.bx;have gx:=aP c5;have hT:=aP fw;have p5:=aP e4;have dx:aj a h1:=g.aG aB;obtain⟨x,ab⟩:=bI ai;have vX:=dd.lim x (c0 ab);have ck:i<(ra l).length:=by rw[dy];exact ai
  have ay:((i:Int)<(l.length:Int)):=by omega
  have key:val a9 O+x*a9^i*val a9 cr=val a9 (l.take (i+1))*val a9 cr:=by
   rw[ar,QT a9 ab,eP,js x]
  have hbound:val a9 O+x*a9^i*val a9 cr<a9^(i+(cr.length+1)):=by
   rw[key];have h1:=sa (dd.lim.take (i+1));rw[el,nl (by omega)]at h1;have ae:=sa d6.lim;have:=Nat.mul_lt_mul'' h1 ae;rw[<-Nat.pow_add]at this;rwa[show i+(cr.length+1)=i+1+cr.length by omega]
  simp only[go_sem,seval,aR,CR,uQ,CS,ay,dd.ag.addr ck,dd.ag.bM (jr ab),c5,qA,ld1,d6.ag.a2,dy,o1];refine aw1 (a:=h) (bC:=bC) (b0:=b0) (f:=cx.next) (O:=O) (N:=N) (i:=i) (x:=x) (d6.aO (aa:=h)) (by omega) (by omega) hO m0 vX hbound an an rv c5 fw e4 (by simp only[go_sem,seval,aR]) (by simp only[go_sem,seval,bu]) (by simp only[go_sem,seval]) (by simp only[go_sem,seval]) (by simp only[go_sem,seval]) (by simp only[go_sem,seval]) (by simp only[go_sem,seval]) ?_;intro aQ aa tv bR e3 j1 hp SC SD kF AG tO I9 zl zm zn;replace tO:=tO.trans (by simp only[go_sem,seval,bZ]:_=V.ptr b0 0 0 1);replace zl:=zl.trans (by simp only[go_sem,seval,CR]:_=v);replace zm:=zm.trans (by simp only[go_sem,seval,uQ]:_=V.ad (l.length:Nat));replace zn:=zn.trans (by simp only[go_sem,seval,CS]:_=V.ad (i:Nat));simp only[go_sem,seval,zn,cG (show i<9223372036854775807 by omega)];exact⟨_,_,tv,rfl,bR,e3,j1,hp,SC,SD,by rw[kF,key],by simp only[go_sem,seval,AG],by simp only[go_sem,seval,tO],by simp only[go_sem,seval,I9],by simp only[go_sem,seval,zl],by simp only[go_sem,seval,zm],by simp only[go_sem,seval]⟩
 ·rintro t ⟨I,h1,O,rfl,aB,c5,fw,e4,hO,m0,ar,aR,bZ,bu,CR,uQ,CS⟩;have bW:=aB.bx;have hT:=aP fw;have p5:=aP e4;have ay:¬((l.length:Int)<(l.length:Int)):=by omega
  rw[g5]at ar;have ag:=nY e4 (some N);rw[hO]at ag;have cs:=Be (J:=J) (a:=h1) (v:=.ag cx.next 0 0 N 1 (some N)) (l:=O) ⟨ag,a1 _,m0⟩ (by omega);have fb:∀w',jQ [.al] [(0,1,kb (.ag cx.next 0 0 N 1 (some N)) w')]=some (.agg [kb (.ag cx.next 0 0 N 1 (some N)) w']):=fun _=>rfl;simp only[go_sem,seval,bZ,bu,uQ,CS,ay,cs.cl,fb,bQ,fw,st1,ld1];have MX:dp cx.next b0:=an
  have I7:((cg cs h1 an).set b0 (.af [kb (.ag cx.next 0 0 N 1 (some N)) O] 291)).get cx.next=some (.af (d8 .u32 O) 397):=by rw[GN,bQ];exact e4
  have AF:=nY I7 (some N);rw[hO]at AF;exact o6.strip (fI.kb ⟨AF,a1 _,m0⟩) m0 ar (Hs (v:=.ag cx.next 0 0 N 1 (some N)) (iK g.g.next b4.g.next) _)
theorem Yk{a:H}[aK a]{b:P}{ty:TypeId}{v:V}{l:List Nat}(m:fI a v l)(au:l.length<1000000000):
  Iter J 516 [] [.ptr b 0 0 1] (fun h=>aj a h/\h.get b=some (.af [v] ty)) l.length (fun i=>[.ad ((l.length-1-i:Nat):Int),.int .u32 (((l[l.length-1-i]?).getD 0:Nat):Int)]):=by
 intro cr bn D h sq mD abW abX step av;refine PJ ak.aiR.1 rfl ?_;have dr:=(sq 0 h av).1.2;have s:=m.ag;simp only[aiQ,go_sem,seval,dr,s.a2,dy];refine dK l.length (fun i t=>∃I h1,t=⟨I,[],h1⟩/\bn i h1/\I.gt 0=.jk cr/\I.gt 1=.ptr b 0 0 1/\I.gt 3=.ad (((l.length-i:Nat):Int) -1)) ?_ ?_ (dk _) ⟨_,_,rfl,av,?_,?_,?_⟩
 ·rintro i t ai ⟨I,h1,rfl,oB,bA,aN,bO⟩;obtain⟨⟨Cb,dr⟩,bW⟩:=sq i h1 oB;have:aK h1:=⟨bW⟩;have em:(((l.length-i:Nat):Int) -1)=((l.length-1-i:Nat):Int):=by omega
  have hm:l.length-1-i<l.length:=by omega
  obtain⟨x,ab⟩:=bI hm;have lk:l.length-1-i<(ra l).length:=by rw[dy];exact hm
  have st:=step i h1 ai oB;simp only[ab,hC]at st;simp only[go_sem,seval,bA,aN,bO,em,dr,Int.natCast_nonneg,s.addr lk,s.bM (jr ab)];refine st _ _ _ _ _ ?_;rintro v aa (⟨rfl,I5⟩|⟨rfl,gC⟩)
  ·have oF:b8 .i64 (((l.length-1-i:Nat):Int) -1)=((l.length-(i+1):Nat):Int) -1:=by rw[gz (by omega) (by omega)];omega
   simp only[go_sem,seval,bA,aN,bO,em,oF];refine⟨_,_,rfl,I5,?_,?_,?_⟩
   all_goals simp only[go_sem,seval,bA,aN]
  ·simp only[go_sem,seval];exact .inr gC
 ·rintro t ⟨I,h1,rfl,oB,bA,aN,bO⟩;have:decide ((0:Int)<=((l.length-l.length:Nat):Int) -1)=false:=by simp
  simp only[go_sem,seval,bO,this];exact .inl oB
 ·simp only[go_sem,seval]
 ·simp only[go_sem,seval]
 ·simp only[go_sem,seval];rw[gz (by omega) (by omega)];simp
theorem DF(w:V)(hw:w.cells=[w])(h:H):oi J 423 [w] h (.fn (.func 516) [] [.ptr h.next 0 0 1]) (h.new (.af [w] 289)):=by
 refine(ya (ak.DF.2 _ _) ak.DF.1 rfl ?_).is;simp only[aiw,go_sem,seval,PS 289 w hw]
def qm(n m:Nat):Int:=if n<m then-1 else if m<n then 1 else 0
theorem aw2[bP:aK a]{v w:V}{l m:List Nat}(dd:fI a v l)(d6:fI a w m)(hlen:l.length=m.length)(au:l.length<1000000000){aJ:H}[ca:aK aJ][eZ:aj a aJ]{bC b0 fN:P}{I:Fr}{k:c4}
  (aR:I.gt 3=.ptr bC 0 0 1) (bZ:I.gt 4=.ptr b0 0 0 1) (CS:I.gt 23=.fn (.func 516) [] [.ptr fN 0 0 1])
  (_:dp bC b0) (_:dp fN b0) (_:eC b0 a)
  (bO:aJ.get bC=some (.af [w] 291)) (fY:aJ.get b0=some (.af [.ad 0] 3)) (lC:aJ.get fN=some (.af [v] 289))
  (tt:∀aa,aj a aa->aa.get b0=some (.af [.ad 0] 3) ->l=m->k.run J (.norm ⟨I,[],aa⟩))
  (ht:∀aa,aj a aa->aa.get b0=some (.af [.ad (qm (val a9 l) (val a9 m))] 3) ->k.run J (.ret ⟨I,[],aa⟩)):dA J alG ⟨I,[],aJ⟩ k:=by
 have gx:=aP bO;have hT:=aP fY;have on:=aP lC;unfold alG;refine Le (α:=Unit) (β:=Unit) (Yk (b:=fN) (ty:=289) dd au) (by simp only[go_sem,seval,CS]) a
  (fun _ _=>[(bC,.af [w] 291),(b0,.af [.ad 0] 3),(fN,.af [v] 289),(aJ.next,.loop .ready none I [(a0 24),(a0 25)] PM PO)])
  (fun i _=>l.drop (l.length-i)=m.drop (l.length-i))
  (fun _=>[(b0,.af [.ad (qm (val a9 l) (val a9 m))] 3),(aJ.next,.loop .done (some .ret) I [(a0 24),(a0 25)] PM PO)]) (fun _=>True) ?_ ?_ ?_ ?_ ?_
 ·intro m x aa bR _ G _;exact⟨bR,G.2.2.1⟩
 ·exact⟨an,(),⟨by simp only[j9,bO],by simp only[j9,fY],by simp only[j9,lC],ef,trivial⟩,by rw[x5,fp,hlen,fp]⟩
 ·intro i _ aa ai bR ch G tP d os aQ gG yV U a3;obtain⟨cc,dc,eh,ea,_⟩:=G;have c5:=aP cc;have fw:=aP dc;have Md:=aP eh;have pl:=aP ea;have a5:l.length-1-i<l.length:=by omega
  obtain⟨x,ab⟩:=bI a5;obtain⟨y,ax⟩:=bI (l:=m) (i:=l.length-1-i) (by omega);have Fo:l.length-1-i<(ra m).length:=by rw[dy];omega
  have vX:=dd.lim x (c0 ab);have xw:=d6.lim y (c0 ax);have p7:l.drop (l.length-1-i+1)=m.drop (l.length-1-i+1):=by rw[show l.length-1-i+1=l.length-i by omega];exact tP
  rw[ab];refine Ec (aa:=aa) ea rfl (by simp only[PM,go_sem,seval,jV];rfl) ea ?_;have uA:b8 .i64 (x:Int)=(x:Int):=wrap_i64 (by have:=jF;omega);have EJ:b8 .i64 (y:Int)=(y:Int):=wrap_i64 (by have:=jF;omega);by_cases fJ:x=y
  ·subst fJ;simp only[alF,PN,go_sem,seval,hC,aR,cc,qA,ld1,d6.ag.addr Fo,d6.ag.bM (jr ax),jV];refine x6 (by simp only[go_sem,seval];rfl) ?_;refine U _ an ⟨(),⟨by simp only[go_sem,seval,cc],by simp only[go_sem,seval,dc],by simp only[go_sem,seval,eh],by simp only[go_sem,seval],trivial⟩,?_⟩;rw[show l.length-(i+1)=l.length-1-i by omega,en ab,en ax,p7]
  ·have px:¬((x:Int)=(y:Int)):=by omega
   have fx:=ajk (J:=J) (a:=a) (x:Int) (y:Int);have nx:(if(x:Int)<(y:Int)then(-1:Int)else if(y:Int)<(x:Int)then 1 else 0)=qm (val a9 l) (val a9 m):=by
    unfold qm;rcases Nat.lt_or_gt_of_ne fJ with h1|h1
    ·have:=QD dd.lim ab ax p7 h1;rw[bl (by omega),bl this]
    ·have:=QD d6.lim ax ab p7.symm h1;rw[bf (by omega),bl (by omega),bf (by omega),bl this]
   have st:∀(h:H) (x:Int),fz (some (.af [.ad 0] 3)) h b0 1 0 0 1 (.ad x)=some (.bk [],h.set b0 (.af [.ad x] 3)):=fun _ _=>rfl;rw[nx]at fx;simp only[alF,PN,go_sem,seval,hC,aR,bZ,cc,dc,qA,ld1,d6.ag.addr Fo,d6.ag.bM (jr ax),px,uA,EJ,fx.cl,bQ,st,jV];refine ug (by simp only[go_sem,seval];rfl) ?_;exact a3 _ an ⟨(),⟨by simp only[go_sem,seval],by simp only[go_sem,seval],trivial⟩,trivial⟩
 ·intro x aa bR _ ⟨cc,dc,eh,ea,_⟩ a6;have pl:=aP ea;rw[EB ea];refine⟨by simp,tt _ an ?_ ?_⟩
  ·simp only[go_sem,seval,dc]
  ·simpa using a6
 ·intro _ aa bR _ ⟨dc,ea,_⟩ _;have pl:=aP ea;rw[YZ ea];refine⟨by simp,ht _ an ?_⟩;simp only[go_sem,seval,dc]
theorem ajl{n m:Nat}{v w:V}[bP:aK a](tu:gZ n v a)(cU:gZ m w a){K:Nat}(j0:K<=100000)(aq:n<a9^K)(hm:m<a9^K):aS J a 420 [v,w] (.ad (qm n m)):=by
 obtain⟨v,l,rfl,dd,c1,rfl⟩:=tu;obtain⟨w,cr,rfl,d6,c2,rfl⟩:=cU;have iO:=vl c1 aq;have iP:=vl c2 hm;refine aS.bE ak.ait rfl fun h ca g=>?_;have st:∀(h:H) (f:P) (x:Int),fz (some (.af [.ad 0] 3)) h f 1 0 0 1 (.ad x)=some (.bk [],h.set f (.af [.ad x] 3)):=fun _ _ _=>rfl;have ld:∀(x:Int),ec (some (.af [.ad x] 3)) false 1 0 0 1=some (.ad x):=fun _=>rfl;by_cases hlen:l.length=cr.length
 ·have zA:((l.length:Int)=(cr.length:Int)):=by omega
  simp only[Kj,go_sem,seval,ql,ld1,qA,dd.ag.a2,d6.ag.a2,dy,zA,(DF _ dd.cell _).cl];refine aw2 (a:=h) (dd.aO (aa:=h)) (d6.aO (aa:=h)) hlen (by omega) (by simp only[go_sem,seval];rfl) (by simp only[go_sem,seval];rfl) (by simp only[go_sem,seval];rfl) (by exact an) (by exact an) (by exact an) (by simp only[go_sem,seval]) (by simp only[go_sem,seval]) (by simp only[go_sem,seval]) ?_ ?_
  ·intro aa bR dc e;have ch:=bR.bx;have hT:=aP dc;subst e;have:qm (val a9 l) (val a9 l)=0:=by simp[qm]
   simp only[go_sem,seval,dc,st,ld,this]
  ·intro aa bR dc;have ch:=bR.bx;simp only[go_sem,seval,dc,ld]
 ·have zA:¬((l.length:Int)=(cr.length:Int)):=by omega
  have fx:=ajk (J:=J) (a:=h) (l.length:Int) (cr.length:Int);have nx:(if(l.length:Int)<(cr.length:Int)then(-1:Int)else if(cr.length:Int)<(l.length:Int)then 1 else 0)=qm (val a9 l) (val a9 cr):=by
   unfold qm;rcases Nat.lt_or_gt_of_ne hlen with h1|h1
   ·have:=c1.Lg (by decide) c2 h1;rw[bl (by omega),bl this]
   ·have:=c2.Lg (by decide) c1 h1;rw[bf (by omega),bl (by omega),bf (by omega),bl this]
  rw[nx]at fx;simp only[Kj,go_sem,seval,ql,ld1,qA,dd.ag.a2,d6.ag.a2,dy,zA,fx.cl,bQ,st,ld]
theorem Pn(ty:Nat)(n:Int)(x:V):g6 ty 1 1 [x] [(0,1,.int .u32 n)]=some (.af [.int .u32 n] ty,fun f=>.ag f 0 0 1 1 (some 1)):=rfl
theorem aEc{n q d r:Nat}(e:q*d+r=n)(h:r<d):q=n/d/\r=n%d:=by
 subst e;rw[D3,Nat.add_mul_div_right r q (by omega),Nat.add_mul_mod_self_right,Nat.div_eq_of_lt h,D8 h];exact⟨by omega,rfl⟩
def arc(d n:Nat)(bC fr f0 f fN dG:P)(v:V)(br:O)(x:List Nat×Nat)(j:Nat):List (P×O):=
 [(bC,.af [.int .u32 (d:Nat)] 397),(fr,.af [.ag f 0 0 n 1 (some n)] 289),(f0,.af [.int .u64 (x.2:Nat)] 419),(f,.af (d8 .u32 (List.replicate (n-j) 0++x.1)) 397),(fN,.af [v] 289),(dG,br)]
theorem aw4[bP:aK a]{v:V}{l:List Nat}{d:Nat}(dd:fI a v l)(au:l.length<1000000)(tP:0<d)(yW:d<a9){aJ:H}[ca:aK aJ][eZ:aj a aJ]{bC fr f0 f fN:P}{I:Fr}{k:c4}
  (aR:I.gt 3=.ptr bC 0 0 1) (cj:I.gt 6=.ptr fr 0 0 1) (cH:I.gt 7=.ptr f0 0 0 1) (lo:I.gt 17=.fn (.func 516) [] [.ptr fN 0 0 1])
  (_:dp bC f) (_:dp bC f0) (_:dp fr f) (_:dp fr f0) (_:dp f f0) (_:dp f0 f) (_:dp fN f0) (_:dp fN f) (_:eC f a) (_:eC f0 a)
  (bO:aJ.get bC=some (.af [.int .u32 (d:Nat)] 397)) (eI:aJ.get fr=some (.af [.ag f 0 0 l.length 1 (some l.length)] 289)) (gl:aJ.get f0=some (.af [.int .u64 0] 419)) (ha:aJ.get f=some (.af (d8 .u32 (List.replicate l.length 0)) 397)) (lC:aJ.get fN=some (.af [v] 289))
  (tt:∀aa Q r,aj a aa->aa.get fr=some (.af [.ag f 0 0 l.length 1 (some l.length)] 289) ->aa.get f0=some (.af [.int .u64 (r:Nat)] 419) ->aa.get f=some (.af (d8 .u32 Q) 397) ->Q.length=l.length->fA a9 Q->r<d->val a9 Q*d+r=val a9 l->k.run J (.norm ⟨I,[],aa⟩)):dA J alH ⟨I,[],aJ⟩ k:=by
 have gx:=aP bO;have qM:=aP eI;have z6:=aP gl;have p5:=aP ha;have on:=aP lC;unfold alH;refine Le (β:=Unit) (Yk (b:=fN) (ty:=289) dd (by omega)) (by simp only[go_sem,seval,lo]) a
  (fun j (x:List Nat×Nat)=>arc d l.length bC fr f0 f fN aJ.next v (.loop .ready none I [(a0 18),(a0 19)] XQ XS) x j)
  (fun j x=>x.1.length=j/\fA a9 x.1/\x.2<d/\val a9 x.1*d+x.2=val a9 (l.drop (l.length-j)))
  (fun _=>[]) (fun _=>False) ?_ ?_ ?_ ?_ ?_
 ·intro m x aa bR _ G _;exact⟨bR,G.2.2.2.2.1⟩
 ·exact⟨an,([],0),⟨by simp only[j9,bO],by simp only[j9,eI],by simp only[j9,gl];rfl,by simp only[j9,ha,x5,qy],by simp only[j9,lC],ef,trivial⟩,rfl,GU,tP,by rw[x5,fp];simp[val]⟩
 ·rintro j ⟨Q,r⟩ aa a5 bR ch G ⟨lB,oG,aI,ar⟩ jJ os aQ gG yV U _;obtain⟨cc,dQ,fH,hG,eh,ea,_⟩:=G;simp only at lB oG aI ar fH hG;have c5:=aP cc;have HT:=aP dQ;have apI:=aP fH;have e4:=aP hG;have Md:=aP eh;have pl:=aP ea;have ai:l.length-1-j<l.length:=by omega
  obtain⟨x,ab⟩:=bI ai;have vX:=dd.lim x (c0 ab);have SE:=en ab;rw[show l.length-1-j+1=l.length-j by omega]at SE;rw[ab];generalize oB:l.length-1-j=bn at ab ai SE;have V7:List.replicate (l.length-j) 0=List.replicate bn 0++[0]:=by rw[show l.length-j=bn+1 by omega,List.replicate_succ']
  refine Ec (aa:=aa) ea rfl (by simp only[XQ,go_sem,seval,jV];rfl) ea ?_;obtain⟨p,n,bh,aq,ard,Ko,aw5,uK⟩:=aq9 a9 jF aI yW vX;have b5:b8 .u64 ((r:Int)*1000000000)=(p:Int):=by rw[ard];exact wrap_u64 Ko
  have uA:b8 .u64 (x:Int)=(x:Int):=wrap_u64 (by have:=jF;omega);have d7:b8 .u64 ((p:Int)+(x:Int))=(n:Int):=by rw[<-se,<-aq];exact wrap_u64 aw5
  have wd:b8 .u64 (d:Int)=(d:Int):=wrap_u64 (by have:=jF;omega);have sX:val a9 (n/d::Q)*d+n%d=val a9 (l.drop bn):=by
   rw[SE];exact ara a9 bh aq (Lb n d) ar
  have yY:n%d<d:=qv _ tP;have yZ:n/d<a9:=P9 uK;have gw:=Km .int .u64 n d tP;have jy:=DH .int .u64 n d tP;generalize n%d=jH at gw yY sX;generalize n/d=q at jy yZ sX;have w7:b8 .u64 (q:Int)=(q:Int):=wrap_u64 (by have:=jF;omega);have wr:b8 .u32 (q:Int)=(q:Int):=wrap_u32 (by have:=jF;omega);rw[w7]at jy;have hlen:(List.replicate (l.length-j) 0++Q).length=l.length:=by rw[fi,te,lB];omega
  have st:=BE (k:=.u32) (List.replicate (l.length-j) 0++Q) 397;have st:=fun(h:H)=>st h f bn (by rw[hlen];exact ai) q;have e1:=rp f 0 0 l.length 1 (some l.length) bn ai;have aw6:(List.replicate (l.length-j) 0++Q).set bn q=List.replicate (l.length-(j+1)) 0++(q::Q):=by
   rw[V7,nk,show l.length-(j+1)=bn by omega];exact Lu (by rw[te])
  rw[aw6]at st;have SF:∀(h:H) (x y:Int),fz (some (.af [.int .u64 x] 419)) h f0 1 0 0 1 (.int .u64 y)=some (.bk [],h.set f0 (.af [.int .u64 y] 419)):=fun _ _ _=>rfl;have tQ:∀(k:IntKind) (x:Int) (ty:TypeId),ec (some (.af [.int k x] ty)) false 1 0 0 1=some (.int k x):=fun _ _ _=>rfl;have AH:ec (some (.af [.ag f 0 0 l.length 1 (some l.length)] 289)) false 1 0 0 1=some (.ag f 0 0 l.length 1 (some l.length)):=rfl;simp only[eH,kz]at st e1;simp only[aDT,XR,go_sem,seval,hC,aR,cj,cH,cc,dQ,fH,hG,tQ,AH,xV,q9,b5,uA,d7,wd,jy,gw,wr,e1,st,SF,jV];refine x6 (by simp only[go_sem,seval];rfl) ?_;refine U _ an ⟨(q::Q,jH),⟨by simp only[go_sem,seval,cc],by simp only[go_sem,seval,dQ],by simp only[go_sem,seval],by simp only[go_sem,seval],by simp only[go_sem,seval,eh],by simp only[go_sem,seval],trivial⟩,by simp[lB],?_,yY,?_⟩
  ·intro y ax;rcases List.mem_cons.1 ax with e|e
   ·subst e;exact yZ
   ·exact oG y e
  ·rw[show l.length-(j+1)=bn by omega];exact sX
 ·rintro⟨Q,r⟩ aa bR _ ⟨cc,dQ,fH,hG,eh,ea,_⟩ ⟨lB,oG,aI,ar⟩;simp only at lB oG aI ar fH hG;have pl:=aP ea;have HT:=aP dQ;have apI:=aP fH;have e4:=aP hG;rw[EB ea];rw[sb]at ar hG;refine⟨by simp,tt _ Q r an (by simp only[go_sem,seval,dQ]) (by simp only[go_sem,seval,fH]) (by simp only[go_sem,seval,hG]) lB oG aI ar⟩
 ·intro _ _ _ _ _ aE;exact aE.elim
theorem ajm{n d:Nat}{v:V}[bP:aK a](tu:gZ n v a){K:Nat}(j0:K<=100000)(aq:n<a9^K)(tP:0<d)(yW:d<a9):cJ J a 421 [v,.int .u32 (d:Nat)] (fun w h=>∃b5 d7,w=.bk [b5,d7]/\o6 (aH a.next) (n/d) b5 h/\o6 (aH a.next) (n%d) d7 h):=by
 obtain⟨v,l,rfl,dd,c1,rfl⟩:=tu;have iO:=vl c1 aq;refine cJ.bE ak.aiu rfl fun h ca g=>?_;have h8:=wY 397 1 4 [.int .u32 (.ofNat 0)] l.length (by omega) (by omega);rw[BX]at h8;have rM:(Int.ofNat 0)=0:=rfl;simp only[rM]at h8;have SF:∀(h:H) (f:P) (x y:Int),fz (some (.af [.int .u64 x] 419)) h f 1 0 0 1 (.int .u64 y)=some (.bk [],h.set f (.af [.int .u64 y] 419)):=fun _ _ _ _=>rfl;have xx:∀(h:H) (f g:P) (n:Nat),fz (some (.af [.al] 289)) h g 1 0 0 1 (.ag f 0 0 n 1 (some n))=some (.bk [],h.set g (.af [.ag f 0 0 n 1 (some n)] 289)):=fun _ _ _ _=>rfl;have tw:=jF;obtain⟨b0,fB⟩:∃b:P,b=((h.new (.af [v] 291)).new (.af [.int .u32 (d:Nat)] 397)).next:=⟨_,rfl⟩
 obtain⟨cM,hB⟩:∃b:P,b=(((h.new (.af [v] 291)).new (.af [.int .u32 (d:Nat)] 397)).new (.af [.al] 291)).next:=⟨_,rfl⟩
 obtain⟨de,hg⟩:∃H:H,H=((((h.new (.af [v] 291)).new (.af [.int .u32 (d:Nat)] 397)).new (.af [.al] 291)).new (.af [.al] 291)):=⟨_,rfl⟩
 have lX:aK de:=by rw[hg];exact an
 have eg:aj h de:=by rw[hg];exact an
 have Sx:fQ b0 de:=by rw[fB,hg];exact an
 have aNd:fQ cM de:=by rw[hB,hg];exact an
 have EK:eC b0 h:=by rw[fB];exact an
 have Cc:eC cM h:=by rw[hB];exact an
 have ab2:dp b0 cM:=by rw[fB,hB];exact an
 have ab3:dp cM b0:=by rw[fB,hB];exact an
 have fw:de.get b0=some (.af [.al] 291):=by rw[hg,fB];simp only[go_sem,seval]
 have uy:de.get cM=some (.af [.al] 291):=by rw[hg,hB];simp only[go_sem,seval]
 have c5:de.get ((h.new (.af [v] 291)).next)=some (.af [.int .u32 (d:Nat)] 397):=by rw[hg];simp only[go_sem,seval]
 have Sw:fQ ((h.new (.af [v] 291)).next) de:=by rw[hg];exact an
 have aNe:aj a de:=g.aG eg;simp only[Ou,go_sem,seval,ql,ld1,qA,dd.ag.a2,dy,h8,xx,SF,(DF _ dd.cell _).cl];simp only[<-fB,<-hB];simp only[<-hg];refine aw4 (a:=de) (d:=d) (bC:=(h.new (.af [v] 291)).next) (f:=de.next) (fr:=(de.new (.af (d8 .u32 (List.replicate l.length 0)) 397)).next) (f0:=((de.new (.af (d8 .u32 (List.replicate l.length 0)) 397)).new (.af [.ag de.next 0 0 l.length 1 (some l.length)] 289)).next) (fN:=(((de.new (.af (d8 .u32 (List.replicate l.length 0)) 397)).new (.af [.ag de.next 0 0 l.length 1 (some l.length)] 289)).new (.af [.int .u64 0] 419)).next) (dd.aO (aa:=de)) (by omega) tP yW (by simp only[go_sem,seval]) (by simp only[go_sem,seval]) (by simp only[go_sem,seval]) (by simp only[go_sem,seval]) ?_ ?_ ?_ ?_ ?_ ?_ ?_ ?_ ?_ ?_ (by simp only[go_sem,seval,c5]) (by simp only[go_sem,seval]) (by simp only[go_sem,seval]) (by simp only[go_sem,seval]) (by simp only[go_sem,seval]) ?_
 all_goals first|exact an|skip
 intro aa Q r bR dQ fH hG lB oG aI ar;have ch:=bR.bx;have qM:=aP dQ;have z6:=aP fH;have p5:=aP hG;have xy:aj h aa:=eg.aG bR;have ZX:=bR.dW;have dc:aa.get b0=some (.af [.al] 291):=by rw[bR.gt];exact fw
 have dn:aa.get cM=some (.af [.al] 291):=by rw[bR.gt];exact uy
 have wr:b8 .u32 (r:Int)=(r:Int):=wrap_u32 (by omega);have AH:ec (some (.af [.ag de.next 0 0 l.length 1 (some l.length)] 289)) false 1 0 0 1=some (.ag de.next 0 0 l.length 1 (some l.length)):=rfl;have tQ:∀(k:IntKind) (x:Int) (ty:TypeId),ec (some (.af [.int k x] ty)) false 1 0 0 1=some (.int k x):=fun _ _ _=>rfl;have ag:=nY hG (some l.length);rw[lB]at ag;have cs:=Be (J:=J) (a:=aa) (v:=.ag de.next 0 0 l.length 1 (some l.length)) (l:=Q) ⟨ag,a1 _,oG⟩ (by omega);have jL:fA a9 [r]:=fun x ab=>by simp at ab;omega
 have aN:(aa.new (.af [.int .u32 (r:Int)] 397)).get aa.next=some (.af (d8 .u32 [r]) 397):=ef
 have gO:=Be (J:=J) (a:=aa.new (.af [.int .u32 (r:Int)] 397)) (v:=.ag aa.next 0 0 1 1 (some 1)) (l:=[r]) ⟨nY aN (some 1),a1 _,jL⟩ (by simp);have fb:∀x l,jQ [.al] [(0,1,kb x l)]=some (.agg [kb x l])\/True:=fun _ _=>.inr trivial;have are:jQ [.al] [(0,1,kb (.ag de.next 0 0 l.length 1 (some l.length)) Q)]=some (.agg [kb (.ag de.next 0 0 l.length 1 (some l.length)) Q]):=rfl;have SG:jQ [.al] [(0,1,kb (.ag aa.next 0 0 1 1 (some 1)) [r])]=some (.agg [kb (.ag aa.next 0 0 1 1 (some 1)) [r]]):=rfl;have aNf:eC b0 h:=EK;have on:fQ aa.next (aa.new (.af [.int .u32 (r:Int)] 397)):=an
 have aNg:dp de.next b0:=an
 have aNh:dp de.next cM:=an
 have ab4:fQ b0 aa:=an;have aNi:fQ cM aa:=an;have MX:dp aa.next b0:=an
 have aNj:dp aa.next cM:=an
 simp only[go_sem,seval,dc,dn,dQ,fH,tQ,AH,wr,Pn,cs.bL,gO.bL,bQ,are,SG,st1,ld1];obtain⟨mi,nv⟩:=aEc ar aI;refine⟨_,_,rfl,?_,?_⟩
 ·refine o6.strip (l:=Q) (fI.kb ⟨Y2 (ty:=397) lB ?_ _,a1 _,oG⟩) oG mi (Hs (v:=.ag de.next 0 0 l.length 1 (some l.length)) (iK g.g.next eg.g.next) _);simp only[go_sem,seval,bQ,hG]
 ·refine o6.strip (l:=[r]) (fI.kb ⟨Y2 (ty:=397) (l:=[r]) rfl ?_ _,a1 _,jL⟩) jL (by simp[val];exact nv) (Hs (v:=.ag aa.next 0 0 1 1 (some 1)) (iK g.g.next xy.g.next) _);simp only[go_sem,seval,bQ];rfl
theorem ajn{x:Nat}(h:x<a9):b8 .u64 (x:Int)=(x:Int):=wrap_u64 (by have:=jF;omega)
theorem V8{x:Nat}(h:x<a9):b8 .u32 (x:Int)=(x:Int):=wrap_u32 (by have:=jF;omega)
theorem aw7(B:Nat)(h2:B=1000000000){x y:Nat}(ab:x<B)(ax:y<=B):x*y<1000000000000000000:=by
 have h1:x*y<=999999999*1000000000:=Nat.mul_le_mul (by omega) (by omega);omega
theorem aw8[bP:aK a]{w:V}{R:List Nat}{top next head br n b Z r dj left:Nat}(aq:n<1000000)(kG:gI R n=br)(ZY:fI a w R)(aNk:top<a9)(SH:next<a9)
  (ar:Z*(top*a9+next)<=b) (ah:b<Z*(top*a9+next+1)) (hP:Z*a9<=b) (rC:Z*(head*a9+br)<=r) (rD:r<Z*(head*a9+br+1)) (sJ:r<b*a9) (V9:br<a9)
  {aJ:H} [ca:aK aJ] [eZ:aj a aJ] {la m7 m8 jC:P} {I:Fr} {k:c4}
  (oF:aJ.get la=some (.af [.ad (n+2:Nat)] 3)) (xv:aJ.get m7=some (.af [.int .u64 (top:Nat)] 419)) (vV:aJ.get m8=some (.af [.int .u64 (next:Nat)] 419)) (ob:aJ.get jC=some (.af [w] 291))
  (dm:I.gt 9=.ptr la 0 0 1) (ew:I.gt 10=.ptr m7 0 0 1) (iT:I.gt 11=.ptr m8 0 0 1) (h9:I.gt 13=.ptr jC 0 0 1) (lo:I.gt 17=.int .u64 (dj:Nat)) (ph:I.gt 18=.int .u64 (left:Nat))
  (aC:dj*top+left=head) (au:left<a9) (Ja:r<(dj+1)*b) (aw9:dj<18446744073709551616)
  (eu:∀aQ aa g,aj aJ aa->g<a9->g*b<r+b->r<(g+1)*b->aQ.gt 8=I.gt 8->aQ.gt 12=I.gt 12->aQ.gt 13=I.gt 13->aQ.gt 14=I.gt 14->aQ.gt 17=.int .u64 (g:Nat) ->k.run J (.exit 2 ⟨aQ,[],aa⟩)):dA J alA ⟨I,[],aJ⟩ k:=by
 have apJ:=aP oF;have aNl:=aP xv;have aNm:=aP vV;have ab5:=aP ob;have tw:=jF;have akR:=aBt ah SH rC sJ;generalize tR:I.gt 8=uB at eu;generalize wm:I.gt 12=M1 at eu;generalize qn:I.gt 13=M2 at eu h9;generalize wo:I.gt 14=M3 at eu;unfold alA;refine lU (fun m t=>∃I h1 left,t=⟨I,[],h1⟩/\aj aJ h1/\m<18446744073709551616/\m*top+left=head/\left<a9/\r<(m+1)*b/\
  I.gt 9=.ptr la 0 0 1/\I.gt 10=.ptr m7 0 0 1/\I.gt 11=.ptr m8 0 0 1/\I.gt 17=.int .u64 (m:Nat)/\I.gt 18=.int .u64 (left:Nat)/\
  I.gt 8=uB/\I.gt 12=M1/\I.gt 13=M2/\I.gt 14=M3) ?_ (m:=dj) ⟨I,aJ,left,rfl,an,aw9,aC,au,Ja,dm,ew,iT,lo,ph,tR,wm,qn,wo⟩
 rintro m t ⟨I,h1,left,rfl,aB,ajo,aC,au,Ja,dm,ew,iT,lo,ph,tR,wm,qn,wo⟩;rw[h9]at qn;have bW:=aB.bx;have ry:=aB.dW;have aMu:=aB.t4;have jM:=(aB.gt la).trans oF;have mM:=(aB.gt m7).trans xv;have pj:=(aB.gt m8).trans vV;have kr:=(aB.gt jC).trans ob;have tQ:∀(k:IntKind) (x:Int) (ty:TypeId),ec (some (.af [.int k x] ty)) false 1 0 0 1=some (.int k x):=fun _ _ _=>rfl;have Xf:(a9<=m\/left*a9+br<m*next) ->left+top<a9->∀I ae,aj aJ ae->I.gt 9=.ptr la 0 0 1->I.gt 10=.ptr m7 0 0 1->I.gt 11=.ptr m8 0 0 1->I.gt 17=.int .u64 (m-1:Nat) ->I.gt 18=.int .u64 (left+top:Nat) ->
   I.gt 8=uB->I.gt 12=M1->I.gt 13=M2->I.gt 14=M3->∃c8,c8<m/\∃aQ az left,(⟨I,[],ae⟩:eM)=⟨aQ,[],az⟩/\aj aJ az/\c8<18446744073709551616/\c8*top+left=head/\left<a9/\r<(c8+1)*b/\
   aQ.gt 9=.ptr la 0 0 1/\aQ.gt 10=.ptr m7 0 0 1/\aQ.gt 11=.ptr m8 0 0 1/\aQ.gt 17=.int .u64 (c8:Nat)/\aQ.gt 18=.int .u64 (left:Nat)/\
   aQ.gt 8=uB/\aQ.gt 12=M1/\aQ.gt 13=M2/\aQ.gt 14=M3:=by
  intro bp ay I ae aY dm ew iT lo ph tR wm qn wo;obtain⟨bh,p7,tS⟩:=akQ ar rD V9 sJ aC bp;exact⟨m-1,by omega,I,ae,left+top,rfl,aY,by omega,p7,ay,tS,dm,ew,iT,lo,ph,tR,wm,qn,wo⟩
 have Xg:(a9<=m\/left*a9+br<m*next) ->¬left+top<a9->∀I ae,aj aJ ae->I.gt 9=.ptr la 0 0 1->I.gt 10=.ptr m7 0 0 1->I.gt 11=.ptr m8 0 0 1->I.gt 17=.int .u64 (m-1:Nat) ->I.gt 18=.int .u64 (left+top:Nat) ->
   I.gt 8=uB->I.gt 12=M1->I.gt 13=M2->I.gt 14=M3->k.run J (.exit 2 ⟨I,[],ae⟩):=by
  intro bp vQ I ae aY dm ew iT lo ph tR wm qn wo;obtain⟨bh,p7,tS⟩:=akQ ar rD V9 sJ aC bp;obtain⟨i2,k8⟩:=aEa (br:=br) akR p7 SH (BA vQ);refine eu I ae (m-1) aY i2 ?_ tS tR wm qn wo lo;subst p7;exact amX ah rC i2 hP k8
 have vA:decide ((1000000000:Int)<=(m:Int))=decide (a9<=m):=by rw[ov];omega
 have wl:b8 .u64 ((left:Int)+(top:Int))=((left+top:Nat):Int):=by rw[<-se];exact wrap_u64 (by omega)
 have Me:decide ((1000000000:Int)<=((left+top:Nat):Int))=!decide (left+top<a9):=by rw[<-decide_not];rw[ov];omega
 by_cases CT:a9<=m
 ·have pq:1<=m:=by omega
  have o1:b8 .u64 ((m:Int) -1)=((m-1:Nat):Int):=by rw[show(m:Int) -1=((m-1:Nat):Int) by omega];exact wrap_u64 (by omega)
  by_cases ay:left+top<a9
  ·simp only[go_sem,seval,dm,ew,iT,lo,ph,qn,mM,tQ,vA,CT,rW,q9,o1,wl,Me,ay];exact Xf (.inl CT) ay _ _ an (by simp only[go_sem,seval,dm]) (by simp only[go_sem,seval,ew]) (by simp only[go_sem,seval,iT]) (by simp only[go_sem,seval]) (by simp only[go_sem,seval]) (by simp only[go_sem,seval,tR]) (by simp only[go_sem,seval,wm]) (by simp only[go_sem,seval,qn,h9]) (by simp only[go_sem,seval,wo])
  ·simp only[go_sem,seval,dm,ew,iT,lo,ph,qn,mM,tQ,vA,CT,rW,q9,o1,wl,Me,ay];exact Xg (.inl CT) ay _ _ an (by simp only[go_sem,seval,dm]) (by simp only[go_sem,seval,ew]) (by simp only[go_sem,seval,iT]) (by simp only[go_sem,seval]) (by simp only[go_sem,seval]) (by simp only[go_sem,seval,tR]) (by simp only[go_sem,seval,wm]) (by simp only[go_sem,seval,qn,h9]) (by simp only[go_sem,seval,wo])
 ·have SI:m<a9:=by omega
  have cl:=Kn (J:=J) (ZY.aO (aa:=h1)) n;rw[kG]at cl;have CA:b8 .i64 (((n+2:Nat):Int) -2)=(n:Int):=by rw[gz (by omega) (by omega)];omega
  have yt:=fK ZY.ag;have mi:=aw7 a9 tw SI (zR SH);obtain⟨p,bh,arf,Ko,AI⟩:=ab1 a9 tw au V9;simp only[<-bh]at Xf Xg;have SJ:b8 .u64 ((m:Int)*(next:Int))=((m*next:Nat):Int):=by rw[<-D9];exact wrap_u64 (by omega)
  have SK:b8 .u64 ((left:Int)*1000000000)=(p:Int):=by rw[arf];exact wrap_u64 Ko
  have SL:b8 .u64 ((p:Int)+(br:Int))=((p+br:Nat):Int):=by rw[<-se];exact wrap_u64 AI
  have Ce:decide (((p+br:Nat):Int)<((m*next:Nat):Int))=decide (p+br<m*next):=by rw[ov];omega
  by_cases bp: p+br<m*next
  ·have pq:1<=m:=by
    rcases nS m with e|e
    ·subst e;simp at bp
    ·exact e
   have o1:b8 .u64 ((m:Int) -1)=((m-1:Nat):Int):=by rw[show(m:Int) -1=((m-1:Nat):Int) by omega];exact wrap_u64 (by omega)
   by_cases ay:left+top<a9
   ·simp only[go_sem,seval,dm,ew,iT,lo,ph,qn,jM,mM,pj,kr,tQ,ld1,vA,CT,rW,q9,xV,o1,wl,Me,ay,CA,cl.bL,bQ,SJ,SK,SL,Ce,bp];exact Xf (.inr bp) ay _ _ an (by simp only[go_sem,seval,dm]) (by simp only[go_sem,seval,ew]) (by simp only[go_sem,seval,iT]) (by simp only[go_sem,seval]) (by simp only[go_sem,seval]) (by simp only[go_sem,seval,tR]) (by simp only[go_sem,seval,wm]) (by simp only[go_sem,seval,qn,h9]) (by simp only[go_sem,seval,wo])
   ·simp only[go_sem,seval,dm,ew,iT,lo,ph,qn,jM,mM,pj,kr,tQ,ld1,vA,CT,rW,q9,xV,o1,wl,Me,ay,CA,cl.bL,bQ,SJ,SK,SL,Ce,bp];exact Xg (.inr bp) ay _ _ an (by simp only[go_sem,seval,dm]) (by simp only[go_sem,seval,ew]) (by simp only[go_sem,seval,iT]) (by simp only[go_sem,seval]) (by simp only[go_sem,seval]) (by simp only[go_sem,seval,tR]) (by simp only[go_sem,seval,wm]) (by simp only[go_sem,seval,qn,h9]) (by simp only[go_sem,seval,wo])
  ·simp only[go_sem,seval,dm,ew,iT,lo,ph,qn,jM,mM,pj,kr,tQ,ld1,vA,CT,rW,q9,xV,CA,cl.bL,bQ,SJ,SK,SL,Ce,bp];refine eu _ _ m an SI ?_ Ja (by simp only[go_sem,seval,tR]) (by simp only[go_sem,seval,wm]) (by simp only[go_sem,seval,qn,h9]) (by simp only[go_sem,seval,wo]) (by simp only[go_sem,seval,lo]);subst aC;exact amX ah rC SI hP (by rw[<-bh];exact BA bp)
theorem wrap_i32{n:Nat}(h:n<2147483648):b8 .i32 (n:Int)=(n:Int):=by
 have ah:Nat.blt n 2147483648=true:=by rw[lv];exact h
 show(match Nat.blt n 2147483648 with|true=>Int.ofNat n|false=>IntKind.wrap .i32 (.ofNat n))=_;rw[ah];rfl
theorem YK(s:List Nat)(c:Nat):dec (s++[c])=10*dec s+(c-48):=by
 rw[QK];simp[dec];omega
theorem ajw{s:List Nat}(h:rl s)(au:s.length<=9):dec s<1000000000:=by
 have h1:=dec_lt h;have ae:10^s.length<=10^9:=vk (by omega) au;have az:(10:Nat)^9=1000000000:=by decide
 omega
theorem axs{aJ:H}[ca:aK aJ]{bi:P}{c:List Nat}(U:rl c)(au:c.length<=9){I:Fr}{k:c4}{pos:Nat}(apR:aJ.get bi=some (.mz c pos))(cH:I.gt 7=.int .u32 0)(mo:I.gt 19=.ptr bi 0 0 0)
  (eu:∀aQ aa,jZ bi aJ aa->aQ.gt 5=I.gt 5->aQ.gt 7=.int .u32 (dec c:Nat) ->k.run J (.exit 2 ⟨aQ,[],aa⟩)):dA J als ⟨I,[],aJ⟩ k:=by
 generalize I9:I.gt 5=lg at eu;unfold als;refine lU (fun m t=>∃I h1 P r pos,t=⟨I,[],h1⟩/\jZ bi aJ h1/\m=r.length/\c=P++r/\h1.get bi=some (.mz r pos)/\I.gt 7=.int .u32 (dec P:Nat)/\I.gt 19=.ptr bi 0 0 0/\I.gt 5=lg) ?_ (m:=c.length) ⟨I,aJ,[],c,pos,rfl,an,rfl,rfl,apR,cH,mo,I9⟩;rintro m t ⟨I,h1,P,r,pos,rfl,vr,rfl,nx,dr,cH,mo,bu⟩;have bW:=vr.bx;have cL:=aP dr;cases r with
 |nil=>
  rw[qy]at nx;subst nx;simp only[go_sem,seval,mo,dr];exact eu _ _ vr (by simp only[go_sem,seval,bu]) (by simp only[go_sem,seval,cH])
 |cons d r=>
  have a3:=U d (by rw[nx];simp);have hP:rl (P++[d]):=fun x ab=>U x (by rw[nx];rcases List.mem_append.1 ab with q|q;exact List.mem_append_left _ q;simp at q;subst q;simp);have asA:(P++[d]).length<=9:=by rw[nx]at au;simp at au⊢;omega
  have ah:=ajw hP asA;rw[YK]at ah;have b5:b8 .u32 (10*(dec P:Int))=((10*dec P:Nat):Int):=by rw[show 10*(dec P:Int)=((10*dec P:Nat):Int) by omega];exact wrap_u32 (by omega)
  have d7:b8 .i32 ((d:Int) -48)=((d-48:Nat):Int):=by rw[show(d:Int) -48=((d-48:Nat):Int) by omega];exact wrap_i32 (by omega)
  have jW:b8 .u32 ((d-48:Nat):Int)=((d-48:Nat):Int):=wrap_u32 (by omega)
  have iq:b8 .u32 (((10*dec P:Nat):Int)+((d-48:Nat):Int))=((dec (P++[d]):Nat):Int):=by rw[<-se,YK];exact wrap_u32 (by omega)
  simp only[go_sem,seval,cH,mo,dr,EC (show d<128 by omega),xV,rW,q9,b5,d7,jW,iq];exact⟨r.length,by simp,_,_,P++[d],r,_,rfl,an,rfl,by rw[nx];simp,jt,by simp only[go_sem,seval],by simp only[go_sem,seval,mo],by simp only[go_sem,seval,bu]⟩
end
end Go.ao
