/- A part of the proof that ProofForms holds for every input. -/
import Derived.Test.YtphcmfmpbndkbaaGreatDoorQ13
set_option maxRecDepth 100000
set_option maxHeartbeats 4000000
set_option linter.all false
noncomputable section
namespace Go.ao
section
open Form
variable {J:Prog}[ak J]{a:H}
theorem NF{v:V}{l:List Int}[aK a](s:bB a v 1 (dH l))(au:l.length<1000000000):aS J a 41 [v] (.ad (cm l)):=by
 refine aS.bE ak.Fh rfl fun h _ g=>?_;simp only[abo,go_sem,seval];refine dK l.length (fun i t=>∃I,t=⟨I,[],h⟩/\cm l=cm (l.drop i)/\I.gt 0=v/\I.gt 3=.ad (i:Nat)) ?_ ?_ (dk _) ⟨_,rfl,rfl,?_,?_⟩
 ·rintro i t ai ⟨I,rfl,e,bA,bO⟩;obtain⟨x,ab⟩:=bI ai;have a3:=en ab;have ck:i<(dH l).length:=by rw[c7];exact ai
  have ay:((i:Int)<(l.length:Int)):=by omega
  by_cases av:x=0
  ·simp only[go_sem,seval,bA,bO,s.a2,c7,ay,s.addr ck,s.bM (gn ab),av,cG (show i<9223372036854775807 by omega)];refine⟨_,rfl,?_,?_,?_⟩
   ·rw[e,a3,av];rfl
   all_goals simp only[go_sem,seval,bA,bO]
  ·simp[go_sem,seval,bA,bO,s.a2,c7,ay,s.addr ck,s.bM (gn ab),av,e,a3,cm]
 ·rintro t ⟨I,rfl,e,bA,bO⟩;have ay:¬((l.length:Int)<(l.length:Int)):=by omega
  simp only[go_sem,seval,bA,bO,s.a2,c7,ay,e,fp,cm]
 all_goals simp only[go_sem,seval]
theorem AY(b:Bool)(e:Int):aS J a 42 [.bool b,.ad e] (.ad (cd b e)):=by
 refine aS.bE ak.Fi rfl fun h _ _=>?_;cases b<;>simp only[abp,go_sem,seval,cd]
theorem ayt(c:Nat):aS J a 426 [.int .u8 (c:Nat)] (.bool (isDigit c)):=by
 refine aS.bE ak.aiA rfl fun h _ _=>?_;unfold isDigit;by_cases h1:(48:Int)<=(c:Int)
 ·have rL:48<=c:=by omega
  by_cases ae:(c:Int)<=57
  ·have p9:c<=57:=by omega
   simp only[Ow,go_sem,seval,h1,ae,rL,p9]
  ·have p9:¬c<=57:=by omega
   simp only[Ow,go_sem,seval,h1,ae,rL,p9]
 ·have rL:¬48<=c:=by omega
  simp only[Ow,go_sem,seval,h1,rL]
theorem Qg{s:b9}(aA:s.length<1000000){aJ:H}[ca:aK aJ]{I:Fr}{k:c4}(aR:I.gt 3=.str s)(bZ:I.gt 4=.ad 0)
  (eu:∀aQ aa,aj aJ aa->s.all isDigit=true->k.run J (.exit 0 ⟨aQ,[],aa⟩)) (ht:∀aQ aa,aj aJ aa->s.all isDigit=false->aQ.gt 2=.bool false->k.run J (.ret ⟨aQ,[],aa⟩)):dA J alC ⟨I,[],aJ⟩ k:=by
 unfold alC;refine dK s.length (fun i t=>∃I h1,t=⟨I,[],h1⟩/\aj aJ h1/\s.all isDigit=(s.drop i).all isDigit/\I.gt 3=.str s/\I.gt 4=.ad (i:Nat)) ?_ ?_ (dk _) ⟨_,_,rfl,an,rfl,aR,bZ⟩
 ·rintro i t ai ⟨I,h1,rfl,aB,e,bO,fY⟩;have bW:=aB.bx;obtain⟨c,U⟩:=bI ai;have uF:=ayt (J:=J) (a:=aJ) c;rw[en U,ye]at e;have ay:((i:Int)<(s.length:Int)):=by omega
  cases a3:isDigit c with
  |true=>
   rw[a3]at uF;rw[a3,ju]at e;simp only[go_sem,seval,bO,fY,ay,gS,tN U,uF.cl,cG (show i<9223372036854775807 by omega)];exact⟨_,_,rfl,an,e,by simp only[go_sem,seval,bO],by simp only[go_sem,seval]⟩
  |false=>
   rw[a3]at uF;rw[a3,mg]at e;simp only[go_sem,seval,bO,fY,ay,gS,tN U,uF.cl];exact ht _ _ an e (by simp only[go_sem,seval])
 ·rintro t ⟨I,h1,rfl,aB,e,bO,fY⟩;have bW:=aB.bx;have ay:¬((s.length:Int)<(s.length:Int)):=by omega
  rw[fp]at e;simp only[go_sem,seval,bO,fY,ay,gS];exact eu _ _ an e
theorem PW{s:b9}{x:Nat}{r:b9}(ah:body s=x::r)(h:¬(x=48/\(minus s=true\/r≠[]))):oY s=(x::r).all isDigit:=by
 unfold oY;rw[ah];cases (x::r).all isDigit with
 |false=>rfl
 |true=>
  have:(decide ((x::r).head?=some 48)&&(minus s||decide (1<(x::r).length)))=false:=by
   rw[Bool.and_eq_false_iff];by_cases ab:x=48
   ·right;have h1:minus s=false:=by
     cases hm:minus s with
     |false=>rfl
     |true=>exact absurd ⟨ab,.inl hm⟩ h
    have ae:r=[]:=by
     by_cases aI:r=[]
     ·exact aI
     ·exact absurd ⟨ab,.inr aI⟩ h
    simp[h1,ae]
   ·left;simp[ab]
  rw[this];rfl
theorem XX{s:b9}{x:Nat}{r:b9}(ah:body s=x::r)(h:x=48/\(minus s=true\/r≠[])):oY s=false:=by
 obtain⟨rfl,aM⟩:=h;unfold oY;rw[ah];rcases aM with q|q
 ·simp[q]
 ·have:r.length≠0:=fun e=>q (tb e);simp;intro _ _ _;omega
theorem Yo{c:Nat}{r:b9}(h:c≠45):body (c::r)=c::r:=by
 unfold body;split
 ·rename_i e;cases e;exact absurd rfl h
 ·rfl
theorem aI2{c:Nat}{r:b9}(h:c≠45):minus (c::r)=false:=by
 unfold minus;split
 ·rename_i e;cases e;exact absurd rfl h
 ·rfl
theorem ayu(s:b9)(aA:s.length<1000000):aS J a 343 [.str s] (.bool (oY s)):=by
 refine aS.bE ak.ahV rfl fun h ca _=>?_;have bh:∀n:Nat,(0:Int)<((n+1:Nat):Int):=fun n=>by omega
 have aX:∀n:Nat,¬(((n+1:Nat):Int)=0):=fun n=>by omega
 have aM:∀n:Nat,(1:Int)<((n+1+1:Nat):Int):=fun n=>by omega
 cases s with
 |nil=>simp only[wk,go_sem,seval,gS];rfl
 |cons c r=>
  by_cases U:c=45
  ·subst U;have v8:=Ev (45::r) (n:=1) (by simp);have ah:body (45::r)=r:=rfl;have hm:minus (45::r)=true:=rfl;simp only[go_sem,seval]at v8;cases r with
   |nil=>simp only[wk,go_sem,seval,gS,rK,v8,bh];rfl
   |cons x q=>
    cases q with
    |nil=>
     by_cases ab:x=48
     ·subst ab;have he:=XX ah ⟨rfl,.inl hm⟩;simp only[wk,go_sem,seval,gS,rK,v8,bh,he]
     ·have he:=PW ah (fun h=>ab h.1);have bV:¬([45,x]=[45,48]):=by intro e;cases e;exact ab rfl
      simp only[wk,go_sem,seval,gS,rK,v8,bh,bV];refine Qg (J:=J) (s:=[x]) (by simp) (by simp only[go_sem,seval]) (by simp only[go_sem,seval]) (fun aQ aa g e=>?_) (fun aQ aa g e bd=>?_)
      ·have ch:=g.bx;have eZ:aj h aa:=aj.aG (b:=_) an g;simp only[go_sem,seval,he,e]
      ·have ch:=g.bx;have eZ:aj h aa:=aj.aG (b:=_) an g;simp only[go_sem,seval,he,e,bd]
    |cons y q=>
     have bV:¬(45::x::y::q=[45,48]):=by intro e;cases e
     by_cases ab:x=48
     ·subst ab;have he:=XX ah ⟨rfl,.inl hm⟩;simp only[wk,go_sem,seval,gS,rK,v8,bh,aX,aM,bV,he]
     ·have he:=PW ah (fun h=>ab h.1);have jN:¬((x:Int)=48):=by omega
      simp only[wk,go_sem,seval,gS,rK,v8,bh,aX,aM,bV,jN];refine Qg (J:=J) (s:=x::y::q) (by simp at aA⊢;omega) (by simp only[go_sem,seval]) (by simp only[go_sem,seval]) (fun aQ aa g e=>?_) (fun aQ aa g e bd=>?_)
      ·have ch:=g.bx;have eZ:aj h aa:=aj.aG (b:=_) an g;simp only[go_sem,seval,he,e]
      ·have ch:=g.bx;have eZ:aj h aa:=aj.aG (b:=_) an g;simp only[go_sem,seval,he,e,bd]
  ·have ah:=Yo (r:=r) U;have hm:=aI2 (r:=r) U;have iw:¬((c:Int)=45):=by omega
   have bV:¬(c::r=[45,48]):=by intro e;cases e;exact U rfl
   cases r with
   |nil=>
    have he:=PW ah (fun h=>by rcases h.2 with q|q<;>simp[hm]at q);simp only[wk,go_sem,seval,gS,rK,bh,aX,iw,bV];refine Qg (J:=J) (s:=[c]) (by simp) (by simp only[go_sem,seval]) (by simp only[go_sem,seval]) (fun aQ aa g e=>?_) (fun aQ aa g e bd=>?_)
    ·have ch:=g.bx;have eZ:aj h aa:=aj.aG (b:=_) an g;simp only[go_sem,seval,he,e]
    ·have ch:=g.bx;have eZ:aj h aa:=aj.aG (b:=_) an g;simp only[go_sem,seval,he,e,bd]
   |cons y q=>
    by_cases ab:c=48
    ·subst ab;have he:=XX ah ⟨rfl,.inr (by simp)⟩;simp only[wk,go_sem,seval,gS,rK,bh,aX,aM,bV,he,iw]
    ·have he:=PW ah (fun h=>ab h.1);have jN:¬((c:Int)=48):=by omega
     simp only[wk,go_sem,seval,gS,rK,bh,aX,aM,bV,jN,iw];refine Qg (J:=J) (s:=c::y::q) aA (by simp only[go_sem,seval]) (by simp only[go_sem,seval]) (fun aQ aa g e=>?_) (fun aQ aa g e bd=>?_)
     ·have ch:=g.bx;have eZ:aj h aa:=aj.aG (b:=_) an g;simp only[go_sem,seval,he,e]
     ·have ch:=g.bx;have eZ:aj h aa:=aj.aG (b:=_) an g;simp only[go_sem,seval,he,e,bd]
theorem OS(s:b9)(aA:s.length<1000000):aS J a 226 [.str s] (.ad (d9 s)):=by
 refine aS.bE ak.agQ rfl fun h ca _=>?_;have be:=ayu (J:=J) (a:=h) s aA;have af:=fun(b:Bool) (e:Int)=>AY (J:=J) (a:=h) b e;cases aE:oY s with
 |false=>
  rw[aE]at be;have he:d9 s=1:=by unfold d9;rw[aE];rfl
  simp only[Ol,go_sem,seval,be.cl,he]
 |true=>
  rw[aE]at be;have he:d9 s=cd (decide (120<(body s).length)) 4:=by unfold d9;rw[aE];simp[cd]
  rw[he];cases s with
  |nil=>cases aE
  |cons c r=>
   by_cases U:c=45
   ·subst U;have b5:b8 .i64 (((r.length+1:Nat):Int) -1)=((r.length:Nat):Int):=by rw[pM (by omega) (by simp at aA;omega)];simp
    have a3:decide ((120:Int)<((r.length:Nat):Int))=decide (120<(body (45::r)).length):=by simp[body];omega
    simp only[Ol,go_sem,seval,be.cl,gS,rK,b5,a3,(af _ _).cl]
   ·have iw:¬((c:Int)=45):=by omega
    have a3:decide ((120:Int)<((r.length+1:Nat):Int))=decide (120<(body (c::r)).length):=by rw[Yo U];simp;omega
    simp only[Ol,go_sem,seval,be.cl,gS,rK,iw,a3,(af _ _).cl]
def ayv(o:Option (b9×b9)):V:=match o with|none=>.bk [.str [],.str [],.bool false]|some (p,q)=>.bk [.str p,.str q,.bool true]
theorem ayw(s:b9)(aA:s.length<1000000):aS J a 229 [.str s] (ayv (cut s)):=by
 refine aS.bE ak.agU rfl fun h ca _=>?_;simp only[agT,go_sem,seval];refine dK s.length (fun i t=>∃(I:Fr) (at':Int),t=⟨I,[],h⟩/\((at'=-1/\cut s=s3 (s.take i) (s.drop i))\/∃j:Nat,at'=j/\j<i/\cut s=if 47∈s.drop i then none else some (s.take j,s.drop (j+1)))/\
  I.gt 0=.str s/\I.gt 5=.ad at'/\I.gt 6=.ad (i:Nat)) ?_ ?_ (dk _) ⟨_,-1,rfl,.inl ⟨rfl,rfl⟩,?_,?_,?_⟩
 ·rintro i t ai ⟨I,at',rfl,U,bA,eY,eI⟩;obtain⟨c,ab⟩:=bI ai;have a3:=en ab;have ay:((i:Int)<(s.length:Int)):=by omega
  by_cases AR:c=47
  ·subst AR;rcases U with⟨rfl,U⟩|⟨j,rfl,a5,U⟩
   ·rw[a3]at U;have U:cut s=if 47∈s.drop (i+1)then none else some (s.take i,s.drop (i+1)):=U;have aq:¬((0:Int)<=-1):=by decide
    simp only[go_sem,seval,bA,eY,eI,gS,ay,tN ab,aq,cG (show i<9223372036854775807 by omega)];refine⟨_,(i:Int),rfl,.inr ⟨i,rfl,by omega,U⟩,?_,?_,?_⟩
    all_goals simp only[go_sem,seval,bA,eY]
   ·rw[bl (by rw[a3];exact zP)]at U;have aq:(0:Int)<=(j:Int):=by omega
    rw[U];simp only[go_sem,seval,bA,eY,eI,gS,ay,tN ab,aq];rfl
  ·have ayx:¬((c:Int)=47):=by omega
   simp only[go_sem,seval,bA,eY,eI,gS,ay,tN ab,ayx,cG (show i<9223372036854775807 by omega)];refine⟨_,at',rfl,?_,?_,?_,?_⟩
   ·rcases U with⟨rfl,U⟩|⟨j,rfl,a5,U⟩
    ·refine .inl ⟨rfl,?_⟩;rw[U,a3,s3,bf AR,nq ab]
    ·refine .inr ⟨j,rfl,by omega,?_⟩;rw[U,a3];have:(47∈c::s.drop (i+1))↔47∈s.drop (i+1):=by rw[lT];exact⟨fun h=>h.elim (fun e=>absurd e.symm AR) id,.inr⟩
     simp only[this]
   all_goals simp only[go_sem,seval,bA,eY]
 ·rintro t ⟨I,at',rfl,U,bA,eY,eI⟩;have ay:¬((s.length:Int)<(s.length:Int)):=by omega
  rcases U with⟨rfl,U⟩|⟨j,rfl,a5,U⟩
  ·rw[fp]at U;have U:cut s=none:=U;have aq:(-1:Int)<0:=by decide
   rw[U];simp only[go_sem,seval,bA,eY,eI,gS,ay,aq];rfl
  ·rw[fp,bf (by simp)]at U;have aq:¬((j:Int)<0):=by omega
   rw[U];have s1:=PT s (n:=j) (by omega);have s2:=Ev s (n:=j+1) (by omega);simp only[go_sem,seval,bA,eY,eI,gS,ay,aq,cG (show j<9223372036854775807 by omega),s1,s2];rfl
 all_goals simp only[go_sem,seval]
end
section
open Form d3
variable {J:Prog}[ak J]{a:H}
def bw:Nat:=10000
theorem u7:bw=10000:=rfl
theorem wT:0<bw:=by rw[u7];omega
structure gP(h:H)(v:V)(l:List Nat):Prop where
 ag:bB h v 1 (dY .i64 l)
 cap:om v
 lim:fA bw l
theorem gP.aO{h aa:H}{v:V}{l:List Nat}(m:gP h v l)[k:aK h][g:aj h aa]:gP aa v l:=⟨m.ag.aO k.ok g,m.cap,m.lim⟩
theorem gP.to {h:H}{v:V}{l:List Nat}(q:gP h v l){i:Nat}(ai:i<=l.length):gP h (nd v i) (l.take i):=by
 refine⟨?_,am1 q.ag q.cap (by rw[dy];exact ai),q.lim.take i⟩;have:=q.ag.to (i:=i) (by rw[dy];exact ai);have e:(dY .i64 l).take i=dY .i64 (l.take i):=by unfold dY;rw[G2]
 rwa[e]at this
def r5(v:V)(l:List Nat):V:=nd v (strip l).length
theorem gP.trim{h:H}{v:V}{l:List Nat}(q:gP h v l):gP h (r5 v l) (strip l):=by
 have:=q.to (Y0 l);rwa[<-anV]at this
theorem Qw{b:Nat}{v:V}(r:l1 b v)(l:List Nat):l1 b (r5 v l):=ame r _
theorem Wm(ty:TypeId)(b:Bool)(v w:V)(hw:w.cells=[w])(h:H)(f:P):fz (some (.af [.bool b,v] ty)) h f 1 0 1 1 w=some (.bk [],h.set f (.af [.bool b,w] ty)):=by
 have:=GQ [.bool b,v] ty h f 1 (by simp) w (by rw[hw]);simpa[hw]using this
theorem OT(ty:TypeId)(b c:Bool)(v:V)(h:H)(f:P):fz (some (.af [.bool b,v] ty)) h f 1 0 0 1 (.bool c)=some (.bk [],h.set f (.af [.bool c,v] ty)):=rfl
theorem Bh(ty:TypeId)(b:Bool)(v:V)(cs:List V)(U:cs.length=2)(h:H)(f:P):fz (some (.af [.bool b,v] ty)) h f 2 0 0 2 (.agg cs)=some (.bk [],h.set f (.af cs ty)):=pL _ _ _ _ 2 2 (a1 _) (.agg cs) U rfl
theorem Bi(ty:TypeId)(b:Bool)(v:V):ec (some (.af [.bool b,v] ty)) true 2 0 0 2=some (.agg [.bool b,v]):=rfl
theorem Xl(ty:TypeId)(b:Bool)(v:V):ec (some (.af [.bool b,v] ty)) false 1 0 0 1=some (.bool b):=rfl
theorem oV(ty:TypeId)(b:Bool)(v:V):ec (some (.af [.bool b,v] ty)) false 1 0 1 1=some v:=rfl
theorem wy(f:P):hM 0 1 (.ptr f 0 0 2)=some (.ptr f 0 0 1):=rfl
theorem nh(f:P):hM 1 1 (.ptr f 0 0 2)=some (.ptr f 0 1 1):=rfl
theorem ajO{v:V}{l:List Nat}[bP:aK a](s:bB a v 1 (dY .i64 l))(au:l.length<1000000000)(i:Nat):aS J a 519 [v,.ad (i:Nat)] (.ad (((l[i]?).getD 0:Nat))):=by
 refine aS.bE ak.aiV rfl fun h ca g=>?_;by_cases ai:i<l.length
 ·obtain⟨x,ab⟩:=bI ai;have ay:((i:Int)<(l.length:Int)):=by omega
  simp only[VV,go_sem,seval,s.a2,dy,ay,s.addr (i:=i) (by rw[dy];exact ai),s.bM (jr ab),ab,hC]
 ·have ay:¬((i:Int)<(l.length:Int)):=by omega
  simp only[VV,go_sem,seval,s.a2,dy,ay,ei (BA ai),Option.getD_none]
theorem Bj{v:V}{l:List Nat}[bP:aK a](q:gP a v l)(au:l.length<1000000000)(neg:Bool):aS J a 346 [.agg [.bool neg,v]] (.agg [.bool (neg&&!(strip l).isEmpty),r5 v l]):=by
 refine aS.bE ak.ah1 rfl fun h ca g=>?_;obtain⟨cB,mN⟩:∃b:P,b=h.next:=⟨_,rfl⟩
 obtain⟨bU,e8⟩:∃b:P,b=(h.new (.af [.bool neg,v] 304)).next:=⟨_,rfl⟩
 obtain⟨H1,cR⟩:∃H:H,H=(h.new (.af [.bool neg,v] 304)).new (.af [.bool false,.al] 304):=⟨_,rfl⟩;have bW:aK H1:=by rw[cR];exact an
 have aB:aj h H1:=by rw[cR];exact an
 have dx:aj a H1:=g.aG aB;have bj:H1.get cB=some (.af [.bool neg,v] 304):=by rw[cR,mN];simp only[go_sem,seval]
 have a8:H1.get bU=some (.af [.bool false,.al] 304):=by rw[cR,e8];exact ef
 have fZ:=aP bj;have dD:=aP a8;have aOb:dp cB bU:=by rw[mN,e8];exact an
 have aOc:dp bU cB:=by rw[mN,e8];exact an
 have tr:eC cB h:=by rw[mN];exact an
 have o5:eC bU h:=by rw[e8];exact an
 simp only[ah0,go_sem,seval,nh,oV,q.ag.a2,dy];simp only[<-mN,<-e8];simp only[<-cR];refine lU (fun m t=>∃I,t=⟨I,[],H1⟩/\m<=l.length/\strip l=strip (l.take m)/\I.gt 1=.ptr cB 0 0 2/\I.gt 2=.ptr bU 0 0 2/\I.gt 3=.ad (m:Nat)) ?_ (m:=l.length) ⟨_,rfl,a1 _,by rw[g5],?_,?_,?_⟩
 ·rintro m t ⟨I,rfl,hm,aA,f1,cq,aR⟩;have ts:=q.ag.wG q.cap (i:=m) (by rw[dy];exact hm);have Z9:=(q.to hm).ag.cell;cases m with
  |zero=>
   have e:strip l=[]:=by rw[aA];rfl
   have av:¬((0:Int)<((0:Nat):Int)):=by omega
   have E2:(((0:Nat):Int)=0):=rfl
   have ar:r5 v l=nd v 0:=by unfold r5;rw[e];rfl
   have atr:r2 1 v none (some (.ad 0)) none=some (nd v 0):=ts;rw[ar,e];simp only[go_sem,seval,f1,cq,aR,av,E2,bj,a8,wy,nh,Bi,oV,atr,Wm _ _ _ _ Z9,OT,Bh,List.isEmpty_nil]
  |succ m=>
   obtain⟨x,ab⟩:=bI (l:=l) (i:=m) (by omega);have av:(0:Int)<((m+1:Nat):Int):=by omega
   have E2:¬(((m+1:Nat):Int)=0):=by omega
   have b5:b8 .i64 (((m+1:Nat):Int) -1)=(m:Int):=by rw[gz (by omega) (by omega)];omega
   have bJ:=q.ag.addr (i:=m) (by rw[dy];omega);by_cases jl:x=0
   ·subst jl;simp only[go_sem,seval,f1,cq,aR,av,bj,nh,oV,b5,bJ,q.ag.bM (jr ab)];refine⟨m,by omega,_,rfl,by omega,?_,?_,?_,?_⟩
    ·rw[aA,nq ab,Zn]
    all_goals simp only[go_sem,seval,f1,cq]
   ·have e:strip l=l.take (m+1):=by rw[aA,nq ab,Zo _ _ jl]
    have hlen:(strip l).length=m+1:=by rw[e,el];omega
    have ar:r5 v l=nd v (m+1):=by unfold r5;rw[hlen]
    have bV:(strip l).isEmpty=false:=by
     cases aM:strip l with
     |nil=>rw[aM]at hlen;cases hlen
     |cons _ _=>rfl
    have ayy:¬((x:Int)=0):=by omega
    rw[ar,bV];simp only[go_sem,seval,f1,cq,aR,av,E2,bj,a8,b5,bJ,q.ag.bM (jr ab),ayy,wy,nh,Bi,oV,ts,Wm _ _ _ _ Z9,OT,Bh]
 all_goals simp only[go_sem,seval]
def wz(x y:Nat):Int:=if x<y then-1 else if y<x then 1 else 0
theorem amq{x y:Nat}(h:x<y):wz x y=-1:=by unfold wz;rw[bl h]
theorem amr{x y:Nat}(h:y<x):wz x y=1:=by unfold wz;rw[bf (by omega),bl h]
theorem aGL(x:Nat):wz x x=0:=by unfold wz;rw[bf (by omega),bf (by omega)]
theorem aI3(x y:Nat):decide (wz x y<0)=decide (x<y):=by
 rw[ov];unfold wz;split
 ·simp_all
 ·split<;>simp_all
theorem aGM(x y:Nat):decide (wz x y<=0)=decide (x<=y):=by
 rw[ov];unfold wz;split
 ·simp_all;omega
 ·split
  ·simp_all
  ·simp_all
theorem ajP{v w:V}{l m:List Nat}[bP:aK a](p:gP a v l)(q:gP a w m)(cl:d3.Can bw l)(lb:d3.Can bw m)(au:l.length<1000000000):aS J a 517 [v,w] (.ad (wz (val bw l) (val bw m))):=by
 refine aS.bE ak.aiS rfl fun h ca g=>?_;have xd:1<bw:=by rw[u7];omega
 by_cases qX:l.length=m.length
 ·have sI:((l.length:Nat):Int)=((m.length:Nat):Int):=by omega
  have fq:b8 .i64 (((m.length:Nat):Int) -1)=((m.length:Nat):Int) -1:=gz (by omega) (by omega)
  simp only[OB,go_sem,seval,p.ag.a2,q.ag.a2,dy,sI,fq,ne_eq,BQ];refine lU (fun k t=>∃I,t=⟨I,[],h⟩/\k<=m.length/\l.drop k=m.drop k/\I.gt 0=v/\I.gt 1=w/\I.gt 5=.ad ((k:Int) -1)) ?_ (m:=m.length) ⟨_,rfl,a1 _,by rw[fp,Eo (by omega)],?_,?_,?_⟩
  ·rintro k t ⟨I,rfl,hk,a3,bq,f1,bu⟩;cases k with
   |zero=>
    have:l=m:=a3;subst this;have bu:I.gt 5=.ad (-1):=bu;have av:¬((0:Int)<=-1):=by decide
    rw[aGL];simp only[go_sem,seval,bq,f1,bu,av]
   |succ k=>
    have aN:(((k+1:Nat):Int) -1)=(k:Int):=by omega
    rw[aN]at bu;have av:(0:Int)<=(k:Int):=by omega
    obtain⟨x,ab⟩:=bI (l:=l) (i:=k) (by omega);obtain⟨y,ax⟩:=bI (l:=m) (i:=k) (by omega);have bJ:=p.ag.addr (i:=k) (by rw[dy];omega);have g8:=q.ag.addr (i:=k) (by rw[dy];omega);by_cases fJ:x<y
    ·have px:((x:Int)<(y:Int)):=by omega
     rw[amq (QD cl.1 ab ax a3 fJ)];simp only[go_sem,seval,bq,f1,bu,av,bJ,g8,p.ag.bM (jr ab),q.ag.bM (jr ax),px]
    ·have px:¬((x:Int)<(y:Int)):=by omega
     by_cases AZ:y<x
     ·have Wn:((y:Int)<(x:Int)):=by omega
      rw[amr (QD lb.1 ax ab a3.symm AZ)];simp only[go_sem,seval,bq,f1,bu,av,bJ,g8,p.ag.bM (jr ab),q.ag.bM (jr ax),px,Wn]
     ·have Wn:¬((y:Int)<(x:Int)):=by omega
      have ats:x=y:=by omega
      have b5:b8 .i64 ((k:Int) -1)=(k:Int) -1:=gz (by omega) (by omega)
      simp only[go_sem,seval,bq,f1,bu,av,bJ,g8,p.ag.bM (jr ab),q.ag.bM (jr ax),px,Wn,b5];refine⟨k,by omega,_,rfl,by omega,by rw[en ab,en ax,a3,ats],?_,?_,?_⟩
      all_goals simp only[go_sem,seval,bq,f1]
  all_goals simp only[go_sem,seval]
 ·have sI:¬((l.length:Nat):Int)=((m.length:Nat):Int):=by omega
  by_cases h1:l.length<m.length
  ·have rL:((l.length:Nat):Int)<((m.length:Nat):Int):=by omega
   rw[amq (d3.Can.Lg xd cl lb h1)];simp only[OB,go_sem,seval,p.ag.a2,q.ag.a2,dy,sI,rL,ne_eq,BR]
  ·have rL:¬((l.length:Nat):Int)<((m.length:Nat):Int):=by omega
   rw[amr (d3.Can.Lg xd lb cl (by omega))];simp only[OB,go_sem,seval,p.ag.a2,q.ag.a2,dy,sI,rL,ne_eq,BR]
def jj(n:Nat)(v:V)(h:H):Prop:=∃l,gP h v l/\d3.Can bw l/\val bw l=n
theorem jj.aO{h aa:H}{n:Nat}{v:V}(m:jj n v h)[aK h][aj h aa]:jj n v aa:=let⟨l,q,c,x⟩:=m;⟨l,q.aO,c,x⟩
theorem apk(B:Nat)(m:List Nat)(i:Nat):val B (m.take (i+1))=val B (m.take i)+B^i*((m[i]?).getD 0):=by
 by_cases ai:i<m.length
 ·obtain⟨x,ab⟩:=bI ai;rw[nq ab,zX,el,nl (by omega),ab];simp[val]
 ·rw[ei (by omega),kM (by omega),kM (by omega)];simp
theorem aKh(B:Nat){tA EV c6 P d y kS x zd:Nat}(h:tA+EV=c6+kS*P)(e:d+y+kS=x+B*zd):(tA+P*d)+(EV+P*y)=(c6+P*x)+zd*(P*B):=by
 have bA:=lP (P*·) e;simp only[mT]at bA;have aN:zd*(P*B)=P*(B*zd):=by rw[js zd,oq]
 have bd:kS*P=P*kS:=js _ _;rw[aN];rw[bd]at h;omega
theorem aI4{tA EV c6 kS P:Nat}(h:tA+EV=c6+kS*P)(a6:tA<P)(hm:EV<=c6)(ah:kS<=1):tA=c6-EV:=by
 rcases dz kS 1 with q|q
 ·have:kS=0:=by omega
  subst this;omega
 ·have:kS=1:=by omega
  subst this;omega
theorem Gk(ty:TypeId)(x:Int):g6 ty 1 1 [.ad 0] [(0,1,.ad x)]=some (.af [.ad x] ty,fun f=>.ag f 0 0 1 1 (some 1)):=rfl
theorem Gl{w:V}(hw:w.cells=[w]):jQ [.bool false,.al] [(1,1,w)]=some (.agg [.bool false,w]):=by
 simp only[jQ,oU,hw];rfl
theorem aBA{w:V}(hw:w.cells=[w])(b:Bool):jQ [.bool false,.al] [(0,1,.bool b),(1,1,w)]=some (.agg [.bool b,w]):=by
 simp only[jQ,oU,hw];rfl
theorem Hq{l m:List Nat}(cl:fA bw l)(lb:d3.Can bw m)(h:val bw m<=val bw l):m.length<=l.length:=by
 have h1:=sa cl;by_cases hm:m=[]
 ·subst hm;simp
 ·have ae:=lb.ge hm;rcases dz l.length m.length with q|q
  ·have:bw^l.length<=bw^(m.length-1):=vk wT (by omega);omega
  ·exact q
theorem gP.own{ty b:Nat}{h:H}{v:V}{l:List Nat}(o:bD ty 1 b h v (dY .i64 l))(au:fA bw l):gP h v l:=⟨o.ag,o.cap,au⟩
theorem ajQ{v w:V}{l m:List Nat}[bP:aK a](p:gP a v l)(q:gP a w m)(lb:d3.Can bw m)(au:l.length<1000000)(hm:m.length<1000000)(ar:val bw m<=val bw l):cJ J a 428 [v,w] (fun w' h=>jj (val bw l-val bw m) w' h/\l1 (aH a.next) w'):=by
 refine cJ.bE ak.aiD rfl fun h ca g=>?_;have xd:=u7;have ko:=Hq p.lim lb ar;simp only[aiC,go_sem,seval];refine dK l.length (fun i t=>∃I h1 o out kS,t=⟨I,[],h1⟩/\aj h h1/\bD 3 1 (aH h.next) h1 o (dY .i64 out)/\out.length=i/\fA bw out/\kS<=1/\val bw out+val bw (m.take i)=val bw (l.take i)+kS*bw^i/\
  I.gt 0=v/\I.gt 1=w/\I.gt 5=o/\I.gt 6=.ad (kS:Nat)/\I.gt 7=.ad (i:Nat)) ?_ ?_ (dk _) ⟨_,h,.al,[],0,rfl,an,.nil _ _ _ _,rfl,(fun x ab=>by cases ab),dk _,by simp[val],?_,?_,?_,?_,?_⟩
 ·rintro i t ai ⟨I,h1,o,out,kS,rfl,aB,dt,a6,vu,ah,sX,bq,f1,bu,cj,cH⟩;have bW:=aB.bx;have dx:aj a h1:=g.aG aB;obtain⟨x,ab⟩:=bI ai;have Tu:=p.lim x (c0 ab);have ay:((i:Int)<(l.length:Int)):=by omega
  have bJ:=p.ag.addr (i:=i) (by rw[dy];exact ai);have cl:=ajO (J:=J) q.ag (by omega) i;have att:(m[i]?).getD 0<bw:=by
   cases aM:m[i]? with
   |none=>rw[Option.getD_none];omega
   |some y=>exact q.lim y (c0 aM)
  have hz:=apk bw m i;have j6:=apk bw l i;rw[ab,hC]at j6;generalize (m[i]?).getD 0=y at cl att hz;have b5:b8 .i64 ((x:Int) -(y:Int))=(x:Int) -(y:Int):=gz (by omega) (by omega)
  have d7:b8 .i64 ((x:Int) -(y:Int) -(kS:Int))=(x:Int) -(y:Int) -(kS:Int):=gz (by omega) (by omega)
  have step:∀(d zd:Nat),d+y+kS=x+bw*zd->d<bw->∀bo:H,aK bo->aj h1 bo->(∃cu cb,pt (bo.new (.af [.ad (d:Nat)] 3)) 3 1 8 o (.ag bo.next 0 0 1 1 (some 1))=some (cu,cb)/\aj h cb/\bD 3 1 (aH h.next) cb cu (dY .i64 (out++[d]))/\val bw (out++[d])+val bw (m.take (i+1))=val bw (l.take (i+1))+zd*bw^(i+1)/\fA bw (out++[d])):=by
   intro d zd e a3 bo mE eE;have s1:bB (bo.new (.af [.ad (d:Nat)] 3)) (.ag bo.next 0 0 1 1 (some 1)) 1 (dY .i64 [d]):=nY (l:=[d]) ef _;have y7:aj h bo:=aB.aG eE;obtain⟨cu,cb,eY,g9,et⟩:=uh (bytes:=8) ((dt.aO eE).aO (aa:=bo.new (.af [.ad (d:Nat)] 3)) an) s1 (by rw[fF,gu];have:=y7.g.next;omega) (by simp only[dy,eG,eJ];omega) (by simp only[dy,eG,eJ];omega)
   refine⟨cu,cb,eY,et.aO h (a1 _),?_,?_,Xh vu a3⟩
   ·have:dY .i64 out++dY .i64 [d]=dY .i64 (out++[d]):=by simp[dY]
    rwa[this]at g9
   ·rw[zX,a6,hz,j6,pK];have:=aKh bw (P:=bw^i) sX e;simpa[val]using this
  by_cases a3:y+kS<=x
  ·have tP:¬((x:Int) -(y:Int) -(kS:Int)<0):=by omega
   have adn:(x:Int) -(y:Int) -(kS:Int)=((x-y-kS:Nat):Int):=by omega
   rw[adn]at d7 tP;obtain⟨cu,cb,eY,eg,g9,lg,Rs⟩:=step (x-y-kS) 0 (by omega) (by omega) (cg cl h1 an) an an;simp only[go_sem,seval,bq,f1,bu,cj,cH,ay,p.ag.a2,dy,bJ,p.ag.bM (jr ab),cl.bL,b5,adn,d7,tP,Gk,eY,cG (show i<9223372036854775807 by omega)];refine⟨_,cb,cu,_,0,rfl,eg,g9,by rw[fi,a6];rfl,Rs,by omega,lg,?_,?_,?_,?_,?_⟩
   all_goals simp only[go_sem,seval,bq,f1]
   all_goals rfl
  ·have tP:((x:Int) -(y:Int) -(kS:Int)<0):=by omega
   have jW:b8 .i64 ((x:Int) -(y:Int) -(kS:Int)+10000)=((x+bw-y-kS:Nat):Int):=by rw[gz (by omega) (by omega)];omega
   obtain⟨cu,cb,eY,eg,g9,lg,Rs⟩:=step (x+bw-y-kS) 1 (by omega) (by omega) (cg cl h1 an) an an;simp only[go_sem,seval,bq,f1,bu,cj,cH,ay,p.ag.a2,dy,bJ,p.ag.bM (jr ab),cl.bL,b5,d7,tP,jW,Gk,eY,cG (show i<9223372036854775807 by omega)];refine⟨_,cb,cu,_,1,rfl,eg,g9,by rw[fi,a6];rfl,Rs,by omega,lg,?_,?_,?_,?_,?_⟩
   all_goals simp only[go_sem,seval,bq,f1]
   all_goals rfl
 ·rintro t ⟨I,h1,o,out,kS,rfl,aB,dt,a6,vu,ah,sX,bq,f1,bu,cj,cH⟩;have bW:=aB.bx;have dx:aj a h1:=g.aG aB;have ay:¬((l.length:Int)<(l.length:Int)):=by omega
  rw[g5,kM ko]at sX;have ado:=sa vu;rw[a6]at ado;have Wo:=aI4 sX ado ar ah;have pX:=gP.own dt vu;have gO:=Bj (J:=J) pX (by omega) false;simp only[go_sem,seval,bq,f1,bu,cj,cH,ay,p.ag.a2,dy,Gl dt.ag.cell,gO.cl];exact⟨⟨_,pX.trim.aO,yj vu,by rw[yi];exact Wo⟩,Qw (dt.rt.mono g.g.next) out⟩
 all_goals simp only[go_sem,seval]
 all_goals rfl
theorem ayz[bP:aK a]{v w:V}{l m:List Nat}(dd:gP a v l)(d6:gP a w m){aJ:H}[ca:aK aJ][eZ:aj a aJ]{bU bC b0 f:P}{pX vx:Bool}{O:List Nat}{N i x:Nat}{I:Fr}{k:c4}
  (Dc:l[i]?=some x) (vt:i+m.length+1<=N) (aq6:N<1000000000) (hO:O.length=N) (m0:fA bw O) (ar:val bw O+x*bw^i*val bw m<bw^(i+(m.length+1)))
  (_:dp bU f) (_:dp bC f) (_:dp b0 f) (_:eC f a)
  (bd:aJ.get bU=some (.af [.bool pX,v] 304)) (bO:aJ.get bC=some (.af [.bool vx,w] 304)) (fY:aJ.get b0=some (.af [.bool false,.al] 304)) (ha:aJ.get f=some (.af (d8 .i64 O) 3))
  (cq:I.gt 2=.ptr bU 0 0 2) (aR:I.gt 3=.ptr bC 0 0 2) (bZ:I.gt 4=.ptr b0 0 0 2) (bu:I.gt 5=.ag f 0 0 N 1 (some N)) (cj:I.gt 6=.ad (i:Nat)) (cH:I.gt 7=.ad 0) (cQ:I.gt 8=.ad 0)
  (eu:∀aQ aa tv,aj a aa->aa.get bU=some (.af [.bool pX,v] 304) ->aa.get bC=some (.af [.bool vx,w] 304) ->aa.get b0=some (.af [.bool false,.al] 304) ->aa.get f=some (.af (d8 .i64 tv) 3) ->tv.length=N->fA bw tv->val bw tv=val bw O+x*bw^i*val bw m->
   aQ.gt 2=.ptr bU 0 0 2->aQ.gt 3=.ptr bC 0 0 2->aQ.gt 4=.ptr b0 0 0 2->aQ.gt 5=.ag f 0 0 N 1 (some N) ->aQ.gt 6=.ad (i:Nat) ->k.run J (.exit 2 ⟨aQ,[],aa⟩)):dA J alJ ⟨I,[],aJ⟩ k:=by
 have xd:=u7;have ab:=dd.lim x (c0 Dc);have IM:i<l.length:=by
  rcases dz i l.length with q|q
  ·exact q
  ·rw[ei q]at Dc;cases Dc
 have st:=fun(O:List Nat) (h:H) (i:Nat) (ai:i<O.length) (x:Nat)=>BE (k:=.i64) O 3 h f i ai x;have e1:=fun i ai=>rp f 0 0 N 1 (some N) i ai;simp only[eH,kz]at st e1;unfold alJ;refine lU (fun lx t=>∃I h1 mF c j,t=⟨I,[],h1⟩/\aj a h1/\j<=m.length+1/\lx=m.length+1-j/\h1.get bU=some (.af [.bool pX,v] 304)/\h1.get bC=some (.af [.bool vx,w] 304)/\h1.get b0=some (.af [.bool false,.al] 304)/\h1.get f=some (.af (d8 .i64 mF) 3)/\
  mF.length=N/\fA bw mF/\c<bw/\val bw mF+bw^(i+j)*c=val bw O+x*bw^i*val bw (m.take j)/\
  I.gt 2=.ptr bU 0 0 2/\I.gt 3=.ptr bC 0 0 2/\I.gt 4=.ptr b0 0 0 2/\I.gt 5=.ag f 0 0 N 1 (some N)/\I.gt 6=.ad (i:Nat)/\I.gt 7=.ad (c:Nat)/\I.gt 8=.ad (j:Nat)) ?_ (m:=m.length+1) ⟨I,aJ,O,0,0,rfl,eZ,dk _,rfl,bd,bO,fY,ha,hO,m0,wT,by simp[val],cq,aR,bZ,bu,cj,cH,cQ⟩
 rintro lx t ⟨I,h1,mF,c,j,rfl,aB,a5,rfl,cO,c5,fw,e4,CP,yX,U,JB,cq,aR,bZ,bu,cj,cH,cQ⟩;have bW:=aB.bx;have dD:=aP cO;have gx:=aP c5;have hT:=aP fw;have p5:=aP e4;have sF:j=m.length+1->c=0:=by
  rintro rfl;rw[QF m (by omega)]at JB;generalize bw^(i+(m.length+1))=T at ar JB;rcases nS c with q|q
  ·exact q
  ·have h1:=Nat.le_mul_of_pos_right T q;omega
 by_cases Au:j<m.length\/0<c
 ·have Tq:j<=m.length:=by
   rcases dz j (m.length+1)with q|q
   ·omega
   ·have:=sF (by omega);omega
  obtain⟨v0,CQ⟩:=bI (l:=mF) (i:=i+j) (by omega);have aq8:=yX v0 (c0 CQ);have cl:=ajO (J:=J) ((d6.aO (aa:=h1)).ag) (by omega) j
  rw[show((m[j]?).getD 0)=gI m j from rfl]at cl
  have xw:=BN (B:=bw) wT d6.lim j;have ms:=amY (B:=bw) (i:=i) (k:=j) (a:=x) (o:=gI m j) (c:=c) CQ;have bp:=HC bw m j;generalize MY:gI m j=y at xw cl ms bp;have fJ:x*y<=9999*9999:=Nat.mul_le_mul (by omega) (by omega);generalize bh:x*y=p at fJ ms;have ld:=vg (KU (k:=.i64) CQ) 3 .rw;simp only[eH,kz]at ld;have yt:=fK d6.ag;have EI:=fK dd.ag;have bJ:=dd.ag.addr (i:=i) (by rw[dy];exact IM);have M0:b8 .i64 ((i:Int)+(j:Int))=((i+j:Nat):Int):=by rw[<-se];exact wrap_i64 (by omega)
  have wp:b8 .i64 ((x:Int)*(y:Int))=(p:Int):=by rw[<-bh,<-D9];exact wrap_i64 (by omega)
  have b5:b8 .i64 ((v0:Int)+(p:Int))=((v0+p:Nat):Int):=by rw[<-se];exact wrap_i64 (by omega)
  have d7:b8 .i64 (((v0+p:Nat):Int)+(c:Int))=((v0+p+c:Nat):Int):=by rw[<-se];exact wrap_i64 (by omega)
  have I8:v0+p+c<bw*bw:=by rw[u7]at*;omega
  generalize aq:v0+p+c=n at d7 ms I8;have yY:n%bw<bw:=qv _ wT;have yZ:n/bw<bw:=P9 I8;have gw:=Km .int .i64 n bw wT;have jy:=DH .int .i64 n bw wT;have vA:((bw:Nat):Int)=10000:=rfl
  rw[vA]at gw jy;generalize n%bw=r at gw yY ms;generalize n/bw=q at jy yZ ms;have w7:b8 .i64 (q:Int)=(q:Int):=wrap_i64 (by omega);rw[w7]at jy;have fin:∀aRl:(j<m.length\/0<c),val bw (mF.set (i+j) r)+bw^(i+(j+1))*q=val bw O+x*bw^i*val bw (m.take (j+1)):=fun _=>by rw[ms,JB,bp,mT,qs]
  by_cases atu:j<m.length
  ·have Kx:((j:Int)<(m.length:Int)):=by omega
   simp only[go_sem,seval,cq,aR,bu,cj,cH,cQ,nh,oV,cO,c5,d6.ag.a2,dy,Kx,e1 (i+j) (by omega),e4,ld,bJ,dd.ag.bM (jr Dc),cl.bL,yt,EI,q9,xV,M0,wp,b5,d7,gw,jy,st mF _ (i+j) (by omega),cG (show j<9223372036854775807 by omega)];refine⟨m.length+1-(j+1),by omega,_,_,mF.set (i+j) r,q,j+1,rfl,an,by omega,rfl,by simp only[go_sem,seval,cO],by simp only[go_sem,seval,c5],by simp only[go_sem,seval,fw],jt,by rw[vm];exact CP,yX.set yY,yZ,fin Au,?_,?_,?_,?_,?_,?_,?_⟩
   all_goals simp only[go_sem,seval,cq,aR,bZ,bu,cj]
  ·have Kx:¬((j:Int)<(m.length:Int)):=by omega
   have iw:(0:Int)<(c:Int):=by omega
   simp only[go_sem,seval,cq,aR,bu,cj,cH,cQ,nh,oV,cO,c5,d6.ag.a2,dy,Kx,iw,e1 (i+j) (by omega),e4,ld,bJ,dd.ag.bM (jr Dc),cl.bL,yt,EI,q9,xV,M0,wp,b5,d7,gw,jy,st mF _ (i+j) (by omega),cG (show j<9223372036854775807 by omega)];refine⟨m.length+1-(j+1),by omega,_,_,mF.set (i+j) r,q,j+1,rfl,an,by omega,rfl,by simp only[go_sem,seval,cO],by simp only[go_sem,seval,c5],by simp only[go_sem,seval,fw],jt,by rw[vm];exact CP,yX.set yY,yZ,fin Au,?_,?_,?_,?_,?_,?_,?_⟩
   all_goals simp only[go_sem,seval,cq,aR,bZ,bu,cj]
 ·have atu:¬j<m.length:=fun e=>Au (.inl e);have nD:c=0:=by
   rcases nS c with e|e
   ·exact e
   ·exact absurd (.inr e) Au
  subst nD;have Kx:¬((j:Int)<(m.length:Int)):=by omega
  have iw:¬((0:Int)<((0:Nat):Int)):=by omega
  rw[QF m (by omega),Nat.mul_zero,ud]at JB;have atv:I.gt 7=.ad 0:=cH;have F4:¬((0:Int)<0):=by decide
  simp only[go_sem,seval,aR,atv,cQ,nh,oV,c5,d6.ag.a2,dy,Kx,F4];exact eu _ _ mF aB cO c5 fw e4 CP yX JB (by simp only[go_sem,seval,cq]) (by simp only[go_sem,seval,aR]) (by simp only[go_sem,seval,bZ]) (by simp only[go_sem,seval,bu]) (by simp only[go_sem,seval,cj])
def Ig(b n:Nat)(v:V)(h:H):Prop:=jj n v h/\l1 b v
theorem ayA{v w:V}{l m:List Nat}[bP:aK a](dd:gP a v l)(d6:gP a w m)(iO:l.length<1000000)(iP:m.length<1000000):cJ J a 588 [.agg [.bool false,v],.agg [.bool false,w]] (fun z h=>∃k5,z=.agg [.bool false,k5]/\Ig (aH a.next) (val bw l*val bw m) k5 h):=by
 refine cJ.bE ak.ai0 rfl fun h ca g=>?_;obtain⟨N,vt⟩:∃N,N=l.length+m.length+1:=⟨_,rfl⟩;have h8:=wY 3 1 8 [.ad (.ofNat 0)] N (by omega) (by omega);rw[BX]at h8;have rM:(Int.ofNat 0)=0:=rfl;simp only[rM]at h8;have SA:b8 .i64 ((l.length:Int)+(m.length:Int))=((l.length+m.length:Nat):Int):=by rw[<-se];exact wrap_i64 (by omega)
 have SB:b8 .i64 (((l.length+m.length:Nat):Int)+1)=(N:Int):=by rw[cG (by omega),vt]
 obtain⟨cx,fe⟩:∃cx:H,cx=((h.new (.af [.bool false,v] 304)).new (.af [.bool false,w] 304)).new (.af [.bool false,.al] 304):=⟨_,rfl⟩
 have fo:aK cx:=by rw[fe];exact an
 have b4:aj h cx:=by rw[fe];exact an
 obtain⟨bU,e8⟩:∃bU:P,bU=h.next:=⟨_,rfl⟩
 obtain⟨bC,fW⟩:∃bC:P,bC=(h.new (.af [.bool false,v] 304)).next:=⟨_,rfl⟩
 obtain⟨b0,fB⟩:∃b0:P,b0=((h.new (.af [.bool false,v] 304)).new (.af [.bool false,w] 304)).next:=⟨_,rfl⟩
 have aOd:fQ bU cx:=by rw[e8,fe];exact an
 have Sw:fQ bC cx:=by rw[fW,fe];exact an
 have Sx:fQ b0 cx:=by rw[fB,fe];exact an
 have abZ:eC b0 h:=by rw[fB];exact an
 have a8:cx.get bU=some (.af [.bool false,v] 304):=by rw[fe,e8];simp only[go_sem,seval]
 have cc:cx.get bC=some (.af [.bool false,w] 304):=by rw[fe,fW];simp only[go_sem,seval]
 have dc:cx.get b0=some (.af [.bool false,.al] 304):=by rw[fe,fB];exact ef
 have rv:eC cx.next h:=⟨b4.g.next⟩
 simp only[OE,aDW,go_sem,seval,nh,oV,dd.ag.a2,d6.ag.a2,dy,SA,SB,h8];simp only[<-fB,<-fW];simp only[<-e8];simp only[<-fe];refine dK l.length (fun i t=>∃I h1 O,t=⟨I,[],h1⟩/\aj h h1/\h1.get bU=some (.af [.bool false,v] 304)/\h1.get bC=some (.af [.bool false,w] 304)/\h1.get b0=some (.af [.bool false,.al] 304)/\h1.get cx.next=some (.af (d8 .i64 O) 3)/\
  O.length=N/\fA bw O/\val bw O=val bw (l.take i)*val bw m/\
  I.gt 2=.ptr bU 0 0 2/\I.gt 3=.ptr bC 0 0 2/\I.gt 4=.ptr b0 0 0 2/\I.gt 5=.ag cx.next 0 0 N 1 (some N)/\I.gt 6=.ad (i:Nat)) ?_ ?_ (dk _) ⟨_,_,List.replicate N 0,rfl,b4.aG an,by simp only[go_sem,seval,a8],by simp only[go_sem,seval,cc],by simp only[go_sem,seval,dc],ef,te,fun x ab=>by rw[Lv]at ab;rw[ab.2];exact wT,by rw[LW];simp[val],by simp only[go_sem,seval],by simp only[go_sem,seval],by simp only[go_sem,seval],by simp only[go_sem,seval],by simp only[go_sem,seval]⟩
 ·rintro i t ai ⟨I,h1,O,rfl,aB,cO,c5,fw,e4,hO,m0,ar,cq,aR,bZ,bu,cj⟩;have bW:=aB.bx;have dD:=aP cO;have gx:=aP c5;have hT:=aP fw;have p5:=aP e4;have dx:aj a h1:=g.aG aB;obtain⟨x,ab⟩:=bI ai;have ay:((i:Int)<(l.length:Int)):=by omega
  have key:val bw O+x*bw^i*val bw m=val bw (l.take (i+1))*val bw m:=by
   rw[ar,QT bw ab,eP,js x]
  have hbound:val bw O+x*bw^i*val bw m<bw^(i+(m.length+1)):=by
   rw[key];have h1:=sa (dd.lim.take (i+1));rw[el,nl (by omega)]at h1;have ae:=sa d6.lim;have:=Nat.mul_lt_mul'' h1 ae;rw[<-Nat.pow_add]at this;rwa[show i+(m.length+1)=i+1+m.length by omega]
  simp only[go_sem,seval,cq,cj,ay,cO,nh,oV,dd.ag.a2,dy];have d2:dp bU cx.next:=an
  have nt:dp bC cx.next:=an
  have oy:dp b0 cx.next:=an
  refine ayz (a:=h) (bU:=bU) (bC:=bC) (b0:=b0) (f:=cx.next) (pX:=false) (vx:=false) (O:=O) (N:=N) (i:=i) (x:=x) (dd.aO (aa:=h)) (d6.aO (aa:=h)) ab (by omega) (by omega) hO m0 hbound d2 nt oy rv cO c5 fw e4 (by simp only[go_sem,seval,cq]) (by simp only[go_sem,seval,aR]) (by simp only[go_sem,seval,bZ]) (by simp only[go_sem,seval,bu]) (by simp only[go_sem,seval,cj]) (by simp only[go_sem,seval]) (by simp only[go_sem,seval]) ?_;intro aQ aa tv bR dX e3 j1 hp SC SD kF FO AG tO I9 JC;simp only[go_sem,seval,JC,cG (show i<9223372036854775807 by omega)];exact⟨_,_,tv,rfl,bR,dX,e3,j1,hp,SC,SD,by rw[kF,key],by simp only[go_sem,seval,FO],by simp only[go_sem,seval,AG],by simp only[go_sem,seval,tO],by simp only[go_sem,seval,I9],by simp only[go_sem,seval]⟩
 ·rintro t ⟨I,h1,O,rfl,aB,cO,c5,fw,e4,hO,m0,ar,cq,aR,bZ,bu,cj⟩;have bW:=aB.bx;have dD:=aP cO;have gx:=aP c5;have hT:=aP fw;have p5:=aP e4;have ay:¬((l.length:Int)<(l.length:Int)):=by omega
  rw[g5]at ar;have ag:=nY e4 (some N);rw[hO]at ag;have gO:=Bj (J:=J) (a:=h1) (v:=.ag cx.next 0 0 N 1 (some N)) (l:=O) ⟨ag,a1 _,m0⟩ (by omega) false;have fb:jQ [.bool false,.al] [(0,1,.bool false),(1,1,.ag cx.next 0 0 N 1 (some N))]=some (.agg [.bool false,.ag cx.next 0 0 N 1 (some N)]):=rfl;have dx:aj a h1:=g.aG aB;have lh:∀(h:H) (f:P),fz (some (.af [.bool false,.al] 304)) h f 2 0 0 2 (.agg [.bool false,r5 (.ag cx.next 0 0 N 1 (some N)) O])=some (.bk [],h.set f (.af [.bool false,r5 (.ag cx.next 0 0 N 1 (some N)) O] 304)):=fun h f=>Bh _ _ _ _ rfl h f;rw[mg]at gO;have oy:dp b0 cx.next:=an
  have MX:dp cx.next b0:=an
  simp only[go_sem,seval,cq,aR,bZ,bu,cj,ay,cO,c5,fw,wy,nh,Bi,Xl,oV,dd.ag.a2,dy,fb,gO.cl,lh,bQ];have I7:((cg gO h1 an).set b0 (.af [.bool false,r5 (.ag cx.next 0 0 N 1 (some N)) O] 304)).get cx.next=some (.af (d8 .i64 O) 3):=by rw[GN,bQ];exact e4
  have AF:=nY I7 (some N);rw[hO]at AF;have pX:gP ((cg gO h1 an).set b0 (.af [.bool false,r5 (.ag cx.next 0 0 N 1 (some N)) O] 304)) (.ag cx.next 0 0 N 1 (some N)) O:=⟨AF,a1 _,m0⟩
  exact⟨_,rfl,⟨strip O,pX.trim,yj m0,by rw[yi];exact ar⟩,Qw (v:=.ag cx.next 0 0 N 1 (some N)) (iK g.g.next b4.g.next) _⟩
theorem Wp{v:V}{l:List Nat}[bP:aK a](dd:gP a v l)(iO:l.length<1000000){d:Nat}(a3:d<bw):cJ J a 518 [v,.ad (d:Nat)] (Ig (aH a.next) (val bw l*d)):=by
 refine cJ.bE ak.aiU rfl fun h ca g=>?_;have e0:aj a (h.new (.af [.ad (d:Nat)] 3)):=an;have s1:bB (h.new (.af [.ad (d:Nat)] 3)) (.ag h.next 0 0 1 1 (some 1)) 1 (dY .i64 [d]):=nY (l:=[d]) ef _;have d6:gP (h.new (.af [.ad (d:Nat)] 3)) (.ag h.next 0 0 1 1 (some 1)) [d]:=⟨s1,a1 _,fun x ab=>by simp at ab;subst ab;exact a3⟩;have bc:=ayA (J:=J) (dd.aO (aa:=h.new (.af [.ad (d:Nat)] 3))) d6 iO (by simp);have bU:jQ [.bool false,.al] [(1,1,.ag h.next 0 0 1 1 (some 1))]=some (.agg [.bool false,.ag h.next 0 0 1 1 (some 1)]):=rfl;simp only[aiT,go_sem,seval,Gl dd.ag.cell,Gk,bU];refine bc.run fun z ae aY c3 r=>?_;obtain⟨k5,rfl,fN,rt⟩:=r;have ey:aj h ae:=aj.aG (b:=h.new (.af [.ad (d:Nat)] 3)) an aY;obtain⟨w9,n1,hU,mX⟩:=fN;have aMP:∀z:V,True:=fun _=>trivial;simp only[go_sem,seval];refine⟨⟨w9,n1,hU,by rw[mX];simp[val]⟩,rt.mono ?_⟩;exact e0.g.next
end
end Go.ao
