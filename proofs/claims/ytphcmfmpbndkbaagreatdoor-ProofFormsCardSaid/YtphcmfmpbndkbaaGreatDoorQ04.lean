/- A part of the proof that ProofForms holds for every input. -/
import Derived.Test.YtphcmfmpbndkbaaGreatDoorQ03
set_option maxRecDepth 100000
set_option maxHeartbeats 4000000
set_option linter.all false
noncomputable section
namespace Go.ao
abbrev nW:=@Nat.lt_irrefl
class aK(h:H):Prop where ok:h.ok
class aj(a b:H):Prop where g:iI a b
class fQ(f:P)(h:H):Prop where lt:aH f<aH h.next
instance aj.akH{h:H}[k:aK h]:aj h h:=⟨.refl k.ok⟩
instance aj.J9{a h:H}{o:O}[g:aj a h]:aj a (h.new o):=⟨g.g.new o⟩
instance aK.J9{h:H}{o:O}[k:aK h]:aK (h.new o):=⟨k.ok.new o⟩
instance fQ.next'{h:H}{o:O}:fQ h.next (h.new o):=⟨by rw[fF,gu];omega⟩
instance fQ.J9{f:P}{h:H}{o:O}[i:fQ f h]:fQ f (h.new o):=⟨by rw[fF,gu];have:=i.lt;omega⟩
theorem aj.bx{a b:H}(g:aj a b):aK b:=⟨g.g.ok⟩
theorem aj.aG{a b c:H}(g:aj a b)(k:aj b c):aj a c:=⟨g.g.trans k.g⟩
theorem fQ.up{f:P}{h aa:H}(i:fQ f h)(g:aj h aa):fQ f aa:=⟨oW i.lt g.g.next⟩
def gp(J:Prog)(a:H)(f:V)(args:List V)(v:V):Prop:=∀h,aj a h->∃aa,xu J f args h v aa/\iI h aa
abbrev aS(J:Prog)(a:H)(g:FuncId)(args:List V)(v:V):Prop:=gp J a (.fn (.func g) [] []) args v
def cg{J:Prog}{a:H}{f:V}{args:List V}{v:V}(c:gp J a f args v)(h:H)(i:aj a h):H:=Classical.choose (c h i)
section
variable {J:Prog}{a:H}{f:V}{g:FuncId}{args:List V}{v:V}
theorem akI(c:gp J a f args v)(h:H)(i:aj a h):xu J f args h v (cg c h i):=(P4 (c h i)).1
theorem DU(c:gp J a f args v)(h:H)(i:aj a h):iI h (cg c h i):=(P4 (c h i)).2
instance aj.rH{c:gp J a f args v}{b h:H}{i:aj a h}[k:aj b h]:aj b (cg c h i):=⟨k.g.trans (DU c h i)⟩
instance aK.rH{c:gp J a f args v}{h:H}{i:aj a h}:aK (cg c h i):=⟨(DU c h i).ok⟩
instance fQ.rH{c:gp J a f args v}{p:P}{h:H}{i:aj a h}[k:fQ p h]:fQ p (cg c h i):=⟨oW k.lt (DU c h i).next⟩
theorem gp.mono{b:H}(c:gp J a f args v)(k:aj a b):gp J b f args v:=fun h i=>c h (k.aG i)
theorem aS.mk(aA:∀h,J.spec g args h=none){F:F}(dw:J.funcs g=some F)(hle:Nat.ble args.length F.n=true)
  (hw:∀h,[aK h] ->[aj a h] ->dA J F.body ⟨kZ args 0 Fr.e,[],h⟩ (.ret F.res fun w aa=>w=v/\aj h aa)):aS J a g args v:=fun h i=>by
 have:aK h:=i.bx;obtain⟨dg,aa,t,e,kB⟩:=(ya (aA h) dw hle (hw h)).to;subst e;exact⟨aa,t.val,kB.g⟩
theorem gp.mk{c:V}{cs:List V}(aA:∀h,J.spec g (args++c::cs) h=none){F:F}(dw:J.funcs g=some F)(hle:Nat.ble (args++c::cs).length F.n=true)
  (hw:∀h,[aK h] ->[aj a h] ->dA J F.body ⟨kZ (args++c::cs) 0 Fr.e,[],h⟩ (.ret F.res fun w aa=>w=v/\aj h aa)):gp J a (.fn (.func g) [] (c::cs)) args v:=fun h i=>by
 have:aK h:=i.bx;obtain⟨dg,aa,t,e,kB⟩:=(ya (aA h) dw hle (hw h)).to;subst e;exact⟨aa,t.CJ,kB.g⟩
variable {I:Fr}{ds:dB}{k:c4}
theorem gp.cl(c:gp J a f args v)(h:H)[i:aj a h](d:Option S)(os:List bH):oL J f args h d os I ds k=fu J os (cX d v I) (cg c h i) ds k:=akI c h i _
theorem gp.bL(c:gp J a f args v)(h:H)[i:aj a h](d:Option S)(b:List Nat)(os:List (bH×List Nat))(n:Nat)(aD:List Rec):tL J f args h d b os n aD I ds k=(kK (cg c h i) b aD=true/\wd J os (n+1) aD (cX d v I) (cg c h i) ds k):=akI c h i _
end
theorem aGh(a b:H)[aj a b]:aj a b↔True:=⟨fun _=>trivial,fun _=>an⟩
class eC(f:P)(a:H):Prop where ge:aH a.next<=aH f
class dp(f g:P):Prop where ne:f≠g
instance eC.next'{a h:H}[g:aj a h]:eC h.next a:=⟨g.g.next⟩
instance dp.fG{f:P}{h:H}[o:fQ f h]:dp f h.next:=⟨fun e=>by subst e;exact absurd o.lt (nW _)⟩
instance dp.b3{f:P}{h:H}[o:fQ f h]:dp h.next f:=⟨fun e=>by subst e;exact absurd o.lt (nW _)⟩
instance fQ.Vp{f r:P}{h:H}{o:O}[i:fQ f h]:fQ f (h.set r o):=⟨i.lt⟩
instance aK.Vp{r:P}{h:H}{o:O}[k:aK h][i:fQ r h]:aK (h.set r o):=⟨k.ok.set i.lt o⟩
instance aj.Vp{a h:H}{r:P}{o:O}[g:aj a h][y:eC r a][i:fQ r h]:aj a (h.set r o):=⟨g.g.set y.ge i.lt o⟩
theorem j9{h:H}{o:O}{f:P}[i:fQ f h]:(h.new o).get f=h.get f:=H.lV h o fun e=>by subst e;exact absurd i.lt (nW _)
theorem ef{h:H}{o:O}:(h.new o).get h.next=some o:=H.vp h o
theorem bQ{J:Prog}{a:H}{x:V}{args:List V}{v:V}(c:gp J a x args v)(h:H)(i:aj a h)(f:P)[o:fQ f h]:(cg c h i).get f=h.get f:=(DU c h i).get f o.lt
theorem jt{h:H}{f:P}{o:O}:(h.set f o).get f=some o:=H.gV h f o
theorem GN{h:H}{f g:P}{o:O}[d:dp f g]:(h.set g o).get f=h.get f:=H.ej h o fun e=>d.ne e.symm
def ec(o:Option O)(b:Bool)(n k off room:Nat):Option V:=match Nat.ble n room with
 |true=>one b (lu (match o with|some o=>o.live k|none=>none) off n)
 |false=>none
theorem aDL(h:H)(b:Bool)(n:Nat)(f:P)(k off room:Nat):vR h b n (.ptr f k off room)=ec (h.get f) b n k off room:=rfl
theorem um(xs:List V)(ty:TypeId)(md:kN)(b:Bool)(n off room:Nat)(aq:n<=room):ec (some (.cells xs 0 0 md ty)) b n 0 off room=one b (range xs off n):=by
 simp only[ec,hD,aq,hX];rfl
def fz(o:Option O)(h:H)(f:P)(n k off room:Nat)(v:V):Option (V×H):=match Nat.beq v.cells.length n&&Nat.ble n room with
 |true=>match(match o with
  |some (.cells xs aZ dead md ty)=>match Nat.beq k aZ&&md.sT&&Nat.ble dead aZ with
   |true=>match mO xs off v.cells with
    |some nB=>some (h.set f (.cells nB aZ aZ .rw ty))
    |none=>none
   |false=>none
  |_=>none)with
  |some h=>some (.bk [],h)
  |none=>none
 |false=>none
theorem aDM(h:H)(n:Nat)(f:P)(k off room:Nat)(v:V):CK h n (.ptr f k off room) v=fz (h.get f) h f n k off room v:=rfl
theorem aGi(x:V)(ty:TypeId)(h:H)(f:P)(room:Nat)(aI:1<=room)(v:V)(ar:v.cells=[v]):fz (some (.cells [x] 0 0 .rw ty)) h f 1 0 0 room v=some (.bk [],h.set f (.cells [v] 0 0 .rw ty)):=by
 simp only[fz,ar,hD,aI,hX];rfl
theorem bB.aO{h aa:H}{v:V}{es:Nat}{aV:List (List V)}(s:bB h v es aV)(hk:h.ok)(g:aj h aa):bB aa v es aV:=s.t3 hk g.g
def Sf(v:V)(es i j n:Nat):V:=match v with|.ag f k off _ _ _=>.ptr f k (off+i*es+j) n|_=>.kt
theorem bB.er{h:H}{v:V}{es:Nat}{aV:List (List V)}(s:bB h v es aV){i:Nat}(ai:i<aV.length){j n:Nat}(a5:j+n<=es):hM j n (uN v es i)=some (Sf v es i j n):=by
 obtain⟨au,⟨rfl,rfl⟩|⟨f,k,off,cap,rfl,c⟩⟩:=s
 ·simp at ai
 ·exact anS _ _ _ _ _ _ a5
theorem bB.hn{h:H}{v:V}{es:Nat}{aV:List (List V)}(s:bB h v es aV){i:Nat}{e:List V}(he:aV[i]?=some e){j n:Nat}(a5:j+n<=es)(aa:H)[g:aj h aa][k:aK h](b:Bool):vR aa b n (Sf v es i j n)=one b (some ((e.drop j).take n)):=by
 have gk:=s.aO k.ok g;obtain⟨au,⟨rfl,rfl⟩|⟨f,k,off,cap,rfl,c⟩⟩:=id gk
 ·simp at he
 ·have hle:e.length=es:=au e (c0 he);have:=gk.elem he;simp only[Sf,vR,hD,a1,hX];have ae:lu (live aa f k) (off+i*es+j) n=some ((e.drop j).take n):=by
   cases qQ:live aa f k with
   |none=>rw[qQ]at this;cases this
   |some xs=>
    rw[qQ]at this;have this:range xs (off+i*es) es=some e:=this;show range xs (off+i*es+j) n=_;have ai:i<aV.length:=by
     rcases dz i aV.length with a|a
     ·exact a
     ·rw[ei a]at he;cases he
    rcases aKR this with a|a
    ·rw[Hk a]at this;rw[Hk (by omega)];cases this;rw[Lr,pH,wV,nl (by omega)]
    ·have:n=0:=by omega
     subst this;unfold range;rw[si];simp[wB]
  rw[ae]
theorem bB.bM{h:H}{v:V}{es:Nat}{aV:List (List V)}(s:bB h v es aV){i:Nat}{e:List V}(he:aV[i]?=some e)(aa:H)[g:aj h aa][k:aK h](b:Bool):vR aa b es (uN v es i)=one b (some e):=(s.aO k.ok g).load he b
def T(n:Nat):X:=.t (a0 n)
def iu(n:Nat):X:=.c (.int .i64 (.ofNat n))
def w5(g:Nat):X:=.c (.fn (.func g) [] [])
def b6(d:Nat)(i:d5):bH:=⟨some (a0 d),.pu i,none⟩
def fv(d:Nat)(i:IR):bH:=⟨some (a0 d),.rd i,none⟩
def qL(d:Nat)(i:kg):bH:=⟨some (a0 d),.mk i,none⟩
def vy(d:Nat)(i:g7):bH:=⟨some (a0 d),.wr i,none⟩
def ru(d:Nat)(f:X)(l:List X):bH:=⟨some (a0 d),.call f l,none⟩
def bz(d:Nat)(x:X):bH:=⟨some (a0 d),.pu (.dd x),none⟩
def uw(i:bn):bH:=⟨none,i,none⟩
def nw(s:Nat)(o:bH):bH:=⟨o.dst,o.op,some (a0 s,true)⟩
def k9(s:Nat)(o:bH):bH:=⟨o.dst,o.op,some (a0 s,false)⟩
section
variable {J:Prog}{I:Fr}{h:H}{ds:dB}{k:c4}
theorem av5(n:Nat)(I:Fr):(T n).a7 I=I.get (a0 n):=rfl
theorem aAX(n:Nat)(I:Fr):(iu n).a7 I=.int .i64 (n:Nat):=rfl
theorem aAY(n:Nat)(I:Fr):(w5 n).a7 I=.fn (.func n) [] []:=rfl
theorem aAZ(d:Nat)(i:d5)(os:List bH):fu J (b6 d i::os) I h ds k=IY J (i.f I) (some (a0 d)) os I h ds k:=akC _ _ _
theorem aA0(d:Nat)(i:IR)(os:List bH):fu J (fv d i::os) I h ds k=IY J (i.f I h) (some (a0 d)) os I h ds k:=aAN _ _ _
theorem aA1(d:Nat)(i:kg)(os:List bH):fu J (qL d i::os) I h ds k=MS J (i.f I) (some (a0 d)) os I h ds k:=aAO _ _ _
theorem aA2(d:Nat)(i:g7)(os:List bH):fu J (vy d i::os) I h ds k=Sb J (i.f I h) (some (a0 d)) os I ds k:=akD _ _ _
theorem aA3(d:Nat)(f:X)(l:List X)(os:List bH):fu J (ru d f l::os) I h ds k=oL J (f.a7 I) (hc I l) h (some (a0 d)) os I ds k:=aF3 _ _ _ _
theorem aA4(d:Nat)(x:X)(os:List bH):fu J (bz d x::os) I h ds k=fu J os (I.set (x.a7 I) (a0 d)) h ds k:=akC _ _ _
theorem aA5(i:bn)(os:List bH):fu J (uw i::os) I h ds k=fu J (⟨none,i,none⟩::os) I h ds k:=rfl
theorem aA6(d:Nat)(i:d5)(b:List Nat)(os:List (bH×List Nat))(n:Nat)(aD:List Rec):wd J ((b6 d i,b)::os) n aD I h ds k=IZ J (i.f I) (some (a0 d)) b os n aD I h ds k:=akE _ _ _ _ _ _
theorem aA7(d:Nat)(i:IR)(b:List Nat)(os:List (bH×List Nat))(n:Nat)(aD:List Rec):wd J ((fv d i,b)::os) n aD I h ds k=Sd J (i.f I h) (some (a0 d)) i os n aD I h ds k:=aAP _ _ _ _ _ _
theorem aA8(d:Nat)(i:kg)(b:List Nat)(os:List (bH×List Nat))(n:Nat)(aD:List Rec):wd J ((qL d i,b)::os) n aD I h ds k=MT J (i.f I) (some (a0 d)) os n aD I h ds k:=aAQ _ _ _ _ _ _
theorem aA9(d:Nat)(i:g7)(b:List Nat)(os:List (bH×List Nat))(n:Nat)(aD:List Rec):wd J ((vy d i,b)::os) n aD I h ds k=Se J (i.f I h) (some (a0 d)) b os n aD I ds k:=akF _ _ _ _ _ _
theorem aBa(d:Nat)(f:X)(l:List X)(b:List Nat)(os:List (bH×List Nat))(n:Nat)(aD:List Rec):wd J ((ru d f l,b)::os) n aD I h ds k=tL J (f.a7 I) (hc I l) h (some (a0 d)) b os n aD I ds k:=aF4 _ _ _ _ _ _ _
theorem aBb(d:Nat)(x:X)(b:List Nat)(os:List (bH×List Nat))(n:Nat)(aD:List Rec):wd J ((bz d x,b)::os) n aD I h ds k=IZ J (some (x.a7 I)) (some (a0 d)) b os n aD I h ds k:=akE _ _ _ _ _ _
end
def B8(J:Prog)(g:FuncId)(args:List V)(h:H)(K:V->H->Prop):Prop:=∃n v aa,wX (exec J n) J g args h=some (v,aa)/\K v aa
section
variable {J:Prog}{I:Fr}{h:H}{ds:dB}
theorem PJ{g:FuncId}{args:List V}{K:V->H->Prop}{F:F}(dw:J.funcs g=some F)(hle:Nat.ble args.length F.n=true)(hw:dA J F.body ⟨kZ args 0 Fr.e,[],h⟩ (.ret F.res K)):B8 J g args h K:=by
 obtain⟨n,o,e,aq,q⟩:=hw;have key:wX (exec J n) J g args h=match exec J n F.body ⟨kZ args 0 Fr.e,[],h⟩with
   |.norm s=>leave J F.res s
   |.ret s=>leave J F.res s
   |_=>none:=by
  unfold wX;rw[dw];simp only[hle];rfl
 rw[e]at key;replace q:J7 J F.res K o:=q;cases o<;>simp only[J7]at q<;>first|exact q.elim|skip
 all_goals
  rename_i s;simp only at key;cases au:leave J F.res s with
  |none=>rw[au]at q;exact q.elim
  |some r=>
   rw[au]at q key;exact⟨n,r.1,r.2,key,q⟩
theorem aBc{x:X}{ps:List S}{a b:C}{Q:Out->Prop}{g:FuncId}{first cap:List V}(ab:x.a7 I=.fn (.func g) first cap)
  (hw:B8 J g (first++[.jk h.next]++cap) (h.new (.loop .ready none I ps a b)) fun _ aa=>pz h.next I ds aa≠.no/\Q (pz h.next I ds aa)):wp J (.hp x ps a b) ⟨I,ds,h⟩ Q:=by
 obtain⟨n,v,aa,e,bV,q⟩:=hw;refine⟨n+1,_,?_,bV,q⟩;show Am x ps a b (exec J n) J ⟨I,ds,h⟩=_;unfold Am;simp only[ab];rw[e]
theorem Xe{x:X}{ps:List S}{a b:C}{k:c4}{g:FuncId}{first cap:List V}(ab:x.a7 I=.fn (.func g) first cap)
  (hw:B8 J g (first++[.jk h.next]++cap) (h.new (.loop .ready none I ps a b)) fun _ aa=>pz h.next I ds aa≠.no/\k.run J (pz h.next I ds aa)):dA J (.hp x ps a b) ⟨I,ds,h⟩ k:=aBc ab hw
def u3(l:P)(K:V->H->Prop)(o:Out):Prop:=match o with
 |.norm s=>p2 (endRound l s none) K
 |.ret s=>p2 (endRound l s (some .ret)) K
 |.exit i s=>p2 (endRound l s (some (.exit i))) K
 |_=>False
theorem aDN{l:P}{args:List V}{K:V->H->Prop}{fh:Fr}{ps:List S}{a b:C}{fE:Option o0}(e:h.get l=some (.loop .ready fE fh ps a b))(bh:zV ps args fh=some I)
  (hw:wp J a ⟨I,[],h⟩ fun o=>∃s,o=.norm s/\s.h.get l=some (.loop .ready fE fh ps a b)/\wp J b ⟨s.I,s.ds,s.h.set l (.loop .busy fE fh ps a b)⟩ (u3 l K)):vv J (.jk l) args h K:=by
 obtain⟨n,o,aN,_,s,rfl,bd,m,dD,bO,p3,q⟩:=hw;have h1:exec J (max n m) a ⟨I,[],h⟩=.norm s:=by
  rcases yh J (G4 n m) a ⟨I,[],h⟩with h|h
  ·rw[aN]at h;cases h
  ·rw[<-h,aN]
 have ae:exec J (max n m) b ⟨s.I,s.ds,s.h.set l (.loop .busy fE fh ps a b)⟩=dD:=by
  rcases yh J (G5 n m) b ⟨s.I,s.ds,s.h.set l (.loop .busy fE fh ps a b)⟩with h|h
  ·rw[bO]at h;exact absurd h p3
  ·rw[<-h,bO]
 have key:∀r,(match dD with
     |.norm s=>endRound l s none
     |.ret s=>endRound l s (some .ret)
     |.exit i s=>endRound l s (some (.exit i))
     |.goto i s=>endRound l s (some (.goto i))
     |.no=>none:Option (V×H))=some r->gT (exec J (max n m)) J (.jk l) args h=some r:=fun r aI=>by
  show BG (exec J (max n m)) l args h=some r;unfold BG;rw[e];simp only[bh,h1,bd,ae];exact aI
 cases dD with
 |no=>exact absurd rfl p3
 |goto i s=>exact q.elim
 |norm s=>
  cases aI:endRound l s none with
  |none=>rw[u3,aI]at q;exact q.elim
  |some r=>rw[u3,aI]at q;exact⟨_,r.1,r.2,key r aI,q⟩
 |ret s=>
  cases aI:endRound l s (some .ret)with
  |none=>rw[u3,aI]at q;exact q.elim
  |some r=>rw[u3,aI]at q;exact⟨_,r.1,r.2,key r aI,q⟩
 |exit i s=>
  cases aI:endRound l s (some (.exit i))with
  |none=>rw[u3,aI]at q;exact q.elim
  |some r=>rw[u3,aI]at q;exact⟨_,r.1,r.2,key r aI,q⟩
theorem Ec{l:P}{args:List V}{fh aQ:Fr}{aa:H}{ps:List S}{a b:C}{fE:Option o0}{d:Option S}{os:List bH}{k:c4}{p4:Fr}(e:h.get l=some (.loop .ready fE fh ps a b))(bh:zV ps args fh=some I)
  (bN:dA J a ⟨I,[],h⟩ (.done fun o=>o=.norm ⟨aQ,[],aa⟩)) (cD:aa.get l=some (.loop .ready fE fh ps a b))
  (hw:dA J b ⟨aQ,[],aa.set l (.loop .busy fE fh ps a b)⟩ (.done (u3 l fun v aa=>fu J os (cX d v p4) aa ds k))):oL J (.jk l) args h d os p4 ds k:=
 aDN e bh (bN.mono fun o a6=>⟨_,a6,cD,hw⟩)
theorem aIC{l:P}{K:V->H->Prop}{s:eM}{st:tk}{fE:Option o0}{fh:Fr}{ps:List S}{a b:C}(e:s.h.get l=some (.loop st fE fh ps a b)):u3 l K (.norm s)=K (.bool true) (s.h.set l (.loop .ready none fh ps a b)):=by
 show p2 (endRound l s none) K=_;unfold endRound;rw[e];rfl
theorem aGj{l:P}{K:V->H->Prop}{s:eM}{st:tk}{fE:Option o0}{fh:Fr}{ps:List S}{a b:C}(e:s.h.get l=some (.loop st fE fh ps a b)):u3 l K (.ret s)=K (.bool false) (s.h.set l (.loop .done (some .ret) fh ps a b)):=by
 show p2 (endRound l s (some .ret)) K=_;unfold endRound;rw[e];rfl
theorem EB{l:P}{fh:Fr}{ps:List S}{a b:C}(e:h.get l=some (.loop .ready none fh ps a b)): pz l I ds h=.norm ⟨I,ds,h.set l (.loop .yI none fh ps a b)⟩:=by unfold pz;rw[e]
theorem YZ{l:P}{fh:Fr}{ps:List S}{a b:C}(e:h.get l=some (.loop .done (some .ret) fh ps a b)): pz l I ds h=.ret ⟨I,ds,h.set l (.loop .yI (some .ret) fh ps a b)⟩:=by unfold pz;rw[e]
end
def Iter(J:Prog)(g:FuncId)(first cap:List V)(nZ:H->Prop)(n:Nat)(X:Nat->List V):Prop:=
 ∀(l:P) (bn:Nat->H->Prop) (D:H->Prop) (h:H),(∀i h,bn i h->nZ h/\h.ok) ->(∀i h aa,bn i h->iI h aa->bn i aa) ->(∀h aa,D h->iI h aa->D aa) ->(∀h,D h->h.ok) ->
  (∀i h,i<n->bn i h->∀d os I ds k,(∀v aa,(v=.bool true/\bn (i+1) aa)\/(v=.bool false/\D aa) ->fu J os (cX d v I) aa ds k) ->oL J (.jk l) (X i) h d os I ds k) ->
  bn 0 h->B8 J g (first++[.jk l]++cap) h fun _ aa=>bn n aa\/D aa
def lr:List (P×O) ->H->Prop
 |[],_=>True
 |(f,o)::L,h=>h.get f=some o/\lr L h
theorem lr.up:∀{L:List (P×O)} {h aa:H},h.ok->iI h aa->lr L h->lr L aa
 |[],_,_,_,_,_=>trivial
 |(_,_)::_,_,_,k,g,a=>⟨g.wi k a.1,lr.up k g a.2⟩
theorem B8.mono{J:Prog}{g:FuncId}{args:List V}{h:H}{K z3:V->H->Prop}(a:B8 J g args h K)(hk:∀v h,K v h->z3 v h):B8 J g args h z3:=let⟨n,v,aa,e,q⟩:=a;⟨n,v,aa,e,hk v aa q⟩
theorem x6{l:P}{K:V->H->Prop}{s:eM}{st:tk}{fE:Option o0}{fh:Fr}{ps:List S}{a b:C}(e:s.h.get l=some (.loop st fE fh ps a b))(q:K (.bool true) (s.h.set l (.loop .ready none fh ps a b))):u3 l K (.norm s):=by rw[aIC e];exact q
theorem ug{l:P}{K:V->H->Prop}{s:eM}{st:tk}{fE:Option o0}{fh:Fr}{ps:List S}{a b:C}(e:s.h.get l=some (.loop st fE fh ps a b))(q:K (.bool false) (s.h.set l (.loop .done (some .ret) fh ps a b))):u3 l K (.ret s):=by rw[aGj e];exact q
theorem aP{h:H}[k:aK h]{f:P}{o:O}(e:h.get f=some o):fQ f h:=⟨k.ok.lt e⟩
theorem Le{J:Prog}{α β:Type}{x:X}{ps:List S}{a b:C}{k:c4}{g:FuncId}{cap:List V}{nZ:H->Prop}{n:Nat}{X:Nat->List V}{I:Fr}{ds:dB}{h:H}(it:Iter J g [] cap nZ n X)(ab:x.a7 I=.fn (.func g) [] cap)(av:H)
  (L:Nat->α->List (P×O)) (p:Nat->α->Prop) (B9:β->List (P×O)) (q:β->Prop) (sq:∀i x aa,aj av aa->aK aa->lr (L i x) aa->p i x->nZ aa)
  (init:aj av (h.new (.loop .ready none I ps a b))/\∃ x,lr (L 0 x) (h.new (.loop .ready none I ps a b))/\p 0 x)
  (step:∀i x aa,i<n->aj av aa->aK aa->lr (L i x) aa->p i x->∀d os aQ gG ch,(∀gr,aj av gr->(∃y,lr (L (i+1) y) gr/\p (i+1) y) ->fu J os (cX d (.bool true) aQ) gr gG ch) ->(∀gr,aj av gr->(∃y,lr (B9 y) gr/\q y) ->fu J os (cX d (.bool false) aQ) gr gG ch) ->oL J (.jk h.next) (X i) aa d os aQ gG ch)
  (Vq:∀x aa,aj av aa->aK aa->lr (L n x) aa->p n x->pz h.next I ds aa≠.no/\k.run J (pz h.next I ds aa))
  (Vr:∀y aa,aj av aa->aK aa->lr (B9 y) aa->q y->pz h.next I ds aa≠.no/\k.run J (pz h.next I ds aa)):dA J (.hp x ps a b) ⟨I,ds,h⟩ k:=by
 refine Xe ab ((it h.next (fun i aa=>aj av aa/\∃ x,lr (L i x) aa/\p i x) (fun aa=>aj av aa/\∃y,lr (B9 y) aa/\q y) _ ?_ ?_ ?_ ?_ ?_ init).mono ?_)
 ·rintro i aa ⟨aB,x,jK,oD⟩;exact⟨sq i x aa aB aB.bx jK oD,aB.g.ok⟩
 ·rintro i aa gr ⟨aB,x,jK,oD⟩ aY;exact⟨aB.aG ⟨aY⟩,x,lr.up aB.g.ok aY jK,oD⟩
 ·rintro aa gr ⟨aB,x,jK,oD⟩ aY;exact⟨aB.aG ⟨aY⟩,x,lr.up aB.g.ok aY jK,oD⟩
 ·rintro aa ⟨aB,_⟩;exact aB.g.ok
 ·rintro i aa ai ⟨aB,x,jK,oD⟩ d os aQ gG ch hk;exact step i x aa ai aB aB.bx jK oD d os aQ gG ch (fun gr aY e=>hk _ _ (.inl ⟨rfl,aY,e⟩)) (fun gr aY e=>hk _ _ (.inr ⟨rfl,aY,e⟩))
 ·rintro _ aa (⟨aB,x,jK,oD⟩|⟨aB,y,Q7,Q8⟩)
  ·exact Vq x aa aB aB.bx jK oD
  ·exact Vr y aa aB aB.bx Q7 Q8
abbrev kM:=@List.take_of_length_le
abbrev Yf:=@List.drop_succ_cons
abbrev qy:=@List.append_nil
abbrev eJ:=@List.length_nil
abbrev ju:=@Bool.true_and
def iU(es:Nat)(l:List (List V)):Prop:=∀e∈l,e.length=es
theorem iU.nil{es:Nat}:iU es []:=fun _ h=>by cases h
theorem iU.one{es:Nat}{e:List V}(h:e.length=es):iU es [e]:=fun x ab=>by simp at ab;subst ab;exact h
theorem iU.append{es:Nat}{l m:List (List V)}(h:iU es l)(k:iU es m):iU es (l++m):=fun e he=>(List.mem_append.1 he).elim (h e) (k e)
theorem iU.take{es:Nat}{l:List (List V)}(h:iU es l)(n:Nat):iU es (l.take n):=fun e he=>h e (wO he)
theorem iU.drop{es:Nat}{l:List (List V)}(h:iU es l)(n:Nat):iU es (l.drop n):=fun e he=>h e (wN he)
theorem iU.len{es:Nat}{l:List (List V)}(h:iU es l):l.flatten.length=l.length*es:=Hx h
theorem LV{es:Nat}:∀{l:List (List V)},iU es l->∀i,l.flatten.take (i*es)=(l.take i).flatten
 |[],_,i=>by simp
 |x::l,_,0=>by simp
 |x::l,h,i+1=>by
  have ab:x.length=es:=h x (by simp);have ih:=LV (l:=l) (fun e he=>h e (by simp[he])) i;rw[El,List.take_succ_cons,El,List.take_append,ab,kM (by rw[ab,eP];omega)];have:(i+1)*es-es=i*es:=by rw[eP];omega
  rw[this,ih]
theorem QC{es:Nat}:∀{l:List (List V)},iU es l->∀i,l.flatten.drop (i*es)=(l.drop i).flatten
 |[],_,i=>by simp
 |x::l,_,0=>by simp
 |x::l,h,i+1=>by
  have ab:x.length=es:=h x (by simp);have ih:=QC (l:=l) (fun e he=>h e (by simp[he])) i;rw[El,Yf,List.drop_append,ab,ve (by rw[ab,eP];omega),nR];have:(i+1)*es-es=i*es:=by rw[eP];omega
  rw[this,ih]
theorem zS:∀{xs:List V} {off:Nat} {aF:List V},off+aF.length<=xs.length->mO xs off aF=some (xs.take off++aF++xs.drop (off+aF.length))
 |xs,off,[],h=>by simp[mO]
 |[],off,_::_,h=>by simp at h
 |x::xs,0,v::aF,h=>by
  have:=zS (xs:=xs) (off:=0) (aF:=aF) (by simpa using h);simp only[mO,this];simp[D3]
 |x::xs,n+1,v::aF,h=>by
  have:=zS (xs:=xs) (off:=n) (aF:=v::aF) (by simp at h⊢;omega);simp only[mO,this];have e:n+1+(aF.length+1)=n+(aF.length+1)+1:=by omega
  simp[e]
theorem aDX{es:Nat}{xs:List V}{off:Nat}{l m:List (List V)}{i:Nat}(au:iU es l)(hm:iU es m)(h1:off+l.length*es<=xs.length)(ae:(xs.drop off).take (l.length*es)=l.flatten)(ai:i+m.length<=l.length):
  ((xs.take (off+i*es)++m.flatten++xs.drop (off+i*es+m.flatten.length)).drop off).take (l.length*es)=(l.take i++m++l.drop (i+m.length)).flatten:=by
 have ko:=hm.len;have hmul:i*es+m.length*es<=l.length*es:=by rw[<-eP];exact i0 es ai
 have bA:xs.take (off+i*es)=xs.take off++(xs.drop off).take (i*es):=by rw[List.take_add]
 have aN:(xs.drop off).take (i*es)=(l.take i).flatten:=by
  rw[<-LV au,<-ae,wV,nl (by omega)]
 have bd:(xs.drop (off+i*es+m.flatten.length)).take (l.length*es-(i*es+m.length*es))=(l.drop (i+m.length)).flatten:=by
  have:(i+m.length)*es=i*es+m.length*es:=by rw[eP]
  rw[<-QC au,<-ae,this,Lr,pH,ko];congr 2;omega
 have iR:((l.take i).flatten).length=i*es:=by rw[(au.take i).len,el,nl (by omega)]
 rw[bA,aN,nk,nk,List.drop_append,ve (by simp;omega),nR];have mK:(xs.take off).length=off:=by simp;omega
 rw[mK,sb,iL,<-nk,List.take_append,kM (by rw[fi,iR,ko];omega)];have bO:l.length*es-((l.take i).flatten++m.flatten).length=l.length*es-(i*es+m.length*es):=by
  rw[fi,iR,ko]
 rw[bO,bd,List.flatten_append,List.flatten_append]
def pv(ty es:Nat)(h:H)(f:P)(aZ off:Nat)(cap:Option Nat)(l:List (List V)):Prop:=iU es l/\∃ xs dead,h.get f=some (.cells xs aZ dead .rw ty)/\dead<=aZ/\off%es=0/\off+l.length*es<=xs.length/\(xs.drop off).take (l.length*es)=l.flatten/\
 ∀c,cap=some c->l.length<=c/\off+c*es<=xs.length
def bD(ty es b:Nat)(h:H)(v:V)(l:List (List V)):Prop:=(v=.al/\l=[])\/∃f aZ off cap,v=.ag f aZ off l.length es cap/\b<=aH f/\pv ty es h f aZ off cap l
structure pw(f:P)(h aa:H):Prop where
 ok:aa.ok
 next:aH h.next<=aH aa.next
 get:∀g,aH g<aH h.next->g≠f->aa.get g=h.get g
theorem pw.refl{f:P}{h:H}(hk:h.ok): pw f h h:=⟨hk,a1 _,fun _ _ _=>rfl⟩
theorem pw.trans {f:P}{a b c:H}(g: pw f a b)(k: pw f b c): pw f a c:=⟨k.ok,iK g.next k.next,fun x ab aE=>(k.get x (oW ab g.next) aE).trans (g.get x ab aE)⟩
theorem iI.upto{f:P}{a b:H}(g:iI a b): pw f a b:=⟨g.ok,g.next,fun x ab _=>g.get x ab⟩
theorem pw.t3{f:P}{a b c:H}(g:iI a b)(k: pw f b c)(aE:aH a.next<=aH f):iI a c:=⟨k.ok,iK g.next k.next,fun x ab=>(k.get x (oW ab g.next) (by rintro rfl;omega)).trans (g.get x ab)⟩
section
variable {ty es:Nat}
theorem pv.cells{h:H}{f:P}{aZ off:Nat}{cap:Option Nat}{l:List (List V)}(o: pv ty es h f aZ off cap l): pJ h f aZ off l.flatten:=by
 obtain⟨aI,xs,dead,h1,ae,az,bo,cb,_⟩:=o;exact⟨xs,rm h1 ae (a1 _),by rw[aI.len];exact bo,by rw[aI.len];exact cb⟩
theorem pv.ag{h:H}{f:P}{aZ off:Nat}{cap:Option Nat}{l:List (List V)}(o: pv ty es h f aZ off cap l)(c:Option Nat):bB h (.ag f aZ off l.length es c) es l:=⟨o.1,.inr ⟨f,aZ,off,c,rfl,o.cells⟩⟩
theorem bD.ag{b:Nat}{h:H}{v:V}{l:List (List V)}(o:bD ty es b h v l):bB h v es l:=by
 rcases o with⟨rfl,rfl⟩|⟨f,aZ,off,cap,rfl,_,o⟩
 ·exact⟨by simp,.inl ⟨rfl,rfl⟩⟩
 ·exact o.ag _
theorem pv.lt{h:H}{f:P}{aZ off:Nat}{cap:Option Nat}{l:List (List V)}(o: pv ty es h f aZ off cap l)(hk:h.ok):aH f<aH h.next:=let⟨_,_,_,h1,_⟩:=o;hk.lt h1
theorem pv.wi{h aa:H}{f:P}{aZ off:Nat}{cap:Option Nat}{l:List (List V)}(o: pv ty es h f aZ off cap l)(e:aa.get f=h.get f): pv ty es aa f aZ off cap l:=let⟨r,xs,dead,h1,q⟩:=o;⟨r,xs,dead,by rw[e];exact h1,q⟩
theorem pv.t3{h aa:H}{f:P}{aZ off:Nat}{cap:Option Nat}{l:List (List V)}(o: pv ty es h f aZ off cap l)(hk:h.ok)(g:iI h aa): pv ty es aa f aZ off cap l:=o.wi (g.get f (o.lt hk))
theorem bD.t3{b:Nat}{h aa:H}{v:V}{l:List (List V)}(o:bD ty es b h v l)(hk:h.ok)(g:iI h aa):bD ty es b aa v l:=by
 rcases o with a|⟨f,aZ,off,cap,e,ah,o⟩
 ·exact .inl a
 ·exact .inr ⟨f,aZ,off,cap,e,ah,o.t3 hk g⟩
theorem bD.mono{b b3:Nat}{h:H}{v:V}{l:List (List V)}(o:bD ty es b h v l)(ah:b3<=b):bD ty es b3 h v l:=by
 rcases o with a|⟨f,aZ,off,cap,e,mJ,o⟩
 ·exact .inl a
 ·exact .inr ⟨f,aZ,off,cap,e,iK ah mJ,o⟩
theorem bD.nil(ty es b:Nat)(h:H):bD ty es b h .al []:=.inl ⟨rfl,rfl⟩
theorem aID{h:H}{l:List (List V)}(aI:iU es l)(c:Option Nat)(U:∀n,c=some n->n=l.length): pv ty es (h.new (.cells l.flatten 0 0 .rw ty)) h.next 0 0 c l:=
 ⟨aI,l.flatten,0,H.vp _ _,a1 _,Nat.zero_mod _,by rw[aI.len];omega,by rw[iL,<-aI.len,g5],fun n e=>by have:=U n e;subst this;rw[aI.len];omega⟩
theorem BM{h:H}{l:List (List V)}(aI:iU es l)(c:Option Nat)(U:∀n,c=some n->n=l.length):bD ty es (aH h.next) (h.new (.cells l.flatten 0 0 .rw ty)) (.ag h.next 0 0 l.length es c) l:=
 .inr ⟨h.next,0,0,c,rfl,a1 _,aID aI c U⟩
def ik(v:V)(g:P):Prop:=∃k off n es c,v=.ag g k off n es c
theorem Pl{bytes fb:Nat}{h:H}{a b:V}{l m:List (List V)}(bN:bD ty es fb h a l)(ah:bB h b es m)(hk:h.ok)(rJ:fb<=aH h.next)(hz:l.length+m.length<=1099511627776)(j6:(l.length+m.length)*bytes<=1099511627776):
  ∃v aa,pt h ty es bytes a b=some (v,aa)/\bD ty es fb aa v (l++m)/\aa.ok/\aH h.next<=aH aa.next/\∀g,aH g<aH h.next->¬ik a g->aa.get g=h.get g:=by
 have hm:iU es m:=ah.1;have Oa:uc b=some m.length/\sh h es m.length b=some m.flatten:=by
  obtain⟨au,⟨rfl,e⟩|⟨f,k,off,cap,rfl,c⟩⟩:=ah
  ·subst e;exact⟨rfl,rfl⟩
  ·refine⟨rfl,?_⟩;have:=c.all (n:=m.length*es) (by rw[hm.len]);simp only[sh,hE,hD,a1,hX,nT,this]
 have awg: pt h ty es bytes a b=append h ty es bytes m.length m.flatten a:=by
  unfold pt;rw[Oa.1];simp only;rw[Oa.2]
 rw[awg];rcases nS m.length with vI|vI
 ·have:m=[]:=tb vI;subst this;rcases id bN with⟨rfl,rfl⟩|⟨f,aZ,off,cap,rfl,Sr,o⟩
  ·exact⟨.al,h,rfl,.inl ⟨rfl,rfl⟩,hk,a1 _,fun _ _ _=>rfl⟩
  ·refine⟨_,h,?_,by rw[qy];exact bN,hk,a1 _,fun _ _ _=>rfl⟩;unfold append;simp only[hE,hD,eJ,ud,hX,ju];have aN:decide (l.length<=1099511627776)=true:=by simp;simp at hz;omega
   have bd:decide (l.length*bytes<=1099511627776)=true:=by simp;simp at j6;omega
   rw[aN,bd];rfl
 ·have bV:decide (m.length=0)=false:=by simp;intro e;simp[e]at vI
  have hh:∀(h1:H) (cr:List (List V)),iU es cr->fb<=aH h1.next->bD ty es fb (h1.new (.cells cr.flatten 0 0 .rw ty)) (.ag h1.next 0 0 cr.length es none) cr:=fun h1 cr r c3=>(BM r none (fun _ e=>by cases e)).mono c3
  rcases id bN with⟨rfl,rfl⟩|⟨f,aZ,off,cap,rfl,Sr,o⟩
  ·refine⟨.ag h.next 0 0 m.length es none,h.new (.cells m.flatten 0 0 .rw ty),?_,hh h m hm rJ,hk.new _,by rw[fF,gu];omega,fun g aC _=>H.lV _ _ (by rintro rfl;omega)⟩;unfold append;simp only[hE,hD,bV];simp only[eJ,eH]at hz j6;have aN:decide (m.length<=1099511627776)=true:=by simp;omega
   have bd:decide (m.length*bytes<=1099511627776)=true:=by simp;omega
   rw[aN,bd];rfl
  ·have ay:=o.lt hk;obtain⟨au,xs,dead,bj,a8,cc,dc,dn,dQ⟩:=o;have aN:decide (l.length+m.length<=1099511627776)=true:=by simp;omega
   have bd:decide ((l.length+m.length)*bytes<=1099511627776)=true:=by simp;omega
   have ajd:range xs off (l.length*es)=some l.flatten:=by rw[Hk dc,dn]
   have aq2:append h ty es bytes m.length m.flatten (.ag f aZ off l.length es cap)=match cap with
     |some c=>FY h ty es m.length m.flatten f aZ off l.length c
     |none=>FX h ty es m.length m.flatten f aZ off l.length:=by
    unfold append;simp only[hE,hD,bV,aN,bd,hX,nT];cases cap<;>rfl
   rw[aq2];have Kl:(l++m).flatten=l.flatten++m.flatten:=List.flatten_append;have qX:iU es (l++m):=au.append hm;have vU:=au.len;have ko:=hm.len;have hmul:(l.length+m.length)*es=l.length*es+m.length*es:=eP _ _ _;cases cap with
   |some c=>
    obtain⟨c1,c2⟩:=dQ c rfl;simp only;by_cases kY:l.length+m.length<=c
    ·have CF:(l.length+m.length)*es<=c*es:=i0 es kY;have I4:=zS (xs:=xs) (off:=off+l.length*es) (aF:=m.flatten) (by rw[ko];omega);refine⟨.ag f aZ off (l.length+m.length) es (some c),h.set f (.cells (xs.take (off+l.length*es)++m.flatten++xs.drop (off+l.length*es+m.flatten.length)) aZ aZ .rw ty),?_,.inr ⟨f,aZ,off,some c,by rw[fi],Sr,qX,_,aZ,H.gV _ _ _,a1 _,cc,?_,?_,fun fT e=>?_⟩,hk.set ay _,a1 _,fun g aC aI=>H.ej _ _ ?_⟩
     ·unfold FY;simp only[hD,kY,hX,nj,bj,hE,kN.sT,a8,nT,I4]
     ·rw[fi,hmul];simp only[fi,el,jG,ko];omega
     ·have bA:xs.take (off+l.length*es)=xs.take off++l.flatten:=by rw[List.take_add,dn]
      rw[bA,fi,nk,nk,List.drop_append,ve (by simp;omega),nR];have mK:(xs.take off).length=off:=by simp;omega
      rw[mK,sb,iL,<-nk,<-Kl,List.take_append,kM (by rw[qX.len,fi];omega)];have:(l.length+m.length)*es-(l++m).flatten.length=0:=by rw[qX.len,fi];omega
      rw[this];simp
     ·cases e;rw[fi];simp only[fi,el,jG,ko];omega
     ·rintro rfl;exact aI ⟨_,_,_,_,_,rfl⟩
    ·refine⟨.ag h.next 0 0 (l++m).length es none,h.new (.cells (l++m).flatten 0 0 .rw ty),?_,hh h (l++m) qX rJ,hk.new _,by rw[fF,gu];omega,fun g aC _=>H.lV _ _ (by rintro rfl;omega)⟩;have au:=rm bj a8 (a1 _);unfold FY;simp only[hD,kY,qw,au,lu,ajd];rw[<-Kl,fi]
   |none=>
    simp only;by_cases F8:off+l.length*es=xs.length/\off=0
    ·obtain⟨yQ,tJ⟩:=F8;subst tJ;have ln:xs=l.flatten:=by rw[<-dn,iL,kM (by omega)]
     refine⟨.ag f (aZ+1) 0 (l.length+m.length) es none,h.set f (.cells (xs++m.flatten) (aZ+1) dead .rw ty),?_,.inr ⟨f,aZ+1,0,none,by rw[fi],Sr,qX,_,dead,H.gV _ _ _,by omega,Nat.zero_mod _,?_,?_,fun c e=>by cases e⟩,hk.set ay _,a1 _,fun g aC aI=>H.ej _ _ ?_⟩
     ·unfold FX;rw[bj];simp only[hE,kN.sT,hD,a8,yQ,hX,nT]
     ·rw[ln,<-Kl,qX.len];omega
     ·rw[ln,<-Kl,iL,<-qX.len,g5]
     ·rintro rfl;exact aI ⟨_,_,_,_,_,rfl⟩
    ·have bW:(h.set f (.cells xs aZ (aZ+1) .rw ty)).ok:=hk.set ay _;refine⟨.ag h.next 0 0 (l++m).length es none,(h.set f (.cells xs aZ (aZ+1) .rw ty)).new (.cells (l++m).flatten 0 0 .rw ty),?_,hh (h.set f (.cells xs aZ (aZ+1) .rw ty)) (l++m) qX rJ,bW.new _,by rw[fF,Hf,gu];omega,fun g aC aI=>?_⟩
     ·unfold FX;rw[bj];have aBd:(decide (off+l.length*es=xs.length)&&decide (off=0))=false:=by
       rw[Bool.and_eq_false_iff];by_cases h1:off+l.length*es=xs.length
       ·right;simp;intro ae;exact F8 ⟨h1,ae⟩
       ·left;simp[h1]
      simp only[hE,kN.sT,hD,a8,hX,nT,aBd,Xz,cc,ajd];rw[<-Kl,fi]
     ·rw[H.lV _ _ (by rintro rfl;rw[Hf]at aC;omega),H.ej _ _ (by rintro rfl;exact aI ⟨_,_,_,_,_,rfl⟩)]
theorem anT{h:H}{f:P}{aZ off:Nat}{cap:Option Nat}{l m:List (List V)}{i:Nat}(o: pv ty es h f aZ off cap l)(hm:iU es m)(hk:h.ok)(ai:i+m.length<=l.length):
  ∃aa,nj h f aZ (off+i*es) m.flatten=some aa/\pv ty es aa f aZ off cap (l.take i++m++l.drop (i+m.length))/\pw f h aa:=by
 have ay:=o.lt hk;obtain⟨au,xs,dead,bj,a8,cc,dc,dn,dQ⟩:=o;have ko:=hm.len;have hmul:i*es+m.length*es<=l.length*es:=by rw[<-eP];exact i0 es ai
 have I4:=zS (xs:=xs) (off:=off+i*es) (aF:=m.flatten) (by omega);have hlen:(xs.take (off+i*es)++m.flatten++xs.drop (off+i*es+m.flatten.length)).length=xs.length:=by
  simp only[fi,el,jG];omega
 have nC:(l.take i++m++l.drop (i+m.length)).length=l.length:=by
  simp only[fi,el,jG];omega
 refine⟨h.set f (.cells (xs.take (off+i*es)++m.flatten++xs.drop (off+i*es+m.flatten.length)) aZ aZ .rw ty),?_,⟨((au.take i).append hm).append (au.drop _),_,aZ,H.gV _ _ _,a1 _,cc,?_,?_,fun c e=>?_⟩,⟨hk.set ay _,a1 _,fun g _ aE=>H.ej _ _ fun e=>aE e.symm⟩⟩
 ·unfold nj;rw[bj];simp only[hE,hD,kN.sT,a8,hX,nT,I4]
 ·rw[hlen,nC];exact dc
 ·rw[nC];exact aDX au hm dc dn ai
 ·rw[hlen,nC];exact dQ c e
theorem Zm{h:H}{f:P}{aZ off:Nat}{cap:Option Nat}{l:List (List V)}{i:Nat}(o: pv ty es h f aZ off cap l)(hk:h.ok){v:V}(ar:v.cells.length=es)(ai:i<l.length):
  ∃aa,CK h es (.ptr f aZ (off+i*es) es) v=some (.bk [],aa)/\pv ty es aa f aZ off cap (l.set i v.cells)/\pw f h aa:=by
 obtain⟨aa,e,cu,g⟩:=anT (m:=[v.cells]) (i:=i) o (iU.one ar) hk (by simp;omega);refine⟨aa,?_,?_,g⟩
 ·have cD:nj h f aZ (off+i*es) v.cells=some aa:=by simpa using e
  simp only[CK,hE,hD,ar,a1,hX,nT,cD]
 ·have:l.set i v.cells=l.take i++[v.cells]++l.drop (i+[v.cells].length):=by
   rw[List.set_eq_take_append_cons_drop,bl ai];simp
  rw[this];exact cu
end
abbrev pK:=@Nat.pow_succ
abbrev mT:=@Nat.mul_add
abbrev sc:=@Nat.mul_le_mul_left
abbrev vk:=@Nat.pow_le_pow_right
abbrev Qb:=@Nat.mul_left_comm
abbrev kz:=@Nat.mul_one
abbrev Qc:=@List.getElem?_set_self
abbrev mU:=@List.take_add_one
end Go.ao
namespace Go.ao.d3
def val(B:Nat):List Nat->Nat
 |[]=>0
 |x::l=>x+B*val B l
def strip:List Nat->List Nat
 |[]=>[]
 |x::l=>match strip l with
  |[]=>if x=0 then[]else[x]
  |y::r=>x::y::r
def fA(B:Nat)(l:List Nat):Prop:=∀x∈l,x<B
def Can(B:Nat)(l:List Nat):Prop:=fA B l/\l.getLast?≠some 0
theorem zX(B:Nat):∀l m:List Nat,val B (l++m)=val B l+B^l.length*val B m
 |[],m=>by simp[val]
 |x::l,m=>by
  simp only[zH,val,zX B l m,eG,pK];rw[mT,<-oq,js B (B^l.length),qs]
theorem LW(B:Nat):∀n,val B (List.replicate n 0)=0
 |0=>rfl
 |n+1=>by simp[List.replicate_succ,val,LW B n]
theorem sa{B:Nat}:∀{l:List Nat},fA B l->val B l<B^l.length
 |[],_=>by simp[val]
 |x::l,h=>by
  have h1:x<B:=h x (by simp);have ae:=sa (l:=l) fun y ax=>h y (by simp[ax]);simp only[val,eG,pK];have:B*(val B l+1)<=B*B^l.length:=sc _ ae;rw[mT]at this;rw[js (B^l.length)];omega
theorem fA.take{B:Nat}{l:List Nat}(h:fA B l)(n:Nat):fA B (l.take n):=fun x ab=>h x (wO ab)
theorem fA.drop{B:Nat}{l:List Nat}(h:fA B l)(n:Nat):fA B (l.drop n):=fun x ab=>h x (wN ab)
theorem fA.append{B:Nat}{l m:List Nat}(h:fA B l)(k:fA B m):fA B (l++m):=fun x ab=>(List.mem_append.1 ab).elim (h x) (k x)
theorem L4:∀l:List Nat,∃n,l=strip l++List.replicate n 0
 |[]=>⟨0,rfl⟩
 |x::l=>by
  obtain⟨n,e⟩:=L4 l;unfold strip;cases h:strip l with
  |nil=>
   rw[h]at e;simp only;by_cases ab:x=0
   ·refine⟨n+1,?_⟩;rw[bl ab,ab];simp only[nR]at e⊢;rw[List.replicate_succ,<-e]
   ·refine⟨n,?_⟩;rw[bf ab];simp only[nR]at e;simp only[zH,nR];rw[<-e]
  |cons y r=>
   rw[h]at e;refine⟨n,?_⟩;simp only[zH]at e⊢;rw[<-e]
theorem aoq:∀l:List Nat,(strip l).getLast?≠some 0
 |[]=>by simp[strip]
 |x::l=>by
  have ih:=aoq l;unfold strip;cases h:strip l with
  |nil=>
   simp only;by_cases ab:x=0
   ·simp[ab]
   ·simp[ab]
  |cons y r=>
   rw[h]at ih;simpa[List.getLast?_cons_cons]using ih
theorem yi(B:Nat)(l:List Nat):val B (strip l)=val B l:=by
 obtain⟨n,e⟩:=L4 l;have:val B l=val B (strip l++List.replicate n 0):=by rw[<-e]
 rw[this,zX,LW];simp
theorem yj{B:Nat}{l:List Nat}(h:fA B l):Can B (strip l):=by
 refine⟨fun x ab=>?_,aoq l⟩;obtain⟨n,e⟩:=L4 l;exact h x (by rw[e];simp[ab])
theorem Y0(l:List Nat):(strip l).length<=l.length:=by
 obtain⟨n,e⟩:=L4 l;have:l.length=(strip l++List.replicate n 0).length:=by rw[<-e]
 rw[this,fi];omega
theorem Can.tail{B x:Nat}{l:List Nat}(h:Can B (x::l)):Can B l:=by
 refine⟨fun y ax=>h.1 y (by simp[ax]),fun e=>h.2 ?_⟩;cases l with
 |nil=>simp at e
 |cons y r=>rwa[List.getLast?_cons_cons]
theorem Can.zero{B:Nat}:∀{l:List Nat},Can B l->val B l=0->l=[]
 |[],_,_=>rfl
 |x::l,h,e=>by
  exfalso;have ab:x<B:=h.1 x (by simp);simp only[val]at e;have av:x=0:=by omega
  have h1:B*val B l=0:=by omega
  have ae:val B l=0:=by
   rcases Nat.mul_eq_zero.1 h1 with a|a
   ·omega
   ·exact a
  have:=h.tail.zero ae;subst this;exact h.2 (by simp[av])
theorem Can.ext {B:Nat}:∀{l m:List Nat},Can B l->Can B m->val B l=val B m->l=m
 |[],m,_,k,e=>(k.zero (by rw[<-e];rfl)).symm
 |x::l,[],h,_,e=>h.zero (by rw[e];rfl)
 |x::l,y::m,h,k,e=>by
  have ab:x<B:=h.1 x (by simp);have ax:y<B:=k.1 y (by simp);simp only[val]at e;have aN:x=y:=by
   have h1:=lP (·%B) e;simp only[Nat.add_mul_mod_self_left]at h1;rwa[D8 ab,D8 ax]at h1
  subst aN;have bd:val B l=val B m:=Nat.eq_of_mul_eq_mul_left (show 0<B by omega) (by omega);rw[h.tail.ext k.tail bd]
theorem Can.ge{B:Nat}:∀{l:List Nat},Can B l->l≠[] ->B^(l.length-1)<=val B l
 |[],_,h=>absurd rfl h
 |[x],h,_=>by
  have:x≠0:=fun e=>h.2 (by simp[e]);simp[val];omega
 |x::y::l,h,_=>by
  have ih:=h.tail.ge (by simp);simp only[eG,GH]at ih⊢;simp only[val]at ih⊢;rw[pK,js];have:B*B^l.length<=B*(y+B*val B l):=sc _ ih;omega
theorem Can.Lg{B:Nat}{l m:List Nat}(h2:1<B)(h:Can B l)(k:Can B m)(e:l.length<m.length):val B l<val B m:=by
 have h1:=sa h.1;have hm:m≠[]:=by rintro rfl;simp at e
 have ae:=k.ge hm;have az:B^l.length<=B^(m.length-1):=vk (by omega) (by omega);omega
theorem PQ(B:Nat){l:List Nat}{i x:Nat}(h:l[i]?=some x):val B l=val B (l.take i)+B^i*(x+B*val B (l.drop (i+1))):=by
 have ai:i<l.length:=by
  rcases dz i l.length with a|a
  ·exact a
  ·rw[ei a]at h;cases h
 have e:l=l.take i++x::l.drop (i+1):=by
  rw[hN ai]at h;cases h;rw[List.getElem_cons_drop,zI]
 have bd:val B l=val B (l.take i++x::l.drop (i+1)):=by rw[<-e]
 rw[bd,zX,el,nl (by omega)];rfl
theorem QD{B:Nat}{l m:List Nat}{i x y:Nat}(au:fA B l)(aN:l[i]?=some x)(bd:m[i]?=some y)(a3:l.drop (i+1)=m.drop (i+1))(fJ:x<y):val B l<val B m:=by
 rw[PQ B aN,PQ B bd,a3];have h1:=sa (au.take i);have ai:(l.take i).length<=i:=by simp;omega
 have h2:0<B:=by
  have:x<B:=au x (c0 aN);omega
 have ae:B^(l.take i).length<=B^i:=vk h2 ai;have az:B^i*(x+B*val B (m.drop (i+1)))+B^i<=B^i*(y+B*val B (m.drop (i+1))):=by
  rw[<-Nat.mul_succ];exact sc _ (by omega)
 omega
def dec(s:List Nat):Nat:=s.foldl (fun a c=>10*a+(c-48)) 0
theorem QE:∀(s:List Nat) (a:Nat),s.foldl (fun a c=>10*a+(c-48)) a=a*10^s.length+dec s
 |[],a=>by simp[dec]
 |c::s,a=>by
  have h1:=QE s (10*a+(c-48));have ae:=QE s (10*0+(c-48));simp only[dec,D4]at h1 ae⊢;rw[h1,ae,eG,pK];simp only[eP,Nat.mul_zero,Nat.zero_mul,eH];have:a*(10^s.length*10)=10*a*10^s.length:=by rw[js (10^s.length) 10,<-oq,js a 10]
  omega
theorem QK(s r:List Nat):dec (s++r)=dec s*10^r.length+dec r:=by
 unfold dec;rw[List.foldl_append,QE];rfl
def rl(s:List Nat):Prop:=∀c∈s,48<=c/\c<=57
theorem dec_lt:∀{s:List Nat},rl s->dec s<10^s.length
 |[],_=>by simp[dec]
 |c::s,h=>by
  have h1:=dec_lt (s:=s) fun x ab=>h x (by simp[ab]);have U:=h c (by simp);have:dec (c::s)=(c-48)*10^s.length+dec s:=by
   have:=QE s (10*0+(c-48));simpa[dec]using this
  rw[this,eG,pK];have ae:(c-48)*10^s.length<=9*10^s.length:=i0 _ (by omega);omega
theorem aIE{b r B P top next br dj left:Nat}(ar:P*(top*B+next)<=b)(aI:r<P*((dj*top+left)*B+br+1)) (kG:br<B)
  (aC:left*B+br<dj*next):r<dj*b:=by
 have h1:(dj*top+left)*B+br+1<=dj*(top*B+next):=by
  rw[eP,mT,oq];omega
 have ae:P*((dj*top+left)*B+br+1)<=P*(dj*(top*B+next)):=sc _ h1
 have az:dj*(P*(top*B+next))<=dj*b:=sc _ ar;have bo:P*(dj*(top*B+next))=dj*(P*(top*B+next)):=by rw[<-oq,js P dj,oq]
 omega
theorem amX{b r B P top next br dj left:Nat}(ah:b<P*(top*B+next+1))(aI:P*((dj*top+left)*B+br)<=r) (aM9:dj<B) (aNa:P*B<=b)
  (aC:dj*next<=left*B+br):dj*b<r+b:=by
 have h1:dj*(top*B+next)<=(dj*top+left)*B+br:=by
  rw[eP,mT,oq];omega
 rcases nS dj with av|av
 ·subst av;have:0<b:=by
   rcases nS P with bh|bh
   ·subst bh;simp at ah
   ·have:0<P*B:=Nat.mul_pos bh (by omega);omega
  omega
 ·have ae:dj*b<dj*(P*(top*B+next+1)):=Nat.mul_lt_mul_of_pos_left ah av;have az:dj*(P*(top*B+next+1))=P*(dj*(top*B+next))+P*dj:=by
   rw[Qb,mT,kz,mT]
  have bo:P*(dj*(top*B+next))<=P*((dj*top+left)*B+br):=sc _ h1
  have cb:P*dj<=P*B:=sc _ (by omega);omega
theorem aGk(B:Nat){l:List Nat}{i x:Nat}(y:Nat)(h:l[i]?=some x):val B (l.set i y)+B^i*x=val B l+B^i*y:=by
 have ai:i<l.length:=by
  rcases dz i l.length with a|a
  ·exact a
  ·rw[ei a]at h;cases h
 have ae:(l.set i y)[i]?=some y:=by rw[Qc ai]
 rw[PQ B h,PQ B ae,List.take_set_of_le (a1 i),List.drop_set_of_lt (Nat.lt_add_one i)];simp only[mT];omega
theorem fA.set{B:Nat}{l:List Nat}(h:fA B l){i y:Nat}(ax:y<B):fA B (l.set i y):=fun x ab=>by
 rcases List.mem_or_eq_of_mem_set ab with a|a
 ·exact h x a
 ·subst a;exact ax
theorem QT(B:Nat){l:List Nat}{i x:Nat}(h:l[i]?=some x):val B (l.take (i+1))=val B (l.take i)+B^i*x:=by
 have ai:i<l.length:=by
  rcases dz i l.length with a|a
  ·exact a
  ·rw[ei a]at h;cases h
 rw[mU,h,zX,el,nl (by omega)];simp[val]
def gI(l:List Nat)(i:Nat):Nat:=(l[i]?).getD 0
theorem BN{B:Nat}(h2:0<B){l:List Nat}(h:fA B l)(i:Nat):gI l i<B:=by
 unfold gI;cases e:l[i]? with
 |none=>simpa using h2
 |some x=>exact h x (c0 e)
theorem HC(B:Nat)(l:List Nat)(i:Nat):val B (l.take (i+1))=val B (l.take i)+B^i*gI l i:=by
 unfold gI;cases e:l[i]? with
 |none=>
  have ai:l.length<=i:=by
   rcases dz i l.length with a|a
   ·rw[hN a]at e;cases e
   ·exact a
  rw[kM ai,kM (by omega)];simp
 |some x=>exact QT B e
theorem amY{B i k a o c v:Nat}{out:List Nat}(h:out[i+k]?=some v):
  val B (out.set (i+k) ((v+a*o+c)%B))+B^(i+(k+1))*((v+a*o+c)/B)=val B out+B^(i+k)*c+a*B^i*(B^k*o):=by
 have h1:=aGk B ((v+a*o+c)%B) h
 have ae:B^(i+(k+1))*((v+a*o+c)/B)=B^(i+k)*(B*((v+a*o+c)/B)):=by
  rw[<-qs,pK,oq]
 have az:=Nat.mod_add_div (v+a*o+c) B;have bo:B^(i+k)*((v+a*o+c)%B)+B^(i+k)*(B*((v+a*o+c)/B))=B^(i+k)*(v+a*o+c):=by rw[<-mT,az]
 have cb:a*B^i*(B^k*o)=B^(i+k)*(a*o):=by
  rw[Nat.pow_add];simp only[oq,js,Qb]
 rw[ae,cb];simp only[mT]at bo;omega
end Go.ao.d3
namespace Go.ao
abbrev tc:=@Nat.gcd
end Go.ao
namespace Go.ao.Form
abbrev b9:=List Nat
def s0(s:b9):Prop:=s.length<1000000/\∀b∈s,b<256
structure bb where
 op:Int
 sort:b9
 name:b9
 vars:List (b9×b9)
 kids:List Int
def mb:b9:=[66,111,111,108]
def zk:b9:=[73,110,116]
def Bq:b9:=[82,101,97,108]
def cm:List Int->Int
 |[]=>0
 |e::l=>if e=0 then cm l else e
def cd(b:Bool)(e:Int):Int:=if b=true then e else 0
def isDigit(c:Nat):Bool:=decide (48<=c)&&decide (c<=57)
def body(s:b9):b9:=match s with|45::r=>r|s=>s
def minus(s:b9):Bool:=match s with|45::_=>true|_=>false
def oY(s:b9):Bool:=!(body s).isEmpty&&(body s).all isDigit&&!(decide ((body s).head?=some 48)&&(minus s||decide (1<(body s).length)))
def d9(s:b9):Int:=if oY s=true then(if 120<(body s).length then 4 else 0)else 1
def s3:b9->b9->Option (b9×b9)
 |_,[]=>none
 |p,c::r=>if c=47 then(if 47∈r then none else some (p,r))else s3 (p++[c]) r
def cut(s:b9):Option (b9×b9):=s3 [] s
def jR(s:b9):Int:=match cut s with
 |none=>1
 |some (p,q)=>if cm [d9 p,d9 q]≠0 then cm [d9 p,d9 q]else if minus q=true\/d3.dec q=0\/tc (d3.dec (body p)) (d3.dec q)≠1 then 1 else 0
def plain(s:b9):Bool:=!s.isEmpty&&decide (s.length<=200)&&s.all fun c=>!(c==32||c==10||c==40||c==41||c==123||c==125)
def tM(op:Int):Bool:=decide (op=17)||decide (op=18)
def isNum(s:b9):Bool:=decide (s=zk)||decide (s=Bq)
def oj(bt:List Nat):Nat->List Int->Bool
 |_,[]=>true
 |next,k::l=>if k<0\/k≠(next:Int) -1 then false else oj bt ((bt[k.toNat]?).getD 0) l
def ordered(bt:List Nat)(at':Nat)(n:bb):Bool:=oj bt at' n.kids.reverse
def dN:List bb->List Nat->List Nat
 |[],bt=>bt
 |n::t,bt=>dN t (bt++[if n.kids≠[]/\ordered bt bt.length n=true then(bt[(n.kids.headD 0).toNat]?).getD 0 else bt.length])
def shape(n:bb):Bool:=
 if n.op∈[0,1,2,3]then decide (n.kids.length=0)
 else if n.op∈[4,6,7]then true
 else if n.op=5 then decide (n.kids.length=1)
 else if n.op=10 then decide (n.kids.length=3)
 else if n.op∈[17,18,19]then decide (1<=n.kids.length)
 else decide (n.kids.length=2)
def q8(t:List bb)(k:Int):Int:=((t[k.toNat]?).map bb.op).getD 0
def BW(t:List bb)(q:Bool):List Int->Bool
 |[]=>true
 |k::l=>if decide (q8 t k=19)=(q&&!l.isEmpty)then BW t q l else false
def s9(t:List bb)(n:bb):Bool:=BW t (tM n.op) n.kids
def rn(n:bb):Int:=
 cd (!(if n.op=2 then decide (d9 n.name=0)||decide (jR n.name=0)else if n.op=3 then plain n.name else if n.op=4 then !n.name.isEmpty else n.name.isEmpty)) 6
def nU(seen:List b9):List (b9×b9) ->Int
 |[]=>0
 |v::l=>if plain v.1=true then(if v.1∈seen then 7 else nU (seen++[v.1]) l)else 6
def mA(n:bb):Int:=
 if tM n.op=true then(if n.vars.length<1\/12<n.vars.length then 5 else nU [] n.vars)else(if 0<n.vars.length then 5 else nU [] n.vars)
def zT(n:bb):Int:=
 cd (!(if n.op=2 then(decide (n.sort=zk)&&decide (d9 n.name=0)||decide (n.sort=Bq)&&decide (jR n.name=0))
  else if n.op∈[12,13,14]then isNum n.sort
  else if n.op∈[3,4,10]then !n.sort.isEmpty
  else if n.op=19 then n.sort.isEmpty
  else decide (n.sort=mb))) 13
def mB(t:List bb)(bt:List Nat)(i:Nat)(n:bb):Int:=
 cm [cd (decide (n.op<0)||decide (20<=n.op)) 11,cd (!shape n) 2,cd (!ordered bt i n) 9,cd (!s9 t n) 11,rn n,mA n,zT n]
def np(t:List bb)(bt:List Nat):Nat->List bb->Int
 |_,[]=>0
 |i,n::l=>if mB t bt i n=0 then np t bt (i+1) l else mB t bt i n
def ka(ds:List Nat):List Int->Nat->Nat
 |[],m=>m
 |k::l,m=>ka ds l (max m ((ds[k.toNat]?).getD 0))
def hW:List bb->List Nat->List Nat
 |[],ds=>ds
 |n::t,ds=>hW t (ds++[ka ds n.kids 0+1])
def hQ(t:List bb):Int:=
 if t.length=0 then 10 else if 2000<t.length then 5 else
 if np t (dN t []) 0 t≠0 then np t (dN t []) 0 t else
 cm [cd (decide ((((dN t [])[t.length-1]?).getD 0)≠0)) 9,cd (decide (q8 t ((t.length-1:Nat):Int)=19)) 11,cd (decide (60<((hW t [])[t.length-1]?).getD 0)) 24]
section
open Go.ao.cE
structure eX where
 cz:Int
 clause:List b1
 cn:List Int
 args:List Int
 dC:List b9
 cp:List (List bb)
structure jh where
 atoms:List (List bb)
 steps:List eX
def iM(s:eX):Bool:=
 if s.cz=0\/s.cz=2 then decide (s.cn.length=0)&&decide (s.dC.length=0)&&decide (s.args.length=1)&&decide (s.cp.length=0)
 else if s.cz=3\/s.cz=4 then decide (s.cn.length=0)&&decide (s.dC.length=0)&&decide (s.args.length=1)&&decide (1<=s.cp.length)&&decide (s.cp.length<=12)
 else if s.cz=9 then decide (s.cn.length=0)&&decide (s.dC.length=0)&&decide (s.args.length=1)&&decide (s.cp.length<=10)
 else if s.cz=6 then decide (s.cn.length=0)&&decide (s.dC.length=s.clause.length)&&decide (s.args.length=0)&&decide (s.cp.length=0)
 else if s.cz=10 then decide (2<=s.cn.length)&&decide (s.cn.length<=100)&&decide (s.dC.length=0)&&decide (s.args.length+1=s.cn.length)&&decide (s.cp.length=0)
 else decide (s.cn.length=0)&&decide (s.dC.length=0)&&decide (s.args.length=0)&&decide (s.cp.length=0)
def qD(cz arg:Int)(atoms:Nat):Bool:=
 if cz=0 then decide (arg<0)else if cz=9 then decide (arg<0)||decide (38<=arg)else decide (arg<0)||decide ((atoms:Int)<=arg)
def sl:List b9->Int
 |[]=>0
 |s::l=>if jR s=0 then sl l else jR s
def mR(t:List bb):Int:=q8 t ((t.length-1:Nat):Int)
def i1(t:List bb):List Int:=((t[t.length-1]?).map bb.kids).getD []
def sj(t:List bb):b9:=((t[t.length-1]?).map bb.sort).getD []
def qz(cz:Int):List (List bb) ->Int
 |[]=>0
 |t::l=>if hQ t=0 then(if cz=4/\(mR t≠4\/i1 t≠[])then 1 else qz cz l)else hQ t
def yb(s:eX)(at' atoms:Nat):Int:=
 if s.cz<0\/11<=s.cz then 8 else if 100<s.clause.length then 5 else
 cm [cd (s.clause.any fun x=>decide (x.1<0)||decide ((atoms:Int)<=x.1)) 8,cd (!ix s.clause) 9,cd (!iM s) 2,cd (s.cn.any fun q=>decide (q<0)||decide ((at':Int)<=q)) 9,
  cd (s.args.any fun a=>qD s.cz a atoms) 8,sl s.dC,qz s.cz s.cp]
def B1(t:List bb):Int:=if hQ t=0 then cd (decide (sj t≠mb)) 13 else hQ t
def sd:List (List bb) ->Int
 |[]=>0
 |t::l=>if B1 t=0 then sd l else B1 t
def zU(atoms:Nat):Nat->List eX->Int×Int
 |_,[]=>(0,0)
 |i,s::l=>if yb s i atoms=0 then zU atoms (i+1) l else((i:Int),yb s i atoms)
def qB(p:jh):Int×Int:=
 if 500<p.atoms.length then(-1,5)else if sd p.atoms≠0 then(-1,sd p.atoms)else if 4000<p.steps.length then(-1,5)else zU p.atoms.length 0 p.steps
def tg:List b9:=[[104,121,112],[103,111,97,108],[100,101,102,105,110,101],[105,110,115,116,97,110,99,101],[115,107,111,108,101,109],[99,111,110,103],[108,105,110,101,97,114],[111,114,100,101,114],[98,114,97,110,99,104],[116,104,101,111,114,121],[114,101,115,111,108,118,101]]
def Hl(n:Int):b9×Int:=if n<0\/11<=n then([],8)else((tg[n.toNat]?).getD [],0)
def zJ(a b:bb):Bool:=decide (a.op=b.op)&&decide (a.sort=b.sort)&&decide (a.name=b.name)&&decide (a.vars=b.vars)&&decide (a.kids=b.kids)
def lR:List bb->List bb->Bool
 |[],[]=>true
 |a::l,b::m=>zJ a b&&lR l m
 |_,_=>false
def lM(t:List bb)(k:Nat):List bb:=
 let f:=((dN t [])[k]?).getD 0
 ((t.drop f).take (k+1-f)).map fun n=>{n with kids:=n.kids.map fun x=>x-(f:Int)}
def ku(t:List bb):List (List bb):=(i1 t).map fun k=>lM t k.toNat
def mc:List (List bb) ->List bb->Nat->Int
 |[],_,_=>-1
 |a::l,t,i=>if lR a t=true then(i:Int)else mc l t (i+1)
def both(a:Int)(k:List Int):List (List b1):=
 let x:=(k[0]?).getD 0
 let y:=(k[1]?).getD 0
 [[(a,true),(x,true),(y,false)],[(a,true),(x,false),(y,true)],[(a,false),(x,false),(y,false)],[(a,false),(x,true),(y,true)]]
def candidates(p:jh)(a:Nat):List (List b1):=
 let f:=(p.atoms[a]?).getD []
 let op:=mR f
 let k:=(ku f).map fun t=>mc p.atoms t 0
 let x:=(k[0]?).getD 0
 let y:=(k[1]?).getD 0
 let z:=(k[2]?).getD 0
 let a:Int:=a
 if op=0 then[[(a,false)]]else if op=1 then[[(a,true)]]else if op=5 then[[(a,false),(x,false)],[(a,true),(x,true)]]
 else if op=6 then k.map (fun i=>[(a,true),(i,false)])++[k.map (fun i=>(i,true))++[(a,false)]]
 else if op=7 then k.map (fun i=>[(a,false),(i,true)])++[k.map (fun i=>(i,false))++[(a,true)]]
 else if op=8 then[[(a,false),(x,false)],[(a,false),(y,true)],[(a,true),(x,true),(y,false)]]
 else if op=9 then both a k
 else if op=11 then(if sj (((ku f)[0]?).getD [])=mb then both a k else[])
 else if op=10 then[[(a,true),(x,true),(y,false)],[(a,true),(x,false),(z,false)],[(a,false),(x,true),(y,true)],[(a,false),(x,false),(z,true)]]
 else[]
def oX(out:List (List b1)):List (List b1) ->List (List b1)
 |[]=>out
 |c::l=>if c.any (fun x=>decide (x.1<0))||decide (hY c∈out)then oX out l else oX (out++[hY c]) l
def yk(p:jh)(a:Int):List (List b1)×Int:=
 if(qB p).2≠0 then([],(qB p).2)else if a<0\/(p.atoms.length:Int)<=a then([],8)else(oX [] (candidates p a.toNat),0)
end
def xW(bt:List Nat)(n:bb):Nat:=if n.kids≠[]/\ordered bt bt.length n=true then(bt[(n.kids.headD 0).toNat]?).getD 0 else bt.length
theorem Hy(n:bb)(t:List bb)(bt:List Nat):dN (n::t) bt=dN t (bt++[xW bt n]):=rfl
theorem L5:∀(t:List bb) (bt:List Nat),(dN t bt).length=bt.length+t.length
 |[],bt=>by simp[dN]
 |n::t,bt=>by rw[Hy,L5];simp;omega
theorem ZE:∀(t:List bb) (bt:List Nat),(dN t bt).take bt.length=bt
 |[],bt=>by simp[dN]
 |n::t,bt=>by
  have ih:=ZE t (bt++[xW bt n]);rw[Hy];have:=lP (List.take bt.length) ih;rw[wV,fi,nl (by omega),List.take_append_of_le_length (a1 _),g5]at this;exact this
theorem anU:∀(t:List bb) (bt:List Nat) (i:Nat) (n:bb),t[i]?=some n->(dN t bt)[bt.length+i]?=some (xW ((dN t bt).take (bt.length+i)) n)
 |[],bt,i,n,h=>by simp at h
 |m::t,bt,0,n,h=>by
  simp at h;subst h;rw[ud,ZE];have:=ZE t (bt++[xW bt m]);rw[Hy];have e:=lP (fun l=>l[bt.length]?) this;simp only[fi,eG,eJ]at e;rw[qp (by omega)]at e;rw[e,oo (a1 _)];simp
 |m::t,bt,i+1,n,h=>by
  have ih:=anU t (bt++[xW bt m]) i n (by simpa using h);rw[Hy];have e:(bt++[xW bt m]).length+i=bt.length+(i+1):=by simp;omega
  rwa[e]at ih
def lN(t:List bb)(k:Nat):Nat:=((dN t [])[k]?).getD 0
theorem Yj{t:List bb}{i:Nat}{n:bb}(h:t[i]?=some n):lN t i=xW ((dN t []).take i) n:=by
 have:=anU t [] i n h;simp only[eJ,eH]at this;unfold lN;rw[this];rfl
theorem aoN{bt gs:List Nat}:∀(l:List Int) (m next:Nat),next<=m->(∀k,k<m->(bt[k]?).getD 0=(gs[k]?).getD 0) ->(∀k,k<m->(bt[k]?).getD 0<=k) ->oj bt next l=oj gs next l
 |[],_,_,_,_,_=>rfl
 |k::l,m,next,aq,he,hle=>by
  unfold oj;by_cases h:k<0\/k≠(next:Int) -1
  ·rw[bl h,bl h]
  ·rw[bf h,bf h];have hk:k.toNat<m:=by omega
   rw[<-he _ hk];exact aoN l m _ (iK (hle _ hk) (by omega)) he hle
theorem Y3{bt:List Nat}:∀(l:List Int) (next:Nat),(∀k:Nat,(k:Int)<next->(bt[k]?).getD 0<=k) ->oj bt next l=true->∀k∈l,0<=k/\k<next
 |[],_,_,_,k,h=>by cases h
 |x::l,next,hle,h,k,hk=>by
  unfold oj at h;split at h
  ·cases h
  ·rename_i ab;have jl:x.toNat<next:=by omega
   have aaM:=hle x.toNat (by omega);rcases List.mem_cons.1 hk with e|e
   ·subst e;omega
   ·have:=Y3 l _ (fun j a5=>hle j (by omega)) h k e;omega
theorem En(t:List bb):∀k,lN t k<=k:=fun k=>by
 induction k using Nat.strongRecOn with
 |ind k ih=>
  cases h:t[k]? with
  |none=>
   have hk:t.length<=k:=by
    rcases dz k t.length with a|a
    ·rw[hN a]at h;cases h
    ·exact a
   unfold lN;rw[ei (by rw[L5];simpa using hk)];simp
  |some n=>
   rw[Yj h];have hk:k<t.length:=by
    rcases dz k t.length with a|a
    ·exact a
    ·rw[ei a]at h;cases h
   have hlen:((dN t []).take k).length=k:=by rw[el,L5];simp;omega
   unfold xW;rw[hlen];split
   ·rename_i U;obtain⟨bV,a6⟩:=U;have jn:∀j,j<k->(((dN t []).take k)[j]?).getD 0=lN t j:=fun j a5=>by rw[qp a5];rfl
    have hm:=Y3 _ _ (fun j a5=>by rw[jn j (by omega)];exact ih j (by omega)) a6 (n.kids.headD 0) (by
     cases aq:n.kids with
     |nil=>exact absurd aq bV
     |cons x l=>simp)
    have ay:(n.kids.headD 0).toNat<k:=by omega
    rw[jn _ ay];have:=ih _ ay;omega
   ·exact a1 _
def pI(t:List bb)(i:Nat):Prop:=∀n,t[i]?=some n->ordered (dN t []) i n=true
theorem aLO{t:List bb}{i:Nat}(n:bb):ordered ((dN t []).take i) i n=ordered (dN t []) i n:=by
 refine aoN _ i i (a1 _) (fun k hk=>by rw[qp hk]) fun k hk=>?_;rw[qp hk];exact En t k
theorem pI.hJ{t:List bb}{i:Nat}(h: pI t i){n:bb}(aq:t[i]?=some n):∀k∈n.kids,0<=k/\k<i:=fun k hk=>
 Y3 _ _ (fun j _=>En t j) (h n aq) k (by simpa using hk)
theorem aKb{t:List bb}{i:Nat}{n:bb}(aq:t[i]?=some n)(hk:n.kids=[]):lN t i=i:=by
 rw[Yj aq];unfold xW;rw[bf (by simp[hk])];have ai:i<t.length:=by
  rcases dz i t.length with a|a
  ·exact a
  ·rw[ei a]at aq;cases aq
 rw[el,L5];simp;omega
theorem aIP{t:List bb}{i:Nat}{n:bb}(h: pI t i)(aq:t[i]?=some n){k:Int}{l:List Int}(hk:n.kids=k::l):lN t i=lN t k.toNat:=by
 have ai:i<t.length:=by
  rcases dz i t.length with a|a
  ·exact a
  ·rw[ei a]at aq;cases aq
 have hlen:((dN t []).take i).length=i:=by rw[el,L5];simp;omega
 have hm:=h.hJ aq k (by rw[hk];simp);rw[Yj aq];unfold xW;rw[hlen,bl ⟨by rw[hk];simp,by rw[aLO];exact h n aq⟩,hk];show((((dN t []).take i)[k.toNat]?).getD 0)=_
 rw[qp (by omega)];rfl
end Go.ao.Form
namespace Go.ao.d3
theorem aq9(B:Nat)(h2:B=1000000000){r d x:Nat}(aI:r<d)(a3:d<B)(ab:x<B):
  ∃p n,p=r*B/\n=p+x/\(r:Int)*1000000000=(p:Int)/\p<18446744073709551616/\n<18446744073709551616/\n<d*B:=by
 refine⟨r*B,r*B+x,rfl,rfl,by rw[h2,D9];rfl,?_,?_,?_⟩
 ·have:r*B<=999999999*B:=i0 _ (by omega);omega
 ·have:r*B<=999999999*B:=i0 _ (by omega);omega
 ·have h1:(r+1)*B<=d*B:=i0 _ aI;rw[eP,r9]at h1;omega
theorem ara(B:Nat){n d q jH HS r x V p:Nat}(bh: p=r*B)(aq:n=p+x)(h1:d*q+jH=n)(ae:HS*d+r=V):(q+B*HS)*d+jH=x+B*V:=by
 subst ae;subst aq;subst bh;rw[eP,mT,oq,js q,js r]at*;omega
theorem aBs{B b P top next head br r dj:Nat}(ar:P*(top*B+next)<=b)(aI:r<P*(head*B+br+1))(kG:br<B)(aC:head<(dj+1)*top):r<(dj+1)*b:=by
 have h1:head*B+br+1<=(head+1)*B:=by rw[eP,r9];omega
 have ae:(head+1)*B<=(dj+1)*top*B:=i0 _ aC;have az:(dj+1)*top*B<=(dj+1)*(top*B+next):=by rw[oq,mT];omega
 have bo:P*(head*B+br+1)<=P*((dj+1)*(top*B+next)):=sc _ (by omega)
 have cb:P*((dj+1)*(top*B+next))=(dj+1)*(P*(top*B+next)):=Qb _ _ _
 have dM:(dj+1)*(P*(top*B+next))<=(dj+1)*b:=sc _ ar;omega
theorem aBt{B b P top next head br r:Nat}(ah:b<P*(top*B+next+1))(aq:next<B)(aI:P*(head*B+br)<=r)(sJ:r<b*B):head<(top+1)*B:=by
 rcases dz head ((top+1)*B)with q|q
 ·exact q
 ·exfalso;have h2:0<B:=by omega
  have h1:top*B+next+1<=(top+1)*B:=by rw[eP,r9];omega
  have ae:b*B<=P*((top+1)*B)*B:=i0 _ (iK (zR ah) (sc _ h1))
  have az:P*((top+1)*B*B)<=P*(head*B+br):=sc _ (iK (i0 _ q) (Nat.le_add_right _ _))
  rw[<-oq]at az;omega
theorem aEa{B top next head br dj left:Nat}(aJ:head<(top+1)*B)(aC:dj*top+left=head)(aq:next<B)(au:B<=left):dj<B/\dj*next<=left*B+br:=by
 have h1:dj<B:=by
  rcases dz dj B with q|q
  ·exact q
  ·have:=i0 top q;rw[eP,r9,js top]at aJ;omega
 refine⟨h1,?_⟩;have ae:dj*next<=B*B:=Nat.mul_le_mul (zR h1) (zR aq)
 have az:B*B<=left*B:=i0 _ au;omega
theorem akQ{B b r P top next br dj left head:Nat}(ar:P*(top*B+next)<=b)(aI:r<P*(head*B+br+1))(kG:br<B)(sJ:r<b*B)(aC:dj*top+left=head)
  (bp:B<=dj\/left*B+br<dj*next):0<dj/\(dj-1)*top+(left+top)=head/\r<(dj-1+1)*b:=by
 have pq:0<dj:=by
  rcases bp with q|q
  ·omega
  ·rcases nS dj with e|e
   ·subst e;simp at q
   ·exact e
 refine⟨pq,?_,?_⟩
 ·have:dj*top=(dj-1)*top+top:=by
   conv=>lhs;rw[show dj=dj-1+1 by omega]
   rw[eP,r9]
  omega
 ·rw[show dj-1+1=dj by omega];rcases bp with q|q
  ·have:=sc b q;rw[js dj];omega
  ·subst aC;exact aIE ar aI kG q
theorem aw3{b r dj:Nat}(h1:dj*b<r+b)(ae:r<(dj+1)*b):∃g,g=(if r<dj*b then dj-1 else dj)/\g*b<=r/\r<(g+1)*b/\(r<dj*b->0<dj/\b<=dj*b/\dj*b-b=g*b):=by
 by_cases h:r<dj*b
 ·have bh:0<dj:=by
   rcases nS dj with e|e
   ·subst e;simp at h
   ·exact e
  have e:dj*b=(dj-1)*b+b:=by
   conv=>lhs;rw[show dj=dj-1+1 by omega]
   rw[eP,r9]
  refine⟨dj-1,by rw[bl h],by omega,by rw[show dj-1+1=dj by omega];omega,fun _=>⟨bh,by omega,by omega⟩⟩
 ·exact⟨dj,by rw[bf h],by omega,ae,fun q=>absurd q h⟩
theorem amg(B:Nat){l:List Nat}{k:Nat}(h2:0<B)(au:fA B l)(hlen:l.length<=k+3):
  B^k*((gI l (k+2)*B+gI l (k+1))*B+gI l k)<=val B l/\val B l<B^k*((gI l (k+2)*B+gI l (k+1))*B+gI l k+1):=by
 have h1:=HC B l k;have ae:=HC B l (k+1);have az:=HC B l (k+2);have e:l.take (k+2+1)=l:=kM (by omega);rw[e]at az;have ay:=sa (au.take k);have hle:B^(l.take k).length<=B^k:=vk h2 (by rw[el];omega);have e5:B^(k+1)=B^k*B:=by rw[pK]
 have cO:B^(k+2)=B^k*B*B:=by rw[show k+2=k+1+1 by omega,pK,e5]
 rw[e5]at ae;rw[cO]at az;rw[az,ae,h1];clear h1 ae az e5 cO;generalize B^k=p at*;generalize gI l (k+2)=x;generalize gI l (k+1)=y;generalize gI l k=z;generalize val B (l.take k)=t at*;have bd: p*((x*B+y)*B+z)=p*z+p*B*y+p*B*B*x:=by
  simp only[mT,eP,oq,js,Qb];omega
 rw[mT p _ 1,bd];omega
theorem aIR(B:Nat){l:List Nat}{k:Nat}(h2:0<B)(au:fA B l)(hlen:l.length<=k+2):
  B^k*(gI l (k+1)*B+gI l k)<=val B l/\val B l<B^k*(gI l (k+1)*B+gI l k+1):=by
 have h:=amg B h2 au (k:=k) (by omega);have:gI l (k+2)=0:=by unfold gI;rw[ei (by omega)];rfl
 rw[this]at h;simpa using h
theorem V6(B:Nat){g b r rest x prev HS V:Nat}(aI:r=x+B*prev)(aC:g*b<=r)(zz:rest=r-g*b)(ar:HS*b+prev=V):(g+B*HS)*b+rest=x+B*V:=by
 subst ar;rw[eP,mT,oq];omega
theorem ab1(B:Nat)(h2:B=1000000000){left br:Nat}(au:left<B)(kG:br<B):∃p,p=left*B/\(left:Int)*1000000000=(p:Int)/\p<18446744073709551616/\p+br<18446744073709551616:=by
 have:left*B<=999999999*B:=i0 _ (by omega);exact⟨left*B,rfl,by rw[h2,D9];rfl,by omega,by omega⟩
theorem KV(B:Nat)(h2:1<B){n K:Nat}(h:n<B^K)(j:Nat):n<B^(K+j):=oW h (vk (by omega) (by omega))
theorem XW(B:Nat)(h2:1<B){n:Nat}(h:n<B)(K:Nat):n<B^(K+1):=by
 have:=vk (n:=B) (by omega) (show 1<=K+1 by omega);rw[Nat.pow_one]at this;exact oW h this
theorem aEb(B:Nat)(h2:1<B){x r b K:Nat}(aI:r<B^(K+1))(ah:b<B^K)(h:x<r+b):x<B^(K+2):=by
 have h1:=KV B h2 ah 1;have ae:B^(K+1)*2<=B^(K+1)*B:=sc _ h2;have e:B^(K+2)=B^(K+1)*B:=pK ..;rw[e];omega
theorem arb(B:Nat)(h2:B=1000000000){y:Nat}(ax:y<B)(av:0<y):0<B/(y+1)/\B/(y+1)<B:=by
 refine⟨Nat.div_pos (by omega) (by omega),Nat.div_lt_self (by omega) (by omega)⟩
theorem mulPow(B:Nat){n s K:Nat}(h:n<B^K)(aA:s<B):n*s<B^(K+1):=by
 have e:B^(K+1)=B^K*B:=pK ..;rw[e];exact Nat.mul_lt_mul'' h aA
theorem aIS{n m s q r:Nat}(aA:0<s)(hm:0<m)(e:q*(m*s)+r=n*s)(aI:r<m*s):q=n/m/\r/s=n%m:=by
 have h1:r=(n-q*m)*s:=by
  rw[Nat.sub_mul,oq];omega
 have ae:q*m<=n:=by
  have:q*m*s<=n*s:=by rw[oq];omega
  exact Nat.le_of_mul_le_mul_right this aA
 have az:n-q*m<m:=by
  rw[h1]at aI;exact Nat.lt_of_mul_lt_mul_right aI
 rw[h1,Nat.mul_div_cancel _ aA];generalize bp:n-q*m=t at az;have:n=t+q*m:=by omega
 subst this;rw[Nat.add_mul_div_right _ _ hm,Nat.add_mul_mod_self_right,Nat.div_eq_of_lt az,D8 az];exact⟨by omega,rfl⟩
theorem alN(B:Nat){c6 p q c d N:Nat}(h:c6+p*d=N)(a3:d=q*B+c\/(q=0/\d=c)):c6+p*c+p*B*q=N:=by
 rcases a3 with e|⟨aN,bd⟩
 ·subst e;rw[mT,js q B,<-oq]at h;omega
 ·subst aN;subst bd;omega
end Go.ao.d3
