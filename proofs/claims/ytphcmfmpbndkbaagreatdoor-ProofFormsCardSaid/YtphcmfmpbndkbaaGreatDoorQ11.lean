/- A part of the proof that ProofForms holds for every input. -/
import Derived.Test.YtphcmfmpbndkbaaGreatDoorQ10
set_option maxRecDepth 100000
set_option maxHeartbeats 4000000
set_option linter.all false
noncomputable section
namespace Go.ao
abbrev BR:=@not_false_eq_true
section
open Form
open cE (lt ix b1)
variable {J:Prog}[ak J]{a:H}
abbrev rX(x:b1):V:=.agg [.ad x.1,.bool x.2]
def dv(l:List b1):List (List V):=l.map fun x=>[.ad x.1,.bool x.2]
theorem c9(l:List b1):(dv l).length=l.length:=eQ _
theorem kd{l:List b1}{i:Nat}{x:b1}(h:l[i]?=some x):(dv l)[i]?=some [.ad x.1,.bool x.2]:=by simp[dv,h]
theorem aIW{l:List b1}{i:Nat}{x:List V}(h:(dv l)[i]?=some x):∃y,l[i]?=some y/\x=[.ad y.1,.bool y.2]:=by
 unfold dv at h;rw[ij]at h;cases au:l[i]? with
 |none=>rw[au]at h;cases h
 |some y=>rw[au]at h;cases h;exact⟨y,rfl,rfl⟩
theorem Tb(b:Bool)(e:Int):aS J a 39 [.bool b,.ad e] (.ad (cd b e)):=by
 refine aS.bE ak.abm rfl fun h _ _=>?_;cases b<;>simp only[abl,go_sem,seval,cd]
theorem asR(x:b1):aS J a 68 [rX x] (.bool (decide (x.1<0))):=by
 refine aS.bE ak.abw rfl fun h _ _=>?_;simp only[abv,go_sem,seval]
theorem ajD(x:Int):aS J a 397 [.ad x] (.bool false):=by
 refine aS.bE ak.Ot rfl fun h _ _=>?_;simp only[aii,go_sem,seval]
theorem axI(x y:Int):aS J a 295 [.ad x,.ad y] (.ad (if x<y then-1 else if y<x then 1 else 0)):=by
 refine aS.bE ak.VL rfl fun h _ _=>?_;have c1:=ajD (J:=J) (a:=h) x;have c2:=ajD (J:=J) (a:=h) y;by_cases h1:x<y
 ·simp only[On,go_sem,seval,c1.cl,c2.cl,h1]
 ·by_cases ae:y<x
  ·simp only[On,go_sem,seval,c1.cl,c2.cl,h1,ae]
  ·simp only[On,go_sem,seval,c1.cl,c2.cl,h1,ae]
def Gi(x y:b1):Int:=if x.1≠y.1 then(if x.1<y.1 then-1 else if y.1<x.1 then 1 else 0)else if x=y then 0 else if y.2=true then-1 else 1
theorem axJ(x y:b1):aS J a 166 [rX x,rX y] (.ad (Gi x y)):=by
 refine aS.bE ak.av9 rfl fun h _ _=>?_;have c1:=axI (J:=J) (a:=h) x.1 y.1;unfold Gi;by_cases h1:x.1=y.1
 ·by_cases ae:x=y
  ·subst ae;simp only[Kb,go_sem,seval,GL,ne_eq,BQ,BR]
  ·have az:¬((x.1,x.2)=(y.1,y.2)):=ae
   cases bo:y.2 with
   |true=>
    rw[bo]at az;simp only[Kb,go_sem,seval,h1,bo,ae,GL,ne_eq,BQ,BR];rw[h1]at az;simp only[go_sem,seval,az]
   |false=>
    rw[bo]at az;simp only[Kb,go_sem,seval,h1,bo,ae,GL,ne_eq,BQ,BR];rw[h1]at az;simp only[go_sem,seval,az]
 ·simp only[Kb,go_sem,seval,h1,c1.cl,ne_eq,BQ,BR]
theorem aGF(x y:b1):decide (0<=Gi x y)=!lt x y:=by
 unfold Gi lt;obtain⟨bG,ct⟩:=x;obtain⟨tr,o5⟩:=y;simp only[G6];by_cases h1:bG=tr
 ·subst h1;cases ct<;>cases o5<;>simp
 ·by_cases ae:bG<tr
  ·simp[h1,ae]
  ·have az:tr<bG:=by omega
   simp[h1,ae,az]
theorem asS{v:V}{l:List b1}[bP:aK a](s:bB a v 2 (dv l))(au:l.length<1000000000):aS J a 69 [v] (.bool (ix l)):=by
 refine aS.bE ak.aby rfl fun h ca g=>?_;simp only[abx,go_sem,seval];refine lU (fun m t=>∃I h1 i,t=⟨I,[],h1⟩/\aj h h1/\m=l.length-i/\1<=i/\i<=l.length+1/\ix l=ix (l.drop (i-1))/\I.gt 0=v/\I.gt 3=.ad (i:Nat)) ?_ (m:=l.length-1) ⟨_,_,1,rfl,an,rfl,a1 _,by omega,by rw[sb,iL],?_,?_⟩
 ·rintro m t ⟨I,h1,i,rfl,aB,rfl,uP,m3,e,bq,aR⟩;have bW:=aB.bx;have dx:aj a h1:=g.aG aB;by_cases ai:i<l.length
  ·obtain⟨y,ax⟩:=bI ai;obtain⟨x,ab⟩:=bI (l:=l) (i:=i-1) (by omega);have ay:((i:Int)<(l.length:Int)):=by omega
   have b5:b8 .i64 ((i:Int) -1)=((i-1:Nat):Int):=pM uP (by omega)
   have bJ:=s.addr (i:=i-1) (by rw[c9];omega);have g8:=s.addr (i:=i) (by rw[c9];omega);have co:=axJ (J:=J) (a:=h) x y;have a6:=aGF x y;have a3:l.drop (i-1)=x::y::l.drop (i+1):=by
    rw[en ab,show i-1+1=i by omega,en ax]
   have bN:ix l=(lt x y&&ix (l.drop i)):=by rw[e,a3,en ax];rfl
   cases zo:lt x y with
   |true=>
    have m5:decide (0<=Gi x y)=false:=by rw[a6,zo];rfl
    simp only[go_sem,seval,bq,aR,s.a2,c9,ay,b5,bJ,g8,s.bM (kd ab),s.bM (kd ax),co.bL,m5,cG (show i<9223372036854775807 by omega)];refine⟨l.length-(i+1),by omega,_,_,i+1,rfl,an,rfl,by omega,by omega,?_,by simp only[go_sem,seval,bq],by simp only[go_sem,seval]⟩;rw[bN,zo,ju,GH]
   |false=>
    have m5:decide (0<=Gi x y)=true:=by rw[a6,zo];rfl
    have rB:ix l=false:=by rw[bN,zo];rfl
    simp only[go_sem,seval,bq,aR,s.a2,c9,ay,b5,bJ,g8,s.bM (kd ab),s.bM (kd ax),co.bL,m5,rB]
  ·have ay:¬((i:Int)<(l.length:Int)):=by omega
   have bN:ix l=true:=by
    rw[e];have:(l.drop (i-1)).length<=1:=by rw[jG];omega
    match l.drop (i-1),this with
    |[],_=>rfl
    |[_],_=>rfl
   simp only[go_sem,seval,bq,aR,s.a2,c9,ay,bN]
 ·simp only[go_sem,seval]
 ·simp only[go_sem,seval]
def sY(p:V->Bool):List V->Nat->Int
 |[],_=>-1
 |e::l,i=>if p e=true then(i:Int)else sY p l (i+1)
theorem am4(p:V->Bool):∀(l:List V) (i:Nat),decide (0<=sY p l i)=l.any p
 |[],_=>rfl
 |e::l,i=>by
  have ih:=am4 p l (i+1);rw[yc];by_cases h: p e=true
  ·have aN:sY p (e::l) i=(i:Int):=by unfold sY;rw[bl h]
   have:(0:Int)<=sY p (e::l) i:=by rw[aN];omega
   simp[h,this]
  ·have aN:sY p (e::l) i=sY p l (i+1):=by rw[sY];rw[bf h]
   simp only[aN,ih];simp[h]
def cI(l:List V):List (List V):=l.map fun x=>[x]
theorem dL(l:List V):(cI l).length=l.length:=eQ _
theorem jc{l:List V}{i:Nat}{x:V}(h:l[i]?=some x):(cI l)[i]?=some [x]:=by simp[cI,h]
theorem aEd{g:FuncId}(dw:J.funcs g=some Kc)(aA:∀args h,J.spec g args h=none){v f:V}{aV:List V}[aK a](s:bB a v 1 (cI aV))(au:aV.length<1000000000)(p:V->Bool)(aE:∀(i:Nat) (x:V),aV[i]?=some x->gp J a f [x] (.bool (p x))):aS J a g [v,f] (.ad (sY p aV 0)):=by
 refine aS.mk (fun h=>aA _ h) dw rfl fun h _ g=>?_;simp only[Kc,go_sem,seval,s.a2,dL];refine dK aV.length (fun i t=>∃I h1,t=⟨I,[],h1⟩/\aj h h1/\sY p aV 0=sY p (aV.drop i) i/\I.gt 0=v/\I.gt 1=f/\I.gt 7=.ad (aV.length:Nat)/\I.gt 8=.ad (i:Nat)) ?_ ?_ (dk _) ⟨_,_,rfl,an,rfl,?_,?_,?_,?_⟩
 ·rintro i t ai ⟨I,h1,rfl,aB,e,bA,aN,gl,gL⟩;obtain⟨x,ab⟩:=bI ai;have a3:=en ab;have:=aB.bx;have Cb:=g.aG aB;have c:=aE i x ab;have ck:i<(cI aV).length:=by rw[dL];exact ai
  cases bh: p x with
  |true=>simp[go_sem,seval,bA,aN,gl,gL,ai,s.addr ck,s.bM (jc ab),c.cl,bh,e,a3,sY]
  |false=>
   simp only[go_sem,seval,bA,aN,gl,gL,ai,s.addr ck,s.bM (jc ab),c.cl,bh,cG (show i<9223372036854775807 by omega)];refine⟨_,_,rfl,an,?_,?_,?_,?_,?_⟩
   ·rw[e,a3];simp only[sY,bh];rfl
   all_goals simp only[go_sem,seval,bA,aN,gl,gL]
 ·rintro t ⟨I,h1,rfl,aB,e,bA,aN,gl,gL⟩;have:=aB.bx;simp only[go_sem,seval,bA,aN,gl,gL,nW,e,fp,sY]
 all_goals simp only[go_sem,seval]
theorem anX{g:FuncId}(dw:J.funcs g=some Sn)(aA:∀args h,J.spec g args h=none){v f:V}{aV:List V}[aK a](s:bB a v 1 (cI aV))(au:aV.length<1000000000)(p:V->Bool)(aE:∀(i:Nat) (x:V),aV[i]?=some x->gp J a f [x] (.bool (p x))):aS J a g [v,f] (.bool (aV.any p)):=by
 refine aS.mk (fun h=>aA _ h) dw rfl fun h _ g=>?_;have ci:=aEd ak.Vw.1 ak.Vw.2 s au p aE;simp only[Sn,go_sem,seval,ci.cl,am4]
theorem Hp(l:List Int):dH l=cI (l.map fun n=>.ad n):=by simp[dH,cI]
theorem aIX(l:List b9):qk l=cI (l.map fun n=>.str n):=by simp[qk,cI]
def ajE(p:b1->Bool)(e:List V):Bool:=match e with|[.ad n,.bool b]=>p (n,b)|_=>false
theorem aIY(p:b1->Bool)(l:List b1):(dv l).any (ajE p)=l.any p:=by
 unfold dv;rw[List.any_map];rfl
theorem acZ{v f:V}{l:List b1}[aK a](s:bB a v 2 (dv l))(au:l.length<1000000000)(p:b1->Bool)(aE:∀(i:Nat) (x:b1),l[i]?=some x->gp J a f [rX x] (.bool (p x))):aS J a 67 [v,f] (.bool (l.any p)):=by
 refine aS.bE ak.abu rfl fun h _ _=>?_;have ci:=alM (g:=165) ak.Vv.1 ak.Vv.2 s (by rw[c9];exact au) (ajE p) (fun i x ab=>by
  obtain⟨y,ax,rfl⟩:=aIW ab;exact aE i y ax)
 simp only[abt,go_sem,seval,ci.cl,YH,aIY]
end
section
open Form
open cE (lt ix b1)
theorem aS.ajG{J:Prog}{a:H}{g:FuncId}{args:List V}{v:V}(c:cJ J a g args (fun w _=>w=v)):aS J a g args v:=fun h i=>by
 obtain⟨w,aa,t,kB,rfl⟩:=c h i;exact⟨aa,t,kB.g⟩
theorem aEf{J:Prog}{I:Fr}{h:H}{ds:dB}{k:c4}{x:Option (O×(P->V))}{o:O}{g:P->V}{d:Option S}{os:List bH}(ab:x=some (o,g))(hw:fu J os (cX d (g h.next) I) (h.new o) ds k):MS J x d os I h ds k:=by subst ab;exact hw
variable {J:Prog}[ak J]{a:H}
theorem ajH:cJ J a 416 [] (fun w h=>∃f xs ty,w=.ag f 0 0 38 3 (some 38)/\h.get f=some (.af xs ty)/\xs.length=114):=by
 refine cJ.bE ak.ain rfl fun h _ _=>?_;have bC:∀(s:List Nat) (n:Int) (f:V),f.cells=[f] ->jQ [.str [],.ad 0,.lK] [(0,1,.str s),(1,1,.ad n),(2,1,f)]=some (.agg [.str s,.ad n,f]):=fun s n f e=>by simp only[jQ,oU,e];rfl
 have be:∀g:Fn,(V.fn g [] []).cells=[V.fn g [] []]:=fun _=>rfl;simp only[aim,go_sem,seval,bC,be];refine aEf (o:=.cells _ 0 0 .rw _) (g:=fun f=>.ag f 0 0 38 3 (some 38)) rfl ?_;simp only[go_sem,seval];exact⟨_,_,_,rfl,ef,rfl⟩
def x2(n:Int):Int:=if n<0\/38<=n then 8 else 0
theorem axU(n:Int):cJ J a 337 [.ad n] (fun w _=>∃mh c1 c2,w=.bk [.agg [mh,c1,c2],.ad (x2 n)]):=by
 refine cJ.bE ak.ahN rfl fun h _ _=>?_;have Ch:jQ [.str [],.ad 0,.lK] []=some (.agg [.str [],.ad 0,.lK]):=rfl;have Ax:∀(h:H) (f:P) (c:List V),c.length=3->fz (some (.af [.str [],.ad 0,.lK] 391)) h f 3 0 0 3 (.agg c)=some (.bk [],h.set f (.af c 391)):=fun h f c U=>pL _ _ _ _ 3 3 (a1 _) (.agg c) U rfl;have cZ:∀(c:List V),c.length=3->ec (some (.af c 391)) true 3 0 0 3=some (.agg c):=fun c U=>by
  rw[um _ _ _ _ _ _ _ (a1 _),td (by omega),iL,kM (by omega)];rfl
 have o5:eC h.next h:=⟨a1 _⟩
 by_cases av:n<0
 ·have e:x2 n=8:=by unfold x2;rw[bl (.inl av)]
  simp only[VM,go_sem,seval,av,Ch,Ax,cZ,e];exact⟨_,_,_,rfl⟩
 ·simp only[VM,go_sem,seval,av];refine(ajH (J:=J) (a:=h)).run fun w h1 aB bW je=>?_;obtain⟨f,xs,ty,rfl,ha,ab⟩:=je;have ry:=aB.dW;have eZ:aj h h1:=aj.aG an aB;have a8:h1.get h.next=some (.af [.str [],.ad 0,.lK] 391):=by rw[aB.gt];exact ef
  have dD:=aP a8;by_cases rL:38<=n
  ·have e:x2 n=8:=by unfold x2;rw[bl (.inr rL)]
   simp only[go_sem,seval,rL,Ch,a8,Ax,cZ,e];exact⟨_,_,_,rfl⟩
  ·have e:x2 n=0:=by unfold x2;rw[bf (by omega)]
   simp only[go_sem,seval,rL];refine(ajH (J:=J) (a:=h1)).run fun w ae aY c3 dX=>?_;obtain⟨cq,Ns,AT,rfl,asX,yN⟩:=dX;have kC:=aY.dW;have ey:aj h ae:=eZ.aG aY;have FJ:=(aY.gt h.next).trans a8;have acW:=aP FJ;obtain⟨m,rfl⟩:∃m:Nat,n=m:=⟨n.toNat,by omega⟩;have hm:m<38:=by omega
   have e1:=rp cq 0 0 38 3 (some 38) m hm;have kp:((Ns.drop (0+m*3)).take 3).length=3:=by rw[el,jG];omega
   have n4:ec (some (.af Ns AT)) true 3 0 (0+m*3) 3=some (.agg ((Ns.drop (0+m*3)).take 3)):=by
    rw[um _ _ _ _ _ _ _ (a1 _),td (by omega)];rfl
   generalize (Ns.drop (0+m*3)).take 3=cs at kp n4
   match cs,kp with
   |[mh,c1,c2],_=>
    simp only[go_sem,seval]at e1 n4;simp only[go_sem,seval,e1,asX,n4,FJ,Ax _ _ [mh,c1,c2] rfl,cZ [mh,c1,c2] rfl,e];exact⟨_,_,_,rfl⟩
theorem axV(n:Int):cJ J a 214 [.ad n] (fun w _=>∃v,w=.bk [v,.ad (x2 n)]):=by
 refine cJ.bE ak.agC rfl fun h _ _=>?_;have Ax:∀(h:H) (f:P) (c:List V),c.length=3->fz (some (.af [.str [],.ad 0,.lK] 391)) h f 3 0 0 3 (.agg c)=some (.bk [],h.set f (.af c 391)):=fun h f c U=>pL _ _ _ _ 3 3 (a1 _) (.agg c) U rfl;simp only[agB,go_sem,seval];refine(axU (J:=J) (a:=h) n).run fun w h1 aB bW je=>?_;obtain⟨mh,c1,c2,rfl⟩:=je;have cY:ec (some (.af [mh,c1,c2] 391)) false 1 0 1 1=some c1:=rfl;have f1:∀f:P,hM 1 1 (.ptr f 0 0 3)=some (.ptr f 0 1 1):=fun _=>rfl;simp only[go_sem,seval,Ax _ _ [mh,c1,c2] rfl,f1,cY];exact⟨_,rfl⟩
theorem asY(cz arg:Int)(atoms:Nat):aS J a 93 [.ad cz,.ad arg,.ad (atoms:Nat)] (.bool (qD cz arg atoms)):=by
 refine aS.ajG (cJ.bE ak.abJ rfl fun h _ _=>?_);unfold qD;by_cases av:cz=0
 ·simp only[I2,go_sem,seval,av]
 ·by_cases lA:cz=9
  ·simp only[I2,go_sem,seval,lA];refine(axV (J:=J) (a:=h) arg).run fun w h1 aB bW je=>?_;obtain⟨v,rfl⟩:=je;have e:(!decide (x2 arg=0))=(decide (arg<0)||decide (38<=arg)):=by
    unfold x2;by_cases bj:arg<0
    ·simp[bj]
    ·by_cases a8:38<=arg
     ·simp[bj,a8]
     ·simp[bj,a8]
   simp only[go_sem,seval,e]
  ·by_cases bj:arg<0
   ·simp only[I2,go_sem,seval,av,lA,bj]
   ·simp only[I2,go_sem,seval,av,lA,bj]
end
section
open Form
open cE (lt ix b1)
variable {J:Prog}[ak J]{a:H}
theorem ac3:aS J a 29 [] (.agg (tg.map V.str)):=by
 refine aS.bE ak.oM rfl fun h _ _=>?_;have ah:∀(dO cY k7 im EO kj H4 yB H5 H6 Jo:List Nat),jQ [.str [],.str [],.str [],.str [],.str [],.str [],.str [],.str [],.str [],.str [],.str []] [(0,1,.str dO),(1,1,.str cY),(2,1,.str k7),(3,1,.str im),(4,1,.str EO),(5,1,.str kj),(6,1,.str H4),(7,1,.str yB),(8,1,.str H5),(9,1,.str H6),(10,1,.str Jo)]=some (.agg [.str dO,.str cY,.str k7,.str im,.str EO,.str kj,.str H4,.str yB,.str H5,.str H6,.str Jo]):=fun _ _ _ _ _ _ _ _ _ _ _=>rfl;have st:∀(h:H) (f:P) (xs c:List V) (ty:TypeId),xs.length=11->c.length=11->fz (some (.af xs ty)) h f 11 0 0 11 (.agg c)=some (.bk [],h.set f (.af c ty)):=fun h f xs c ty ab U=>pL _ _ _ _ 11 11 (a1 _) (.agg c) U ab;have cZ:∀(c:List V) (ty:TypeId),c.length=11->ec (some (.af c ty)) true 11 0 0 11=some (.agg c):=fun c ty U=>by
  rw[um _ _ _ _ _ _ _ (a1 _),td (by omega),iL,kM (by omega)];rfl
 simp only[abe,go_sem,seval,ah,st,cZ];rfl
theorem qK(n:Int):aS J a 6 [.ad n] (.bk [.str (Hl n).1,.ad (Hl n).2]):=by
 refine aS.bE ak.cj rfl fun h _ _=>?_;unfold Hl;by_cases av:n<0
 ·rw[bl (.inl av)];simp only[Mc,go_sem,seval,av]
 ·by_cases h1:11<=n
  ·rw[bl (.inr h1)];simp only[Mc,go_sem,seval,av,h1]
  ·rw[bf (by omega)];obtain⟨m,rfl⟩:∃m:Nat,n=m:=⟨n.toNat,by omega⟩;have hm:m<tg.length:=by have:tg.length=11:=rfl;omega
   obtain⟨s,aA⟩:=bI hm;have rr:∀(g:Bool) (e n:Nat) (x i:X) (I:Fr),(d5.OZ g e n x i).f I=Bu g e n (x.a7 I) (i.a7 I):=fun _ _ _ _ _ _=>rfl;have ep:=ac3 (J:=J) (a:=h);have ah:Nat.blt m 11=true:=by rw[lv];omega
   have aE:Bu false 1 11 (.agg (tg.map V.str)) (.ad (m:Nat))=some (.str s):=by
    have au:m*1+1<=(tg.map V.str).length:=by rw[eQ];omega
    have e:Bu false 1 11 (.agg (tg.map V.str)) (.ad (m:Nat))=(match Nat.blt m 11 with|true=>one false (range (tg.map V.str) (m*1) 1)|false=>none):=rfl;rw[e,ah,td au,kz,en (l:=tg.map V.str) (i:=m) (x:=.str s) (by rw[ij,aA];rfl)];rfl
   have ep:=ac3 (J:=J) (a:=h);simp only[Mc,go_sem,seval,av,h1,ep.cl,rr,aE];rw[show((m:Int).toNat)=m by omega,aA];rfl
theorem Jp{v:V}{t:List bb}{S W:Nat->V}[bP:aK a](aU:fc a v t S W)(au:t.length<1000000){n:bb}(aq:t[t.length-1]?=some n):aS J a 89 [v] (eW n (S (t.length-1)) (W (t.length-1))):=by
 refine aS.bE ak.abE rfl fun h _ _=>?_;have av:0<t.length:=by
  rcases nS t.length with e|e
  ·rw[ei (by omega)]at aq;cases aq
  ·exact e
 have b5:b8 .i64 ((t.length:Int) -1)=((t.length-1:Nat):Int):=pM av (by omega)
 have st:∀(h:H) (f:P) (c:List V),c.length=5->fz (some (.af [.ad 0,.str [],.str [],.al,.al] 90)) h f 5 0 0 5 (.agg c)=some (.bk [],h.set f (.af c 90)):=fun h f c U=>pL _ _ _ _ 5 5 (a1 _) (.agg c) U rfl;have cZ:∀(c:List V) (ty:TypeId),c.length=5->ec (some (.af c ty)) true 5 0 0 5=some (.agg c):=fun c ty U=>by
  rw[um _ _ _ _ _ _ _ (a1 _),td (by omega),iL,kM (by omega)];rfl
 simp only[abD,go_sem,seval,aU.ag.a2,gj,b5,aU.ag.addr (aU.lt (show t.length-1<t.length by omega)),aU.ag.bM (aU.at aq),st,cZ,eW]
theorem asZ(hP:ta J)(dP:s4 J a)[bP:aK a]{v:V}{t:List bb}{S W:Nat->V}(aU:fc a v t S W)(au:t.length<1000000)(aA:r4 t):aS J a 31 [v] (.ad (B1 t)):=by
 refine aS.bE ak.m6 rfl fun h _ _=>?_;have c1:=S9 (J:=J) hP dP aU au aA;have dF:=fun b e=>Tb (J:=J) (a:=a) b e;unfold B1;by_cases av:hQ t=0
 ·rw[bl av];rw[av]at c1;have bV:0<t.length:=by
   rcases nS t.length with e|e
   ·exfalso;unfold hQ at av;rw[bl e]at av;cases av
   ·exact e
  obtain⟨n,aq⟩:=bI (l:=t) (i:=t.length-1) (by omega);have c2:=Jp (J:=J) aU au aq;have e:sj t=n.sort:=by unfold sj;rw[aq];rfl
  have bd:(!decide (n.sort=[66,111,111,108]))=decide (sj t≠mb):=by rw[e];by_cases q:n.sort=[66,111,111,108]<;>simp[q,mb]
  simp only[Sk,go_sem,seval,c1.cl,c2.cl,eW,(dF _ _).cl,bd]
 ·rw[bf av];simp only[Sk,go_sem,seval,c1.cl,av]
theorem as0{b:P}{n:Nat}{ty:TypeId}[bP:aK a](ah:a.get b=some (.af [.ad (n:Nat)] ty))(x:b1):gp J a (.fn (.func 90) [] [.ptr b 0 0 1]) [rX x] (.bool (decide (x.1<0)||decide ((n:Int)<=x.1))):=by
 refine gp.bE ak.abF rfl fun h ca g=>?_;have dr:=g.at ah;have cL:=aP dr;by_cases av:x.1<0
 ·simp only[Sp,go_sem,seval,dr,av]
 ·simp only[Sp,go_sem,seval,dr,av]
theorem as1{b:P}{n:Nat}{ty:TypeId}[bP:aK a](ah:a.get b=some (.af [.ad (n:Nat)] ty))(x:Int):gp J a (.fn (.func 91) [] [.ptr b 0 0 1]) [.ad x] (.bool (decide (x<0)||decide ((n:Int)<=x))):=by
 refine gp.bE ak.abG rfl fun h ca g=>?_;have dr:=g.at ah;have cL:=aP dr;by_cases av:x<0
 ·simp only[Sq,go_sem,seval,dr,av]
 ·simp only[Sq,go_sem,seval,dr,av]
theorem as2{b b3:P}{n:Nat}{ty gF:TypeId}{cz:Int}{cs:List V}[bP:aK a](ah:a.get b=some (.af (.ad cz::cs) ty))(hK:cs.length=5)(mJ:a.get b3=some (.af [.ad (n:Nat)] gF))(x:Int):gp J a (.fn (.func 92) [] [.ptr b 0 0 6,.ptr b3 0 0 1]) [.ad x] (.bool (qD cz x n)):=by
 refine gp.bE ak.abI rfl fun h ca g=>?_;have dr:=g.at ah;have cL:=aP dr;have ac4:=g.at mJ;have Ar:=aP ac4;have H7:=asY (J:=J) (a:=h) cz x n;have cY:ec (some (.af (.ad cz::cs) ty)) false 1 0 0 1=some (.ad cz):=by
  rw[um _ _ _ _ _ _ _ (a1 _),td (by simp),iL];rfl
 have f1:hM 0 1 (.ptr b 0 0 6)=some (.ptr b 0 0 1):=rfl;simp only[abH,go_sem,seval,f1,dr,cY,ac4,H7.cl]
theorem as3{v:V}{l:List b9}[bP:aK a](s:bB a v 1 (qk l))(au:l.length<1000000)(p:b9->Int)(aE:∀x∈l,aS J a 95 [.str x] (.ad (p x))):cJ J a 94 [v,.fn (.func 95) [] []] (fun w h=>bB h w 1 (dH (l.map p))):=by
 refine cJ.bE ak.abL rfl fun h ca g=>?_;simp only[abK,go_sem,seval,s.a2,ow];refine dK l.length (fun i t=>∃I h1 w,t=⟨I,[],h1⟩/\aj h h1/\bD 28 1 (aH h.next) h1 w (dH ((l.take i).map p))/\I.gt 1=.fn (.func 95) [] []/\I.gt 5=w/\I.gt 8=v/\I.gt 9=.ad (l.length:Nat)/\I.gt 10=.ad (i:Nat)) ?_ ?_ (dk _) ⟨_,_,.al,rfl,an,.nil _ _ _ _,?_,?_,?_,?_,?_⟩
 ·rintro i t ai ⟨I,h1,w,rfl,aB,dt,f1,bu,cQ,dm,ew⟩;have bW:=aB.bx;have dx:aj a h1:=g.aG aB;obtain⟨x,ab⟩:=bI ai;have ck:i<(qk l).length:=by rw[ow];exact ai
  have ay:((i:Int)<(l.length:Int)):=by omega
  have m1:=aE x (c0 ab);have bs:∀n:Int,g6 28 1 1 [.ad 0] [(0,1,.ad n)]=some (.af [.ad n] 28,fun f=>.ag f 0 0 1 1 (some 1)):=fun _=>rfl;have e0:aj h1 (cg m1 h1 an):=an;have ee:=wH (cg m1 h1 an) [p x] 28;obtain⟨eU,az,bO,iH,et⟩:=uh (bytes:=8) (dt.aO (aa:=(cg m1 h1 an).new (.af [.ad (p x)] 28)) an) ee (by have:=(aB.aG e0).g.next;rw[fF,gu];omega) (by simp only[c7,eQ,el,eG,eJ];omega) (by simp only[c7,eQ,el,eG,eJ];omega);have bO: pt ((cg m1 h1 an).new (.af [.ad (p x)] 28)) 28 1 8 w (.ag (cg m1 h1 an).next 0 0 1 1 (some 1))=some (eU,az):=bO
  simp only[go_sem,seval,f1,bu,cQ,dm,ew,ay,s.addr ck,s.bM (Em ab),m1.cl,bs,bO,cG (show i<9223372036854775807 by omega)];refine⟨_,_,eU,rfl,et.aO h (a1 _),?_,by simp only[go_sem,seval,f1],by simp only[go_sem,seval],by simp only[go_sem,seval,cQ],by simp only[go_sem,seval,dm],by simp only[go_sem,seval]⟩;have e:dH ((l.take i).map p)++dH [p x]=dH ((l.take (i+1)).map p):=by rw[mU,ab];simp[dH]
  rwa[<-e]
 ·rintro t ⟨I,h1,w,rfl,aB,dt,f1,bu,cQ,dm,ew⟩;have bW:=aB.bx;have ay:¬((l.length:Int)<(l.length:Int)):=by omega
  rw[g5]at dt;simp only[go_sem,seval,bu,dm,ew,ay];exact dt.ag
 all_goals simp only[go_sem,seval]
theorem LN(H:H)[mZ:aK H](b7 bG:Int):aS J (H.new (.af [.ad b7,.ad bG] 28)) 38 [.ag H.next 0 0 2 1 (some 2)] (.ad (cm [b7,bG])):=
 GR ak.CL.1 ak.CL.2 (l:=[b7,bG]) (wH H [b7,bG] 28) (by simp)
theorem LO(H:H)[mZ:aK H](b7 bG:Int)(d:Option S)(os:List bH)(I:Fr)(ds:dB)(k:c4):oL J (.fn (.func 38) [] []) [.ag H.next 0 0 2 1 (some 2)] (H.new (.af [.ad b7,.ad bG] 28)) d os I ds k=fu J os (cX d (.ad (cm [b7,bG])) I) (cg (LN (J:=J) H b7 bG) (H.new (.af [.ad b7,.ad bG] 28)) an) ds k:=(LN H b7 bG).cl _ _ _
theorem Qv(H:H)[mZ:aK H](b7 bG:Int)(d:Option S)(b:List Nat)(os:List (bH×List Nat))(n:Nat)(aD:List Rec)(I:Fr)(ds:dB)(k:c4):tL J (.fn (.func 38) [] []) [.ag H.next 0 0 2 1 (some 2)] (H.new (.af [.ad b7,.ad bG] 28)) d b os n aD I ds k=(kK (cg (LN (J:=J) H b7 bG) (H.new (.af [.ad b7,.ad bG] 28)) an) b aD=true/\wd J os (n+1) aD (cX d (.ad (cm [b7,bG])) I) (cg (LN (J:=J) H b7 bG) (H.new (.af [.ad b7,.ad bG] 28)) an) ds k):=(LN H b7 bG).bL _ _ _ _ _ _
theorem LP(H:H)[mZ:aK H](b7 bG ct dR lZ hb:Int):aS J (H.new (.af [.ad b7,.ad bG,.ad ct,.ad dR,.ad lZ,.ad hb] 28)) 38 [.ag H.next 0 0 6 1 (some 6)] (.ad (cm [b7,bG,ct,dR,lZ,hb])):=
 GR ak.CL.1 ak.CL.2 (l:=[b7,bG,ct,dR,lZ,hb]) (wH H [b7,bG,ct,dR,lZ,hb] 28) (by simp)
theorem am6(H:H)[mZ:aK H](b7 bG ct dR lZ hb:Int)(d:Option S)(os:List bH)(I:Fr)(ds:dB)(k:c4):oL J (.fn (.func 38) [] []) [.ag H.next 0 0 6 1 (some 6)] (H.new (.af [.ad b7,.ad bG,.ad ct,.ad dR,.ad lZ,.ad hb] 28)) d os I ds k=fu J os (cX d (.ad (cm [b7,bG,ct,dR,lZ,hb])) I) (cg (LP (J:=J) H b7 bG ct dR lZ hb) (H.new (.af [.ad b7,.ad bG,.ad ct,.ad dR,.ad lZ,.ad hb] 28)) an) ds k:=(LP H b7 bG ct dR lZ hb).cl _ _ _
theorem am7(H:H)[mZ:aK H](b7 bG ct dR lZ hb:Int)(d:Option S)(b:List Nat)(os:List (bH×List Nat))(n:Nat)(aD:List Rec)(I:Fr)(ds:dB)(k:c4):tL J (.fn (.func 38) [] []) [.ag H.next 0 0 6 1 (some 6)] (H.new (.af [.ad b7,.ad bG,.ad ct,.ad dR,.ad lZ,.ad hb] 28)) d b os n aD I ds k=(kK (cg (LP (J:=J) H b7 bG ct dR lZ hb) (H.new (.af [.ad b7,.ad bG,.ad ct,.ad dR,.ad lZ,.ad hb] 28)) an) b aD=true/\wd J os (n+1) aD (cX d (.ad (cm [b7,bG,ct,dR,lZ,hb])) I) (cg (LP (J:=J) H b7 bG ct dR lZ hb) (H.new (.af [.ad b7,.ad bG,.ad ct,.ad dR,.ad lZ,.ad hb] 28)) an) ds k):=(LP H b7 bG ct dR lZ hb).bL _ _ _ _ _ _
def dT(Y:Nat->V)(n:Nat):List V:=(List.range n).map Y
theorem d4(Y:Nat->V)(n:Nat):(dT Y n).length=n:=by simp[dT]
theorem kx(Y:Nat->V){n i:Nat}(h:i<n):(dT Y n)[i]?=some (Y i):=by simp[dT,h]
structure ks(h:H)(s:Form.eX)(cS cC bg cK cv:V)(Y:Nat->V)(S W:Nat->Nat->V):Prop where
 cl:bB h cS 2 (dv s.clause)
 fl:bB h cC 1 (dH s.cn)
 i3:bB h bg 1 (dH s.args)
 hx:bB h cK 1 (qk s.dC)
 eA:bB h cv 1 (cI (dT Y s.cp.length))
 row:∀i t,s.cp[i]?=some t->fc h (Y i) t (S i) (W i)
theorem ks.aO{h aa:H}{s:Form.eX}{cS cC bg cK cv:V}{Y:Nat->V}{S W:Nat->Nat->V}(r:ks h s cS cC bg cK cv Y S W)(k:h.ok)(g:aj h aa):ks aa s cS cC bg cK cv Y S W:=⟨r.cl.aO k g,r.fl.aO k g,r.i3.aO k g,r.hx.aO k g,r.eA.aO k g,fun i t e=>(r.row i t e).aO k g⟩
structure nH(s:Form.eX):Prop where
 cl:s.clause.length<1000000
 fl:s.cn.length<1000000
 i3:s.args.length<1000000
 hx:s.dC.length<1000000
 eA:s.cp.length<1000000
 Jq:∀x∈s.dC,s0 x
 Tc:∀t∈s.cp,t.length<1000000/\r4 t
abbrev ia(s:Form.eX)(cS cC bg cK cv:V):V:=.agg [.ad s.cz,cS,cC,bg,cK,cv]
theorem wv(x y z w fM jv k5 w':Int):V.bin .eql (.agg [.li,.li,.li,.li]) (.agg [.ad x,.ad y,.ad z,.ad w]) (.agg [.ad fM,.ad jv,.ad k5,.ad w'])=some (.bool (decide (x=fM)&&(decide (y=jv)&&(decide (z=k5)&&decide (w=w'))))):=by
 have e:V.bin .eql (.agg [.li,.li,.li,.li]) (.agg [.ad x,.ad y,.ad z,.ad w]) (.agg [.ad fM,.ad jv,.ad k5,.ad w'])=(match nn [.li,.li,.li,.li] [.ad x,.ad y,.ad z,.ad w] [.ad fM,.ad jv,.ad k5,.ad w']with|some b=>some (.bool b)|none=>none):=rfl;rw[e];have k:me .i64 .i64=true:=rfl;simp only[nn,ho.eq,k,BL];by_cases h1:x=fM
 ·by_cases ae:y=jv
  ·by_cases az:z=k5
   ·by_cases bo:w=w'<;>simp[h1,ae,az,bo]
   ·simp[h1,ae,az]
  ·simp[h1,ae]
 ·simp[h1]
theorem wx(x y z w:Int):jQ [.ad 0,.ad 0,.ad 0,.ad 0] [(0,1,.ad x),(1,1,.ad y),(2,1,.ad z),(3,1,.ad w)]=some (.agg [.ad x,.ad y,.ad z,.ad w]):=rfl
theorem tW(h:H)(f:P)(xs c:List V)(ty:TypeId)(ab:xs.length=4)(U:c.length=4):fz (some (.af xs ty)) h f 4 0 0 4 (.agg c)=some (.bk [],h.set f (.af c ty)):=pL _ _ _ _ 4 4 (a1 _) (.agg c) U ab
theorem as4(c:List V)(ty:TypeId)(U:c.length=4):ec (some (.af c ty)) true 4 0 0 4=some (.agg c):=by
 rw[um _ _ _ _ _ _ _ (a1 _),td (by omega),iL,kM (by omega)];rfl
theorem od(c:List V)(ty:TypeId)(U:c.length=6):ec (some (.af c ty)) true 6 0 0 6=some (.agg c):=by
 rw[um _ _ _ _ _ _ _ (a1 _),td (by omega),iL,kM (by omega)];rfl
section
variable {s:Form.eX}{cS cC bg cK cv:V}{Y:Nat->V}{S W:Nat->Nat->V}
theorem Gj[bP:aK a](r:ks a s cS cC bg cK cv Y S W):aS J a 801 [ia s cS cC bg cK cv] (.agg [.ad (s.cn.length:Nat),.ad (s.args.length:Nat),.ad (s.dC.length:Nat),.ad (s.cp.length:Nat)]):=by
 refine aS.bE ak.ajc rfl fun h _ _=>?_;simp only[ajb,go_sem,seval,ia,r.fl.a2,r.i3.a2,r.hx.a2,r.eA.a2,c7,ow,dL,d4,wx,tW,as4]
theorem OO[bP:aK a](r:ks a s cS cC bg cK cv Y S W):aS J a 796 [ia s cS cC bg cK cv] (.bool (decide (s.cn.length=0)&&decide (s.dC.length=0)&&decide (s.args.length=0)&&decide (s.cp.length=0))):=by
 refine aS.bE ak.ai5 rfl fun h _ _=>?_;have cs:=Gj (J:=J) r;have Ch:jQ [.ad 0,.ad 0,.ad 0,.ad 0] []=some (.agg [.ad 0,.ad 0,.ad 0,.ad 0]):=rfl;simp only[ai4,go_sem,seval,ia,od,cs.cl,Ch,wv];congr 1;rw[i9];simp only[dJ,kL,iJ,t7];omega
theorem ajI[bP:aK a](r:ks a s cS cC bg cK cv Y S W):aS J a 795 [ia s cS cC bg cK cv] (.bool (decide (s.cn.length=0)&&decide (s.dC.length=0)&&decide (s.args.length=1)&&decide (s.cp.length=0))):=by
 refine aS.bE ak.ai3 rfl fun h _ _=>?_;have cs:=Gj (J:=J) r;simp only[ai2,go_sem,seval,ia,od,cs.cl,wx,wv];congr 1;rw[i9];simp only[dJ,kL,iJ,t7];omega
theorem ajJ[bP:aK a](r:ks a s cS cC bg cK cv Y S W):aS J a 797 [ia s cS cC bg cK cv] (.bool (decide (s.cn.length=0)&&decide (s.dC.length=0)&&decide (s.args.length=1)&&decide (1<=s.cp.length)&&decide (s.cp.length<=12))):=by
 refine aS.bE ak.ai6 rfl fun h _ _=>?_;have cs:=Gj (J:=J) r;by_cases h1:(1:Int)<=(s.cp.length:Int)
 ·by_cases ae:(s.cp.length:Int)<=12
  ·simp only[OF,go_sem,seval,ia,od,r.eA.a2,dL,d4,cs.cl,wx,wv,h1,ae];congr 1;rw[i9];simp only[dJ,kL,iJ,t7];omega
  ·simp only[OF,go_sem,seval,ia,od,r.eA.a2,dL,d4,cs.cl,wx,wv,h1,ae];congr 1;rw[i9];simp only[dJ,kL,iJ,t7];omega
 ·simp only[OF,go_sem,seval,ia,od,r.eA.a2,dL,d4,cs.cl,wx,wv,h1];congr 1;rw[i9];simp only[dJ,kL,iJ,t7];omega
theorem axW[bP:aK a](r:ks a s cS cC bg cK cv Y S W):aS J a 799 [ia s cS cC bg cK cv] (.bool (decide (s.cn.length=0)&&decide (s.dC.length=0)&&decide (s.args.length=1)&&decide (s.cp.length<=10))):=by
 refine aS.bE ak.ai9 rfl fun h _ _=>?_;have cs:=Gj (J:=J) r;by_cases ae:(s.cp.length:Int)<=10
 ·simp only[V0,go_sem,seval,ia,od,r.eA.a2,dL,d4,cs.cl,wx,wv,ae];congr 1;rw[i9];simp only[dJ,kL,iJ,t7];omega
 ·simp only[V0,go_sem,seval,ia,od,r.eA.a2,dL,d4,cs.cl,wx,wv,ae];congr 1;rw[i9];simp only[dJ,kL,iJ,t7];omega
theorem axX[bP:aK a](r:ks a s cS cC bg cK cv Y S W):aS J a 798 [ia s cS cC bg cK cv] (.bool (decide (s.cn.length=0)&&decide (s.dC.length=s.clause.length)&&decide (s.args.length=0)&&decide (s.cp.length=0))):=by
 refine aS.bE ak.ai8 rfl fun h _ _=>?_;have cs:=Gj (J:=J) r;have lh:=fK r.cl;simp only[ai7,go_sem,seval,ia,od,r.cl.a2,c9,cs.bL,bQ,wx,wv,lh];congr 1;rw[i9];simp only[dJ,kL,iJ,t7];omega
theorem axY[bP:aK a](r:ks a s cS cC bg cK cv Y S W)(b:nH s):aS J a 800 [ia s cS cC bg cK cv] (.bool (decide (2<=s.cn.length)&&decide (s.cn.length<=100)&&decide (s.dC.length=0)&&decide (s.args.length+1=s.cn.length)&&decide (s.cp.length=0))):=by
 refine aS.bE ak.aja rfl fun h _ _=>?_;have cs:=Gj (J:=J) r;have ah:=b.fl;by_cases h1:(2:Int)<=(s.cn.length:Int)
 ·have b5:b8 .i64 ((s.cn.length:Int) -1)=((s.cn.length-1:Nat):Int):=pM (by omega) (by omega)
  by_cases ae:(s.cn.length:Int)<=100
  ·simp only[OG,go_sem,seval,ia,od,r.fl.a2,c7,cs.cl,b5,wx,wv,h1,ae];congr 1;rw[i9];simp only[dJ,kL,iJ,t7];omega
  ·simp only[OG,go_sem,seval,ia,od,r.fl.a2,c7,cs.cl,b5,wx,wv,h1,ae];congr 1;rw[i9];simp only[dJ,kL,iJ,t7];omega
 ·simp only[OG,go_sem,seval,ia,od,r.fl.a2,c7,cs.cl,wx,wv,h1];congr 1;rw[i9];simp only[dJ,kL,iJ,t7];omega
def amn:List V:=[.fn (.func 795) [] [],.fn (.func 796) [] [],.fn (.func 795) [] [],.fn (.func 797) [] [],.fn (.func 797) [] [],.fn (.func 796) [] [],.fn (.func 798) [] [],.fn (.func 796) [] [],.fn (.func 796) [] [],.fn (.func 799) [] [],.fn (.func 800) [] []]
def Bf(h:H):Prop:=∃md ty,h.get (gQ 1)=some (.cells amn 0 0 md ty)
theorem axZ[bP:aK a](r:ks a s cS cC bg cK cv Y S W)(b:nH s){m:Nat}(hm:m<11)(e:s.cz=(m:Nat)):∃f,amn[m]?=some f/\gp J a f [ia s cS cC bg cK cv] (.bool (iM s)):=by
 have aA:∀x,x=iM s->∀g,aS J a g [ia s cS cC bg cK cv] (.bool x) ->gp J a (.fn (.func g) [] []) [ia s cS cC bg cK cv] (.bool (iM s)):=fun x e g c=>by rw[<-e];exact c
 match m,hm with
 |0,_=>exact⟨_,rfl,aA _ (by unfold iM;rw[e];simp) _ (ajI r)⟩
 |1,_=>exact⟨_,rfl,aA _ (by unfold iM;rw[e];simp) _ (OO r)⟩
 |2,_=>exact⟨_,rfl,aA _ (by unfold iM;rw[e];simp) _ (ajI r)⟩
 |3,_=>exact⟨_,rfl,aA _ (by unfold iM;rw[e];simp) _ (ajJ r)⟩
 |4,_=>exact⟨_,rfl,aA _ (by unfold iM;rw[e];simp) _ (ajJ r)⟩
 |5,_=>exact⟨_,rfl,aA _ (by unfold iM;rw[e];simp) _ (OO r)⟩
 |6,_=>exact⟨_,rfl,aA _ (by unfold iM;rw[e];simp) _ (axX r)⟩
 |7,_=>exact⟨_,rfl,aA _ (by unfold iM;rw[e];simp) _ (OO r)⟩
 |8,_=>exact⟨_,rfl,aA _ (by unfold iM;rw[e];simp) _ (OO r)⟩
 |9,_=>exact⟨_,rfl,aA _ (by unfold iM;rw[e];simp) _ (axW r)⟩
 |10,_=>exact⟨_,rfl,aA _ (by unfold iM;rw[e];simp) _ (axY r b)⟩
 |m+11,h=>omega
end
end
section
open Form
open cE (lt ix b1)
variable {J:Prog}[ak J][vE J]{a:H}
theorem api:∀l:List b9,cm (l.map jR)=sl l
 |[]=>rfl
 |s::l=>by
  show(if jR s=0 then cm (l.map jR)else jR s)=(if jR s=0 then sl l else jR s);rw[api l]
theorem an1:∀(l:List Int) (x:Int),cm (l++[x])=if cm l=0 then x else cm l
 |[],x=>by show(if x=0 then 0 else x)=_;by_cases h:x=0<;>simp[cm,h]
 |e::l,x=>by
  show(if e=0 then cm (l++[x])else e)=_;rw[an1 l x];by_cases h:e=0
  ·simp[cm,h]
  ·simp[cm,h]
def pre6(s:Form.eX)(at' atoms:Nat):List Int:=[cd (s.clause.any fun x=>decide (x.1<0)||decide ((atoms:Int)<=x.1)) 8,cd (!ix s.clause) 9,cd (!iM s) 2,cd (s.cn.any fun q=>decide (q<0)||decide ((at':Int)<=q)) 9,cd (s.args.any fun a=>qD s.cz a atoms) 8,sl s.dC]
theorem aK2(s:Form.eX)(at' atoms:Nat):yb s at' atoms=if s.cz<0\/11<=s.cz then 8 else if 100<s.clause.length then 5 else if cm (pre6 s at' atoms)=0 then qz s.cz s.cp else cm (pre6 s at' atoms):=by
 unfold yb;rw[<-an1];rfl
theorem as5(hP:ta J)(dP:s4 J a)(sy:Bf a)[bP:aK a]{s:Form.eX}{cS cC bg cK cv:V}{Y:Nat->V}{S W:Nat->Nat->V}(r:ks a s cS cC bg cK cv Y S W)(b:nH s)(at' atoms:Nat)(h1:at'<1000000000)(ae:atoms<1000000000):
  aS J a 32 [ia s cS cC bg cK cv,.ad (at':Nat),.ad (atoms:Nat)] (.ad (yb s at' atoms)):=by
 refine aS.ajG (cJ.bE ak.f32 rfl fun h ca g=>?_);rw[aK2];have af:=fun b e=>Tb (J:=J) (a:=a) b e;obtain⟨md,ty,ac5⟩:=sy;have aN7:=aP ac5;obtain⟨bC,fW⟩:∃b:P,b=h.next:=⟨_,rfl⟩
 obtain⟨b0,fB⟩:∃b:P,b=(h.new (.af [.ad s.cz,cS,cC,bg,cK,cv] 64)).next:=⟨_,rfl⟩
 obtain⟨cM,hB⟩:∃b:P,b=((h.new (.af [.ad s.cz,cS,cC,bg,cK,cv] 64)).new (.af [.ad (at':Nat)] 3)).next:=⟨_,rfl⟩
 obtain⟨cx,fe⟩:∃H:H,H=(((h.new (.af [.ad s.cz,cS,cC,bg,cK,cv] 64)).new (.af [.ad (at':Nat)] 3)).new (.af [.ad (atoms:Nat)] 3)):=⟨_,rfl⟩
 have fo:aK cx:=by rw[fe];exact an
 have b4:aj h cx:=by rw[fe];exact an
 have pk:aj a cx:=g.aG b4;have cc:cx.get bC=some (.af [.ad s.cz,cS,cC,bg,cK,cv] 64):=by rw[fe,fW];simp only[go_sem,seval]
 have dc:cx.get b0=some (.af [.ad (at':Nat)] 3):=by rw[fe,fB];simp only[go_sem,seval]
 have dn:cx.get cM=some (.af [.ad (atoms:Nat)] 3):=by rw[fe,hB];simp only[go_sem,seval]
 have gx:=aP cc;have hT:=aP dc;have g9:=aP dn;have ac6:=pk.at ac5;have aQt:=aP ac6;have lh:=fK r.cl;have kp:((100:Int)<(s.clause.length:Int))↔100<s.clause.length:=by omega
 have AU:¬((8:Int)=0):=by decide
 have Td:¬((5:Int)=0):=by decide
 by_cases av:s.cz<0
 ·rw[bl (.inl av)];simp only[I0,go_sem,seval,ia,av,r.cl.a2,c9,(af _ _).bL,bQ,lh,Qv,cd,cm,AU]
 ·by_cases p6:11<=s.cz
  ·rw[bl (.inr p6)];simp only[I0,go_sem,seval,ia,av,p6,r.cl.a2,c9,(af _ _).bL,bQ,lh,Qv,cd,cm,AU]
  ·rw[bf (by omega)];by_cases zp:100<s.clause.length
   ·rw[bl zp];simp only[I0,go_sem,seval,ia,av,p6,kp,zp,r.cl.a2,c9,(af _ _).bL,bQ,lh,Qv,cd,cm,Td]
   ·rw[bf zp];simp only[I0,go_sem,seval,ia,av,p6,kp,zp,r.cl.a2,c9,(af _ _).bL,bQ,lh,Qv,cd,cm];obtain⟨m,hm⟩:∃m:Nat,s.cz=m:=⟨s.cz.toNat,by omega⟩;have Wh:m<11:=by omega
    have e3:=r.aO bP.ok pk;obtain⟨f,aE,be⟩:=axZ (J:=J) e3 b Wh hm;have ac7:=vg aE ty md;simp only[eH,kz]at ac7;have Rg:∀(x i:X) (I:Fr),(d5.KG 1 11 x i).f I=zF 1 11 (x.a7 I) (i.a7 I):=fun _ _ _=>rfl;have ac8:zF 1 11 (.ptr (gQ 1) 0 0 11) (.ad (m:Nat))=some (.ptr (gQ 1) 0 m 1):=by
     have ah:(Nat.blt m 11&&Nat.ble (11*1) 11)=true:=by
      have:Nat.blt m 11=true:=by rw[lv];exact Wh
      rw[this];rfl
     have e:zF 1 11 (.ptr (gQ 1) 0 0 11) (.ad (m:Nat))=(match Nat.blt m 11&&Nat.ble (11*1) 11 with|true=>some (.ptr (gQ 1) 0 (0+m*1) 1)|false=>none):=rfl;rw[e,ah,eH,kz]
    rw[<-hm]at ac8;have c1:=acZ (J:=J) e3.cl (by have:=b.cl;omega) (fun x=>decide (x.1<0)||decide ((atoms:Int)<=x.1)) (fun i x ab=>as0 (J:=J) dn x)
    have c2:=asS (J:=J) e3.cl (by have:=b.cl;omega);have sx:=e3.fl;rw[Hp]at sx;have fs:=anX (g:=72) ak.I1.1 ak.I1.2 sx (by rw[eQ];have:=b.fl;omega) (fun v=>match v with|.int _ n=>decide (n<0)||decide ((at':Int)<=n)|_=>false) (f:=.fn (.func 91) [] [.ptr b0 0 0 1]) (fun i x ab=>by
     rw[ij]at ab;cases bh:s.cn[i]? with
     |none=>rw[bh]at ab;cases ab
     |some y=>rw[bh]at ab;cases ab;exact as1 (J:=J) dc y)
    rw[List.any_map]at fs;replace fs:aS J cx 72 [cC,.fn (.func 91) [] [.ptr b0 0 0 1]] (.bool (s.cn.any fun q=>decide (q<0)||decide ((at':Int)<=q))):=fs
    have Mk:=e3.i3;rw[Hp]at Mk;have jY:=anX (g:=72) ak.I1.1 ak.I1.2 Mk (by rw[eQ];have:=b.i3;omega) (fun v=>match v with|.int _ n=>qD s.cz n atoms|_=>false) (f:=.fn (.func 92) [] [.ptr bC 0 0 6,.ptr cM 0 0 1]) (fun i x ab=>by
     rw[ij]at ab;cases bh:s.args[i]? with
     |none=>rw[bh]at ab;cases ab
     |some y=>rw[bh]at ab;cases ab;exact as2 (J:=J) cc rfl dn y)
    rw[List.any_map]at jY;replace jY:aS J cx 72 [bg,.fn (.func 92) [] [.ptr bC 0 0 6,.ptr cM 0 0 1]] (.bool (s.args.any fun q=>qD s.cz q atoms)):=jY;have qK:=as3 (J:=J) e3.hx b.hx jR (fun x ab=>(dP x (b.Jq x ab)).mono pk);have Cl:=fK r.fl;have pT:=fK r.i3;have pS:=fK r.hx;have st:=fK r.eA;have Nt:∀f:P,hM 0 1 (.ptr f 0 0 6)=some (.ptr f 0 0 1):=fun _=>rfl;have as6:hM 0 1 (.ptr (gQ 1) 0 m 1)=some (.ptr (gQ 1) 0 m 1):=rfl;have vF:V.same f f=true:=by
     match m,Wh,aE with
     |0,_,aE=>cases aE;rfl
     |1,_,aE=>cases aE;rfl
     |2,_,aE=>cases aE;rfl
     |3,_,aE=>cases aE;rfl
     |4,_,aE=>cases aE;rfl
     |5,_,aE=>cases aE;rfl
     |6,_,aE=>cases aE;rfl
     |7,_,aE=>cases aE;rfl
     |8,_,aE=>cases aE;rfl
     |9,_,aE=>cases aE;rfl
     |10,_,aE=>cases aE;rfl
     |m+11,h,_=>omega
    unfold pre6;generalize (s.clause.any fun x=>decide (x.1<0)||decide ((atoms:Int)<=x.1))=Z5 at c1⊢
    generalize ix s.clause=apV at c2⊢;generalize iM s=apW at be⊢;generalize (s.cn.any fun q=>decide (q<0)||decide ((at':Int)<=q))=apX at fs⊢
    generalize (s.args.any fun q=>qD s.cz q atoms)=apY at jY⊢;simp only[<-fW,<-fB,<-hB];simp only[<-fe];simp only[go_sem,seval,Rg,ac8,as6,ac6,ac7,cc,dc,dn,od,c1.bL,c2.bL,be.bL,fs.bL,jY.bL,(af _ _).bL,bQ,lh,Cl,pT,pS,st,vF];refine qK.oR fun w jf lY z7 yx=>?_;rw[EA];refine⟨rfl,?_⟩;have FK:=GR (J:=J) (g:=38) (a:=jf) ak.CL.1 ak.CL.2 yx (by rw[eQ];have:=b.hx;omega);rw[api]at FK;generalize sl s.dC=eI at FK⊢;have uR:aj cx jf:=aj.aG an lY;have Z0:=uR.dW;have c5:=(uR.gt bC).trans cc;have C5:aj h jf:=b4.aG uR;have fr:∀(b7 bG ct dR lZ hb:Int),g6 28 1 6 [.ad 0] [(0,1,.ad b7),(1,1,.ad bG),(2,1,.ad ct),(3,1,.ad dR),(4,1,.ad lZ),(5,1,.ad hb)]=some (.af [.ad b7,.ad bG,.ad ct,.ad dR,.ad lZ,.ad hb] 28,fun f=>.ag f 0 0 6 1 (some 6)):=fun _ _ _ _ _ _=>rfl;by_cases bX:cm [cd Z5 8,cd (!apV) 9,cd (!apW) 2,cd apX 9,cd apY 8,eI]=0
    ·rw[bl bX];have FL:∀f:P,hM 5 1 (.ptr f 0 0 6)=some (.ptr f 0 5 1):=fun _=>rfl;have kj:ec (some (.af [.ad s.cz,cS,cC,bg,cK,cv] 64)) false 1 0 5 1=some cv:=rfl;have dO:ec (some (.af [.ad s.cz,cS,cC,bg,cK,cv] 64)) false 1 0 0 1=some (.ad s.cz):=rfl;simp only[go_sem,seval,fr,FK.cl,FK.bL,am6,am7,bX,FL,c5,kj,r.eA.a2,dL,d4];refine dK s.cp.length (fun i t=>∃I h1,t=⟨I,[],h1⟩/\aj jf h1/\qz s.cz s.cp=qz s.cz (s.cp.drop i)/\I.gt 3=.ptr bC 0 0 6/\I.gt 73=cv/\I.gt 74=.ad (s.cp.length:Nat)/\I.gt 75=.ad (i:Nat)) ?_ ?_ (dk _) ⟨_,_,rfl,an,rfl,?_,?_,?_,?_⟩
     ·rintro i t ai ⟨I,fU,rfl,sv,he,aR,AV,y5,C6⟩;have Cg:=sv.bx;have y1:aj cx fU:=uR.aG sv;have i8:=y1.dW;have ux:=(y1.gt bC).trans cc;have acp:aj a fU:=pk.aG y1;have Jr:aj h fU:=b4.aG y1;obtain⟨x,ab⟩:=bI ai;have ay:((i:Int)<(s.cp.length:Int)):=by omega
      have ck:i<(cI (dT Y s.cp.length)).length:=by rw[dL,d4];exact ai
      have aU:=r.row i x ab;obtain⟨kk,xH⟩:=b.Tc x (c0 ab);have uG:=S9 (J:=J) hP dP aU kk xH;rw[en ab,qz]at he;by_cases bp:hQ x=0
      ·rw[bl bp]at he;rw[bp]at uG;have bV:0<x.length:=by
        rcases nS x.length with e|e
        ·exfalso;unfold hQ at bp;rw[bl e]at bp;cases bp
        ·exact e
       obtain⟨n,aq⟩:=bI (l:=x) (i:=x.length-1) (by omega);have xI:=Jp (J:=J) aU kk aq;have H8:=aU.row (x.length-1) n aq;have iV:mR x=n.op:=by unfold mR q8;rw[show((x.length-1:Nat):Int).toNat=x.length-1 by omega,aq];rfl
       have tX:i1 x=n.kids:=by unfold i1;rw[aq];rfl
       rw[iV,tX]at he;have mq:∀(h:H) (f:P) (c:List V),c.length=5->fz (some (.af [.ad 0,.str [],.str [],.al,.al] 90)) h f 5 0 0 5 (.agg c)=some (.bk [],h.set f (.af c 90)):=fun h f c U=>pL _ _ _ _ 5 5 (a1 _) (.agg c) U rfl;have lp:∀f:P,hM 0 1 (.ptr f 0 0 5)=some (.ptr f 0 0 1):=fun _=>rfl;have Nu:∀f:P,hM 4 1 (.ptr f 0 0 5)=some (.ptr f 0 4 1):=fun _=>rfl;have oe:∀mh c1 c2 dF fs:V,ec (some (.af [mh,c1,c2,dF,fs] 90)) false 1 0 0 1=some mh:=fun _ _ _ _ _=>rfl;have OP:∀mh c1 c2 dF fs:V,ec (some (.af [mh,c1,c2,dF,fs] 90)) false 1 0 4 1=some fs:=fun _ _ _ _ _=>rfl;by_cases xJ:s.cz=4
       ·by_cases a6:n.op=4
        ·by_cases hk:n.kids=[]
         ·rw[bf (by rintro⟨_,q|q⟩;exact q a6;exact q hk)]at he;have tY:¬((0:Int)<(n.kids.length:Int)):=by rw[hk];simp
          simp only[go_sem,seval,aR,AV,y5,C6,ay,r.eA.addr ck,r.eA.bM (jc (kx Y ai)),uG.cl,xI.cl,eW,mq,Nt,lp,Nu,oe,OP,dO,ux,bQ,xJ,a6,H8.kids.a2,c7,tY,cG (show i<9223372036854775807 by have:=b.eA;omega)];exact⟨_,_,rfl,an,by rw[xJ]at he;exact he,by simp only[go_sem,seval,aR],by simp only[go_sem,seval,AV],by simp only[go_sem,seval,y5],by simp only[go_sem,seval]⟩
         ·rw[bl ⟨xJ,.inr hk⟩]at he;have tY:((0:Int)<(n.kids.length:Int)):=by have:=List.length_pos_iff.2 hk;omega
          simp only[go_sem,seval,aR,AV,y5,C6,ay,r.eA.addr ck,r.eA.bM (jc (kx Y ai)),uG.cl,xI.cl,eW,mq,Nt,lp,Nu,oe,OP,dO,ux,bQ,xJ,a6,H8.kids.a2,c7,tY];rw[xJ]at he;rw[he]
        ·rw[bl ⟨xJ,.inl a6⟩]at he;simp only[go_sem,seval,aR,AV,y5,C6,ay,r.eA.addr ck,r.eA.bM (jc (kx Y ai)),uG.cl,xI.cl,eW,mq,Nt,lp,Nu,oe,OP,dO,ux,bQ,xJ,a6];rw[xJ]at he;rw[he]
       ·rw[bf (fun q=>xJ q.1)]at he;simp only[go_sem,seval,aR,AV,y5,C6,ay,r.eA.addr ck,r.eA.bM (jc (kx Y ai)),uG.cl,xI.cl,eW,mq,Nt,lp,Nu,oe,OP,dO,ux,bQ,xJ,cG (show i<9223372036854775807 by have:=b.eA;omega)];exact⟨_,_,rfl,an,he,by simp only[go_sem,seval,aR],by simp only[go_sem,seval,AV],by simp only[go_sem,seval,y5],by simp only[go_sem,seval]⟩
      ·rw[bf bp]at he;simp only[go_sem,seval,aR,AV,y5,C6,ay,r.eA.addr ck,r.eA.bM (jc (kx Y ai)),uG.cl,bp,he]
     ·rintro t ⟨I,fU,rfl,sv,he,aR,AV,y5,C6⟩;have ay:¬((s.cp.length:Int)<(s.cp.length:Int)):=by omega
      have Jr:aj h fU:=C5.aG sv;rw[fp,qz]at he;simp only[go_sem,seval,y5,C6,ay,he]
     all_goals simp only[go_sem,seval]
    ·rw[bf bX];simp only[go_sem,seval,fr,FK.cl,FK.bL,am6,am7,bX]
structure j4 where
 cS:V
 cC:V
 bg:V
 cK:V
 cv:V
 Y:Nat->V
 S:Nat->Nat->V
 W:Nat->Nat->V
def lH(D:Nat->j4):Nat->List Form.eX->List (List V)
 |_,[]=>[]
 |i,s::l=>[.ad s.cz,(D i).cS,(D i).cC,(D i).bg,(D i).cK,(D i).cv]::lH D (i+1) l
theorem rq(D:Nat->j4):∀(i:Nat) (l:List Form.eX),(lH D i l).length=l.length
 |_,[]=>rfl
 |i,s::l=>by simp[lH,rq D (i+1) l]
theorem Eg(D:Nat->j4):∀(k:Nat) (l:List Form.eX) (i:Nat) (s:Form.eX),l[i]?=some s->(lH D k l)[i]?=some [.ad s.cz,(D (k+i)).cS,(D (k+i)).cC,(D (k+i)).bg,(D (k+i)).cK,(D (k+i)).cv]
 |_,[],i,s,h=>by simp at h
 |k,m::t,0,n,h=>by simp at h;subst h;rfl
 |k,m::t,i+1,n,h=>by
  have:=Eg D (k+1) t i n (by simpa using h);rw[show k+1+i=k+(i+1) by omega]at this;simpa[lH]using this
structure sO(h:H)(l:List (List bb))(v:V)(Y:Nat->V)(S W:Nat->Nat->V):Prop where
 ag:bB h v 1 (cI (dT Y l.length))
 row:∀i t,l[i]?=some t->fc h (Y i) t (S i) (W i)
theorem sO.aO{h aa:H}{l:List (List bb)}{v:V}{Y:Nat->V}{S W:Nat->Nat->V}(r:sO h l v Y S W)(k:h.ok)(g:aj h aa):sO aa l v Y S W:=⟨r.ag.aO k g,fun i t e=>(r.row i t e).aO k g⟩
structure xK(h:H)(p:Form.jh)(bg aF:V)(Y:Nat->V)(S W:Nat->Nat->V)(D:Nat->j4):Prop where
 at':sO h p.atoms bg Y S W
 st:bB h aF 6 (lH D 0 p.steps)
 row:∀i s,p.steps[i]?=some s->ks h s (D i).cS (D i).cC (D i).bg (D i).cK (D i).cv (D i).Y (D i).S (D i).W
theorem xK.aO{h aa:H}{p:Form.jh}{bg aF:V}{Y:Nat->V}{S W:Nat->Nat->V}{D:Nat->j4}(r:xK h p bg aF Y S W D)(k:h.ok)(g:aj h aa):xK aa p bg aF Y S W D:=⟨r.at'.aO k g,r.st.aO k g,fun i t e=>(r.row i t e).aO k g⟩
structure FM(p:Form.jh):Prop where
 at': p.atoms.length<1000000
 dZ:∀t∈p.atoms,t.length<1000000/\r4 t
 st: p.steps.length<1000000
 Te:∀s∈p.steps,nH s
theorem Z6(hP:ta J)(dP:s4 J a)(sy:Bf a)[bP:aK a]{p:Form.jh}{bg aF:V}{Y:Nat->V}{S W:Nat->Nat->V}{D:Nat->j4}(r:xK a p bg aF Y S W D)(b:FM p):aS J a 8 [.agg [bg,aF]] (.bk [.ad (qB p).1,.ad (qB p).2]):=by
 refine aS.bE ak.cQ rfl fun h ca g=>?_;have lI:∀f:P,hM 0 1 (.ptr f 0 0 2)=some (.ptr f 0 0 1):=fun _=>rfl;have CR:∀f:P,hM 1 1 (.ptr f 0 0 2)=some (.ptr f 0 1 1):=fun _=>rfl;have oe:∀(x y:V) (ty:TypeId),ec (some (.af [x,y] ty)) false 1 0 0 1=some x:=fun _ _ _=>rfl;have ac9:∀(x y:V) (ty:TypeId),ec (some (.af [x,y] ty)) false 1 0 1 1=some y:=fun _ _ _=>rfl;have Kv:((500:Int)<(p.atoms.length:Int))↔500<p.atoms.length:=by omega
 have KX:((4000:Int)<(p.steps.length:Int))↔4000<p.steps.length:=by omega
 unfold qB;by_cases zq:500<p.atoms.length
 ·rw[bl zq];simp only[ys,go_sem,seval,lI,oe,r.at'.ag.a2,dL,d4,Kv,zq]
 ·rw[bf zq];have xx:∀(h:H) (f:P) (c:List V),c.length=6->fz (some (.af [.ad 0,.al,.al,.al,.al,.al] 64)) h f 6 0 0 6 (.agg c)=some (.bk [],h.set f (.af c 64)):=fun h f c U=>pL _ _ _ _ 6 6 (a1 _) (.agg c) U rfl;simp only[ys,go_sem,seval,lI,oe,r.at'.ag.a2,dL,d4,Kv,zq];refine dK p.atoms.length (fun i t=>∃I h1,t=⟨I,[],h1⟩/\aj (h.new (.af [bg,aF] 25)) h1/\sd p.atoms=sd (p.atoms.drop i)/\I.gt 1=.ptr h.next 0 0 2/\I.gt 15=bg/\I.gt 16=.ad (p.atoms.length:Nat)/\I.gt 17=.ad (i:Nat)) ?_ ?_ (dk _) ⟨_,_,rfl,an,rfl,?_,?_,?_,?_⟩
  ·rintro i t ai ⟨I,h1,rfl,aB,he,f1,qa,qZ,lo⟩;have bW:=aB.bx;have e0:aj h (h.new (.af [bg,aF] 25)):=an;have lF:aj h h1:=e0.aG aB;have dx:aj a h1:=g.aG lF;obtain⟨x,ab⟩:=bI ai;have ay:((i:Int)<(p.atoms.length:Int)):=by omega
   have ck:i<(cI (dT Y p.atoms.length)).length:=by rw[dL,d4];exact ai
   have aU:=r.at'.row i x ab;obtain⟨kk,xH⟩:=b.dZ x (c0 ab);have be:=asZ (J:=J) hP dP aU kk xH;rw[en ab,sd]at he;by_cases bp:B1 x=0
   ·rw[bl bp]at he;rw[bp]at be;simp only[go_sem,seval,f1,qa,qZ,lo,ay,r.at'.ag.addr ck,r.at'.ag.bM (jc (kx Y ai)),be.cl,cG (show i<9223372036854775807 by omega)];exact⟨_,_,rfl,an,he,by simp only[go_sem,seval,f1],by simp only[go_sem,seval,qa],by simp only[go_sem,seval,qZ],by simp only[go_sem,seval]⟩
   ·rw[bf bp]at he;have bV:¬(sd p.atoms=0):=by rw[he];exact bp
    rw[bl bV,he];simp only[go_sem,seval,f1,qa,qZ,lo,ay,r.at'.ag.addr ck,r.at'.ag.bM (jc (kx Y ai)),be.cl,bp]
  ·rintro t ⟨I,h1,rfl,aB,he,f1,qa,qZ,lo⟩;have bW:=aB.bx;have e0:aj h (h.new (.af [bg,aF] 25)):=an;have lF:aj h h1:=e0.aG aB;have dx:aj a h1:=g.aG lF;have ay:¬((p.atoms.length:Int)<(p.atoms.length:Int)):=by omega
   rw[fp]at he;have he:sd p.atoms=0:=he;rw[bf (by rw[he];simp)];have bj:h1.get h.next=some (.af [bg,aF] 25):=by rw[aB.gt];exact ef
   have fZ:=aP bj;by_cases zC:4000<p.steps.length
   ·rw[bl zC];simp only[go_sem,seval,f1,qZ,lo,ay,CR,bj,ac9,r.st.a2,rq,KX,zC]
   ·rw[bf zC];simp only[go_sem,seval,f1,qZ,lo,ay,CR,bj,ac9,r.st.a2,rq,KX,zC];refine dK p.steps.length (fun i t=>∃I ae,t=⟨I,[],ae⟩/\aj h1 ae/\zU p.atoms.length 0 p.steps=zU p.atoms.length i (p.steps.drop i)/\I.gt 1=.ptr h.next 0 0 2/\I.gt 32=aF/\I.gt 33=.ad (p.steps.length:Nat)/\I.gt 34=.ad (i:Nat)) ?_ ?_ (dk _) ⟨_,_,rfl,an,rfl,?_,?_,?_,?_⟩
    ·rintro i t ai ⟨I,ae,rfl,aY,aA,f1,f32,yU,AD⟩;have c3:=aY.bx;have kC:=aY.dW;have ey:aj h ae:=lF.aG aY;have iW:aj a ae:=dx.aG aY;have a8:=(aY.gt h.next).trans bj;obtain⟨x,ab⟩:=bI ai;have ay:((i:Int)<(p.steps.length:Int)):=by omega
     have ck:i<(lH D 0 p.steps).length:=by rw[rq];exact ai
     have H9:=r.row i x ab;have dU:=Eg D 0 p.steps i x ab;rw[eH]at dU;have cs:=as5 (J:=J) hP dP sy H9 (b.Te x (c0 ab)) i p.atoms.length (by have:=b.st;omega) (by have:=b.at';omega);rw[en ab,zU]at aA;by_cases bp:yb x i p.atoms.length=0
     ·rw[bl bp]at aA;rw[bp]at cs;simp only[go_sem,seval,f1,f32,yU,AD,ay,r.st.addr ck,r.st.bM dU,xx,od,lI,a8,oe,r.at'.ag.a2,dL,d4,cs.cl,cG (show i<9223372036854775807 by have:=b.st;omega)];exact⟨_,_,rfl,an,aA,by simp only[go_sem,seval,f1],by simp only[go_sem,seval,f32],by simp only[go_sem,seval,yU],by simp only[go_sem,seval]⟩
     ·rw[bf bp]at aA;rw[aA];simp only[go_sem,seval,f1,f32,yU,AD,ay,r.st.addr ck,r.st.bM dU,xx,od,lI,a8,oe,r.at'.ag.a2,dL,d4,cs.cl,bp]
    ·rintro t ⟨I,ae,rfl,aY,aA,f1,f32,yU,AD⟩;have c3:=aY.bx;have ey:aj h ae:=lF.aG aY;have ay:¬((p.steps.length:Int)<(p.steps.length:Int)):=by omega
     rw[fp]at aA;have aA:zU p.atoms.length 0 p.steps=(0,0):=aA;rw[aA];simp only[go_sem,seval,yU,AD,ay]
    all_goals simp only[go_sem,seval,f1]
  all_goals simp only[go_sem,seval]
end
end Go.ao
