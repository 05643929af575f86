/- A part of the proof that ProofForms holds for every input. -/
import Derived.Test.YtphcmfmpbndkbaaGreatDoorQ16
set_option maxRecDepth 100000
set_option maxHeartbeats 4000000
set_option linter.all false
noncomputable section
namespace Go.ao
section
open Form
open cE (lt ix)
variable {J:Prog}[ak J]{a:H}
theorem ajZ(x y:b1):aS J a 227 [rX x,rX y] (.bool (lt x y)):=by
 refine aS.bE ak.agR rfl fun h _ _=>?_;obtain⟨bG,ct⟩:=x;obtain⟨tr,o5⟩:=y;have dO:∀(u:Int) (b:Bool) (ty:TypeId),ec (some (.af [.ad u,.bool b] ty)) false 1 0 0 1=some (.ad u):=fun _ _ _=>rfl;have cY:∀(u:Int) (b:Bool) (ty:TypeId),ec (some (.af [.ad u,.bool b] ty)) false 1 0 1 1=some (.bool b):=fun _ _ _=>rfl;unfold cE.lt;by_cases h1:bG<tr
 ·simp only[Om,go_sem,seval,wy,nh,dO,cY,h1]
 ·by_cases ae:bG=tr
  ·subst ae;cases ct<;>cases o5<;>simp only[Om,go_sem,seval,wy,nh,dO,cY,h1]
  ·simp only[Om,go_sem,seval,wy,nh,dO,cY,h1,ae]
theorem ayY{v:V}{l:List b1}[bP:aK a](s:bB a v 2 (dv l))(au:l.length<1000000000):aS J a 107 [v] (.bool (ix l)):=by
 refine aS.bE ak.afW rfl fun h ca g=>?_;simp only[afV,go_sem,seval];refine lU (fun m t=>∃I h1 i,t=⟨I,[],h1⟩/\aj h h1/\m=l.length-i/\1<=i/\i<=l.length+1/\ix l=ix (l.drop (i-1))/\I.gt 0=v/\I.gt 3=.ad (i:Nat)) ?_ (m:=l.length-1) ⟨_,_,1,rfl,an,rfl,a1 _,by omega,by rw[sb,iL],?_,?_⟩
 ·rintro m t ⟨I,h1,i,rfl,aB,rfl,uP,m3,e,bq,aR⟩;have bW:=aB.bx;have dx:aj a h1:=g.aG aB;by_cases ai:i<l.length
  ·obtain⟨y,ax⟩:=bI ai;obtain⟨x,ab⟩:=bI (l:=l) (i:=i-1) (by omega);have ay:((i:Int)<(l.length:Int)):=by omega
   have b5:b8 .i64 ((i:Int) -1)=((i-1:Nat):Int):=pM uP (by omega)
   have bJ:=s.addr (i:=i-1) (by rw[c9];omega);have g8:=s.addr (i:=i) (by rw[c9];omega);have co:=ajZ (J:=J) (a:=h) x y;have a3:l.drop (i-1)=x::y::l.drop (i+1):=by
    rw[en ab,show i-1+1=i by omega,en ax]
   have bN:ix l=(lt x y&&ix (l.drop i)):=by rw[e,a3,en ax];rfl
   cases zo:lt x y with
   |true=>
    rw[zo]at co;simp only[go_sem,seval,bq,aR,s.a2,c9,ay,b5,bJ,g8,s.bM (kd ab),s.bM (kd ax),co.bL,cG (show i<9223372036854775807 by omega)];refine⟨l.length-(i+1),by omega,_,_,i+1,rfl,an,rfl,by omega,by omega,?_,by simp only[go_sem,seval,bq],by simp only[go_sem,seval]⟩;rw[bN,zo,ju,GH]
   |false=>
    rw[zo]at co;have rB:ix l=false:=by rw[bN,zo];rfl
    simp only[go_sem,seval,bq,aR,s.a2,c9,ay,b5,bJ,g8,s.bM (kd ab),s.bM (kd ax),co.bL,rB]
  ·have ay:¬((i:Int)<(l.length:Int)):=by omega
   have bN:ix l=true:=by
    rw[e];have:(l.drop (i-1)).length<=1:=by rw[jG];omega
    match l.drop (i-1),this with
    |[],_=>rfl
    |[_],_=>rfl
   simp only[go_sem,seval,bq,aR,s.a2,c9,ay,bN]
 ·simp only[go_sem,seval]
 ·simp only[go_sem,seval]
theorem adz{v w:V}{l m:List b1}[bP:aK a](s:bB a v 2 (dv l))(r:bB a w 2 (dv m))(au:l.length<1000000000):aS J a 13 [v,w] (.bool (decide (l=m))):=by
 refine aS.bE ak.h9 rfl fun h ca g=>?_;by_cases qX:l.length=m.length
 ·have sI:((l.length:Nat):Int)=((m.length:Nat):Int):=by omega
  simp only[vT,go_sem,seval,s.a2,r.a2,c9,sI,ne_eq,BQ];refine dK l.length (fun i t=>∃I h1,t=⟨I,[],h1⟩/\aj h h1/\l.take i=m.take i/\I.gt 0=v/\I.gt 1=w/\I.gt 5=.ad (i:Nat)) ?_ ?_ (dk _) ⟨_,_,rfl,an,rfl,?_,?_,?_⟩
  ·rintro i t ai ⟨I,h1,rfl,aB,e,bA,aN,eY⟩;have bW:=aB.bx;have dx:aj a h1:=g.aG aB;obtain⟨x,ab⟩:=bI ai;obtain⟨y,ax⟩:=bI (l:=m) (i:=i) (by omega);have ay:((i:Int)<(l.length:Int)):=by omega
   have bJ:=s.addr (i:=i) (by rw[c9];omega);have g8:=r.addr (i:=i) (by rw[c9];omega);by_cases fJ:x=y
   ·subst fJ;simp only[go_sem,seval,bA,aN,eY,s.a2,c9,ay,bJ,g8,s.bM (kd ab),r.bM (kd ax),GM,cG (show i<9223372036854775807 by omega)];refine⟨_,_,rfl,an,by rw[nq ab,nq ax,e],?_,?_,?_⟩
    all_goals simp only[go_sem,seval,bA,aN]
   ·have px:¬((x.1,x.2)=(y.1,y.2)):=fJ
    have bV:¬l=m:=by rintro rfl;rw[ab]at ax;cases ax;exact fJ rfl
    simp only[go_sem,seval,bA,aN,eY,s.a2,c9,ay,bJ,g8,s.bM (kd ab),r.bM (kd ax),GM,px,bV]
  ·rintro t ⟨I,h1,rfl,aB,e,bA,aN,eY⟩;have bW:=aB.bx;have dx:aj a h1:=g.aG aB;have ay:¬((l.length:Int)<(l.length:Int)):=by omega
   rw[g5,qX,g5]at e;simp only[go_sem,seval,bA,eY,s.a2,c9,ay,e,nW]
  all_goals simp only[go_sem,seval]
 ·have sI:¬((l.length:Nat):Int)=((m.length:Nat):Int):=by omega
  have bV:¬l=m:=by rintro rfl;exact qX rfl
  simp only[vT,go_sem,seval,s.a2,r.a2,c9,sI,bV,ne_eq,BR]
end
section
open Form
variable {J:Prog}[ak J]{a:H}
theorem atY:cJ J a 30 [] (fun w h=>bB h w 1 (qk tg)):=by
 refine cJ.bE ak.qW rfl fun h ca g=>?_;have ah:∀(dO cY k7 im EO kj H4 yB H5 H6 Jo:List Nat) (ty:TypeId),g6 ty 1 11 [.str []] [(0,1,.str dO),(1,1,.str cY),(2,1,.str k7),(3,1,.str im),(4,1,.str EO),(5,1,.str kj),(6,1,.str H4),(7,1,.str yB),(8,1,.str H5),(9,1,.str H6),(10,1,.str Jo)]=some (.af [.str dO,.str cY,.str k7,.str im,.str EO,.str kj,.str H4,.str yB,.str H5,.str H6,.str Jo] ty,fun f=>.ag f 0 0 11 1 (some 11)):=fun _ _ _ _ _ _ _ _ _ _ _ _=>rfl;simp only[abf,go_sem,seval,ah];have s:=Ht (h:=h.new (.af (tg.map V.str) 9)) (f:=h.next) (aF:=tg.map V.str) (ty:=9) ef (n:=11) rfl (some 11);rw[<-aIX]at s;exact s
theorem w4(n:Int):aS J a 7 [.ad n] (.bk [.str (Hl n).1,.ad (Hl n).2]):=by
 refine aS.bE ak.cH rfl fun h ca g=>?_;unfold Hl;by_cases av:n<0
 ·rw[bl (.inl av)];simp only[EH,go_sem,seval,av]
 ·by_cases h1:11<=n
  ·rw[bl (.inr h1)];simp only[EH,go_sem,seval,av,h1]
  ·rw[bf (by omega)];obtain⟨m,rfl⟩:∃m:Nat,n=m:=⟨n.toNat,by omega⟩;have hm:m<tg.length:=by have:tg.length=11:=rfl;omega
   obtain⟨x,ab⟩:=bI hm;rw[show(m:Int).toNat=m by omega,ab,hC];simp only[EH,go_sem,seval,av,h1];refine(atY (J:=J) (a:=h)).run fun w ae aY c3 s=>?_;have bJ:=s.addr (i:=m) (by rw[ow];exact hm);simp only[go_sem,seval,bJ,s.bM (Em ab)]
end
abbrev Qh:=@List.any_nil
section
open Form
variable {J:Prog}[ak J]{a:H}
theorem aj0(x:Int):aS J a 248 [.ad x] (rX (x,false)):=by
 refine aS.bE ak.ahl rfl fun h ca g=>?_;simp only[ahk,go_sem,seval,ajM,Ny,mr]
theorem aj1(x:Int):aS J a 249 [.ad x] (rX (x,true)):=by
 refine aS.bE ak.ahn rfl fun h ca g=>?_;simp only[ahm,go_sem,seval,KY,Ny,mr]
theorem ayZ{v:V}{l:List b1}[bP:aK a](s:bB a v 2 (dv l))(au:l.length<1000000000):aS J a 117 [v] (.bool (!l.any fun x=>decide (x.1<0))):=by
 refine aS.bE ak.agb rfl fun h ca g=>?_;simp only[aga,go_sem,seval];refine dK l.length (fun i t=>∃I,t=⟨I,[],h⟩/\(l.any fun x=>decide (x.1<0))=((l.drop i).any fun x=>decide (x.1<0))/\I.gt 0=v/\I.gt 3=.ad (i:Nat)) ?_ ?_ (dk _) ⟨_,rfl,rfl,?_,?_⟩
 ·rintro i t ai ⟨I,rfl,e,bA,bO⟩;obtain⟨x,ab⟩:=bI ai;have ay:((i:Int)<(l.length:Int)):=by omega
  have ck:i<(dv l).length:=by rw[c9];exact ai
  rw[en ab,yc]at e;by_cases av:x.1<0
  ·rw[ke av,uk]at e;simp only[go_sem,seval,bA,bO,s.a2,c9,ay,s.addr ck,s.er ck,s.hn (kd ab),av,e]
  ·rw[jS av,sf]at e;simp only[go_sem,seval,bA,bO,s.a2,c9,ay,s.addr ck,s.er ck,s.hn (kd ab),av,cG (show i<9223372036854775807 by omega)];refine⟨_,rfl,e,?_,?_⟩
   all_goals simp only[go_sem,seval,bA]
 ·rintro t ⟨I,rfl,e,bA,bO⟩;have ay:¬((l.length:Int)<(l.length:Int)):=by omega
  rw[fp,Qh]at e;simp only[go_sem,seval,bA,bO,s.a2,c9,ay,e]
 all_goals simp only[go_sem,seval]
theorem aj2{w:V}{K:List Int}[bP:aK a](s:bB a w 1 (dH K))(j0:2<=K.length)(m:Int):cJ J a 251 [.ad m,w] (fun z h=>pn h z (both m K)):=by
 refine cJ.bE ak.ahr rfl fun h ca g=>?_;have eL:=fun x:Int=>aj0 (J:=J) (a:=h) x;have ep:=fun x:Int=>aj1 (J:=J) (a:=h) x;obtain⟨x,ab⟩:=bI (l:=K) (i:=0) (by omega);obtain⟨y,ax⟩:=bI (l:=K) (i:=1) (by omega);have qc:jP 1 w (.ad 0)=some (uN w 1 0):=s.addr (i:=0) (by rw[c7];omega);have tZ:jP 1 w (.ad 1)=some (uN w 1 1):=s.addr (i:=1) (by rw[c7];omega);have qd:=s.bM (gn ab);have ld1:=s.bM (gn ax);have ah:both m K=[[(m,true),(x,true),(y,false)],[(m,true),(x,false),(y,true)],[(m,false),(x,false),(y,false)],[(m,false),(x,true),(y,true)]]:=by
  unfold both;rw[ab,ax];rfl
 rw[ah];simp(config:={maxSteps:=2000000}) only[ahq,go_sem,seval,qc,tZ,qd,ld1,(eL _).cl,(ep _).cl,(eL _).bL,(ep _).bL,bQ,l4,l6];have fin:∀{aX:H} {f:P} {aF:List V} {cs:List (List b1)} {k:Nat},aX.get f=some (.af aF 43) ->aF.length=k->cs.length=k->(∀(i:Nat) (v:V) (x:List b1),aF[i]?=some v->cs[i]?=some x->bB aX v 2 (dv x)) ->pn aX (.ag f 0 0 k 1 (some k)) cs:=fun e h1 ae az=>Wi e h1 ae _ az;refine fin (by simp only[go_sem,seval,bQ];rfl) rfl rfl ?_;rintro i v c ar U
 match i,ar,U with
 |0,ar,U=>cases ar;cases U;exact iY (ty:=62) (by simp only[go_sem,seval,bQ];rfl) rfl _
 |1,ar,U=>cases ar;cases U;exact iY (ty:=62) (by simp only[go_sem,seval,bQ];rfl) rfl _
 |2,ar,U=>cases ar;cases U;exact iY (ty:=62) (by simp only[go_sem,seval,bQ];rfl) rfl _
 |3,ar,U=>cases ar;cases U;exact iY (ty:=62) (by simp only[go_sem,seval,bQ];rfl) rfl _
 |i+4,ar,U=>simp at ar
def A0:List Int:=[3,4,2,2,1,1,1,1,2,3,3,4,3,4,2,2,1,2,3,3,3,2,2,3,1,1,2,2,1,1,1,2,2,1,1,1,1,1]
theorem aj3:cJ J a 344 [] (fun w h=>bB h w 1 (dH A0)):=by
 refine cJ.bE ak.ahX rfl fun h ca g=>?_;have ah:∀ty:TypeId,g6 ty 1 38 [.ad 0] [(0,1,.ad 3),(1,1,.ad 4),(2,1,.ad 2),(3,1,.ad 2),(4,1,.ad 1),(5,1,.ad 1),(6,1,.ad 1),(7,1,.ad 1),(8,1,.ad 2),(9,1,.ad 3),(10,1,.ad 3),(11,1,.ad 4),(12,1,.ad 3),(13,1,.ad 4),(14,1,.ad 2),(15,1,.ad 2),(16,1,.ad 1),(17,1,.ad 2),(18,1,.ad 3),(19,1,.ad 3),(20,1,.ad 3),(21,1,.ad 2),(22,1,.ad 2),(23,1,.ad 3),(24,1,.ad 1),(25,1,.ad 1),(26,1,.ad 2),(27,1,.ad 2),(28,1,.ad 1),(29,1,.ad 1),(30,1,.ad 1),(31,1,.ad 2),(32,1,.ad 2),(33,1,.ad 1),(34,1,.ad 1),(35,1,.ad 1),(36,1,.ad 1),(37,1,.ad 1)]=some (.af (A0.map fun n=>.ad n) ty,fun f=>.ag f 0 0 38 1 (some 38)):=fun _=>rfl;simp only[ahW,go_sem,seval,ah];have s:=Ht (h:=h.new (.af (A0.map fun n=>V.ad n) 3)) (f:=h.next) (aF:=A0.map fun n=>.ad n) (ty:=3) ef (n:=38) rfl (some 38);rw[<-Hp]at s;exact s
def PX(n:Int):Int:=if n<0\/38<=n then 8 else 0
theorem ay0(n:Int):∃k:Int,aS J a 228 [.ad n] (.bk [.ad k,.ad (PX n)]):=by
 refine⟨if n<0\/38<=n then 0 else(A0[n.toNat]?).getD 0,aS.bE ak.agS rfl fun h ca g=>?_⟩;unfold PX;have E8:A0.length=38:=rfl;by_cases av:n<0
 ·rw[bl (.inl av),bl (.inl av)];simp only[VD,go_sem,seval,av]
 ·obtain⟨E,bX⟩:∃E:Int,E=(if n<0\/38<=n then 8 else 0):=⟨_,rfl⟩;obtain⟨k,hk⟩:∃k:Int,k=(if n<0\/38<=n then 0 else(A0[n.toNat]?).getD 0):=⟨_,rfl⟩;rw[<-bX,<-hk];simp only[VD,go_sem,seval,av];refine(aj3 (J:=J) (a:=h)).run fun w ae aY c3 s=>?_;by_cases h1:38<=n
  ·rw[bl (.inr h1)]at bX hk;subst bX;subst hk;simp only[go_sem,seval,s.a2,c7,E8,h1,Int.cast_ofNat_Int]
  ·rw[bf (by omega)]at bX hk;obtain⟨m,rfl⟩:∃m:Nat,n=m:=⟨n.toNat,by omega⟩;have hm:m<A0.length:=by omega
   obtain⟨x,ab⟩:=bI hm;rw[show(m:Int).toNat=m by omega,ab,hC]at hk;subst bX;subst hk;simp only[go_sem,seval,s.a2,c7,E8,h1,Int.cast_ofNat_Int];refine(aj3 (J:=J) (a:=ae)).run fun jW az b4 fo n0=>?_;have l3:aj h az:=aY.aG b4;have bJ:=n0.addr (i:=m) (by rw[c7];exact hm);simp only[go_sem,seval,bJ,n0.bM (gn ab)]
theorem eF(r:Int)(c p q n t:V)(ty:TypeId):ec (some (.af [.ad r,c,p,q,n,t] ty)) false 1 0 0 1=some (.ad r):=rfl
theorem ez(r:Int)(c p q n t:V)(ty:TypeId):ec (some (.af [.ad r,c,p,q,n,t] ty)) false 1 0 1 1=some c:=rfl
theorem ft(r:Int)(c p q n t:V)(ty:TypeId):ec (some (.af [.ad r,c,p,q,n,t] ty)) false 1 0 2 1=some p:=rfl
theorem ee(r:Int)(c p q n t:V)(ty:TypeId):ec (some (.af [.ad r,c,p,q,n,t] ty)) false 1 0 3 1=some q:=rfl
theorem fX(r:Int)(c p q n t:V)(ty:TypeId):ec (some (.af [.ad r,c,p,q,n,t] ty)) false 1 0 4 1=some n:=rfl
theorem fC(r:Int)(c p q n t:V)(ty:TypeId):ec (some (.af [.ad r,c,p,q,n,t] ty)) false 1 0 5 1=some t:=rfl
theorem e9(f:P):hM 0 1 (.ptr f 0 0 6)=some (.ptr f 0 0 1):=rfl
theorem eO(f:P):hM 1 1 (.ptr f 0 0 6)=some (.ptr f 0 1 1):=rfl
theorem fD(f:P):hM 2 1 (.ptr f 0 0 6)=some (.ptr f 0 2 1):=rfl
theorem fg(f:P):hM 3 1 (.ptr f 0 0 6)=some (.ptr f 0 3 1):=rfl
theorem f3(f:P):hM 4 1 (.ptr f 0 0 6)=some (.ptr f 0 4 1):=rfl
theorem fS(f:P):hM 5 1 (.ptr f 0 0 6)=some (.ptr f 0 5 1):=rfl
theorem aEm[bP:aK a]{s:Form.eX}{cS cC bg cK cv:V}{Y:Nat->V}{S W:Nat->Nat->V}(r:ks a s cS cC bg cK cv Y S W)(b:nH s)(q:s.cz=0):aS J a 108 [ia s cS cC bg cK cv] (.bool (iM s)):=by
 refine aS.bE ak.zj rfl fun h ca g=>?_;have lc:=r.cl.a2;have dG:=r.fl.a2;have cZ:=r.i3.a2;have eV:=r.hx.a2;have lt:=r.eA.a2;rw[c9]at lc;rw[c7]at dG cZ;rw[ow]at eV;rw[dL,d4]at lt;have cB:=b.fl;have wp:b8 .i64 ((s.cn.length:Int) -1)=(s.cn.length:Int) -1:=gz (by omega) (by omega)
 have f5:((s.cn.length:Int)=0)↔s.cn.length=0:=by omega
 have eh:((s.dC.length:Int)=0)↔s.dC.length=0:=by omega
 have f6:((s.args.length:Int)=0)↔s.args.length=0:=by omega
 have f7:((s.args.length:Int)=1)↔s.args.length=1:=by omega
 have f8:((s.cp.length:Int)=0)↔s.cp.length=0:=by omega
 have f9:((1:Int)<=(s.cp.length:Int))↔1<=s.cp.length:=by omega
 have gf:((s.cp.length:Int)<=12)↔s.cp.length<=12:=by omega
 have gg:((s.cp.length:Int)<=10)↔s.cp.length<=10:=by omega
 have ga:((2:Int)<=(s.cn.length:Int))↔2<=s.cn.length:=by omega
 have gh:((s.cn.length:Int)<=100)↔s.cn.length<=100:=by omega
 have gb:((s.dC.length:Int)=(s.clause.length:Int))↔s.dC.length=s.clause.length:=by omega
 have gd:((s.args.length:Int)=(s.cn.length:Int) -1)↔s.args.length+1=s.cn.length:=by omega
 unfold iM;rw[bl (.inl q)];by_cases fy:s.cn.length=0
 ·by_cases gq:s.dC.length=0
  ·by_cases bJ:s.args.length=1
   ·by_cases lz:s.cp.length=0
    ·simp only[g4,go_sem,seval,e9,eO,fD,fg,f3,fS,eF,ez,ft,ee,fX,fC,lc,dG,cZ,eV,lt,wp,f5,eh,f6,f7,f8,f9,gf,gg,ga,gh,gb,gd,q,fy,gq,bJ,lz]
    ·simp only[g4,go_sem,seval,e9,eO,fD,fg,f3,fS,eF,ez,ft,ee,fX,fC,lc,dG,cZ,eV,lt,wp,f5,eh,f6,f7,f8,f9,gf,gg,ga,gh,gb,gd,q,fy,gq,bJ,lz]
   ·simp only[g4,go_sem,seval,e9,eO,fD,fg,f3,fS,eF,ez,ft,ee,fX,fC,lc,dG,cZ,eV,lt,wp,f5,eh,f6,f7,f8,f9,gf,gg,ga,gh,gb,gd,q,fy,gq,bJ]
  ·simp only[g4,go_sem,seval,e9,eO,fD,fg,f3,fS,eF,ez,ft,ee,fX,fC,lc,dG,cZ,eV,lt,wp,f5,eh,f6,f7,f8,f9,gf,gg,ga,gh,gb,gd,q,fy,gq]
 ·simp only[g4,go_sem,seval,e9,eO,fD,fg,f3,fS,eF,ez,ft,ee,fX,fC,lc,dG,cZ,eV,lt,wp,f5,eh,f6,f7,f8,f9,gf,gg,ga,gh,gb,gd,q,fy]
theorem aEn[bP:aK a]{s:Form.eX}{cS cC bg cK cv:V}{Y:Nat->V}{S W:Nat->Nat->V}(r:ks a s cS cC bg cK cv Y S W)(b:nH s)(q:s.cz=2):aS J a 108 [ia s cS cC bg cK cv] (.bool (iM s)):=by
 refine aS.bE ak.zj rfl fun h ca g=>?_;have lc:=r.cl.a2;have dG:=r.fl.a2;have cZ:=r.i3.a2;have eV:=r.hx.a2;have lt:=r.eA.a2;rw[c9]at lc;rw[c7]at dG cZ;rw[ow]at eV;rw[dL,d4]at lt;have cB:=b.fl;have wp:b8 .i64 ((s.cn.length:Int) -1)=(s.cn.length:Int) -1:=gz (by omega) (by omega)
 have f5:((s.cn.length:Int)=0)↔s.cn.length=0:=by omega
 have eh:((s.dC.length:Int)=0)↔s.dC.length=0:=by omega
 have f6:((s.args.length:Int)=0)↔s.args.length=0:=by omega
 have f7:((s.args.length:Int)=1)↔s.args.length=1:=by omega
 have f8:((s.cp.length:Int)=0)↔s.cp.length=0:=by omega
 have f9:((1:Int)<=(s.cp.length:Int))↔1<=s.cp.length:=by omega
 have gf:((s.cp.length:Int)<=12)↔s.cp.length<=12:=by omega
 have gg:((s.cp.length:Int)<=10)↔s.cp.length<=10:=by omega
 have ga:((2:Int)<=(s.cn.length:Int))↔2<=s.cn.length:=by omega
 have gh:((s.cn.length:Int)<=100)↔s.cn.length<=100:=by omega
 have gb:((s.dC.length:Int)=(s.clause.length:Int))↔s.dC.length=s.clause.length:=by omega
 have gd:((s.args.length:Int)=(s.cn.length:Int) -1)↔s.args.length+1=s.cn.length:=by omega
 unfold iM;rw[bl (.inr q)];by_cases fy:s.cn.length=0
 ·by_cases gq:s.dC.length=0
  ·by_cases bJ:s.args.length=1
   ·by_cases lz:s.cp.length=0
    ·simp only[g4,go_sem,seval,e9,eO,fD,fg,f3,fS,eF,ez,ft,ee,fX,fC,lc,dG,cZ,eV,lt,wp,f5,eh,f6,f7,f8,f9,gf,gg,ga,gh,gb,gd,q,fy,gq,bJ,lz]
    ·simp only[g4,go_sem,seval,e9,eO,fD,fg,f3,fS,eF,ez,ft,ee,fX,fC,lc,dG,cZ,eV,lt,wp,f5,eh,f6,f7,f8,f9,gf,gg,ga,gh,gb,gd,q,fy,gq,bJ,lz]
   ·simp only[g4,go_sem,seval,e9,eO,fD,fg,f3,fS,eF,ez,ft,ee,fX,fC,lc,dG,cZ,eV,lt,wp,f5,eh,f6,f7,f8,f9,gf,gg,ga,gh,gb,gd,q,fy,gq,bJ]
  ·simp only[g4,go_sem,seval,e9,eO,fD,fg,f3,fS,eF,ez,ft,ee,fX,fC,lc,dG,cZ,eV,lt,wp,f5,eh,f6,f7,f8,f9,gf,gg,ga,gh,gb,gd,q,fy,gq]
 ·simp only[g4,go_sem,seval,e9,eO,fD,fg,f3,fS,eF,ez,ft,ee,fX,fC,lc,dG,cZ,eV,lt,wp,f5,eh,f6,f7,f8,f9,gf,gg,ga,gh,gb,gd,q,fy]
theorem aEo[bP:aK a]{s:Form.eX}{cS cC bg cK cv:V}{Y:Nat->V}{S W:Nat->Nat->V}(r:ks a s cS cC bg cK cv Y S W)(b:nH s)(q:s.cz=3):aS J a 108 [ia s cS cC bg cK cv] (.bool (iM s)):=by
 refine aS.bE ak.zj rfl fun h ca g=>?_;have lc:=r.cl.a2;have dG:=r.fl.a2;have cZ:=r.i3.a2;have eV:=r.hx.a2;have lt:=r.eA.a2;rw[c9]at lc;rw[c7]at dG cZ;rw[ow]at eV;rw[dL,d4]at lt;have cB:=b.fl;have wp:b8 .i64 ((s.cn.length:Int) -1)=(s.cn.length:Int) -1:=gz (by omega) (by omega)
 have f5:((s.cn.length:Int)=0)↔s.cn.length=0:=by omega
 have eh:((s.dC.length:Int)=0)↔s.dC.length=0:=by omega
 have f6:((s.args.length:Int)=0)↔s.args.length=0:=by omega
 have f7:((s.args.length:Int)=1)↔s.args.length=1:=by omega
 have f8:((s.cp.length:Int)=0)↔s.cp.length=0:=by omega
 have f9:((1:Int)<=(s.cp.length:Int))↔1<=s.cp.length:=by omega
 have gf:((s.cp.length:Int)<=12)↔s.cp.length<=12:=by omega
 have gg:((s.cp.length:Int)<=10)↔s.cp.length<=10:=by omega
 have ga:((2:Int)<=(s.cn.length:Int))↔2<=s.cn.length:=by omega
 have gh:((s.cn.length:Int)<=100)↔s.cn.length<=100:=by omega
 have gb:((s.dC.length:Int)=(s.clause.length:Int))↔s.dC.length=s.clause.length:=by omega
 have gd:((s.args.length:Int)=(s.cn.length:Int) -1)↔s.args.length+1=s.cn.length:=by omega
 unfold iM;rw[bf (by rw[q];decide),bl (.inl q)];by_cases fy:s.cn.length=0
 ·by_cases gq:s.dC.length=0
  ·by_cases bJ:s.args.length=1
   ·by_cases fk:1<=s.cp.length
    ·by_cases Fy:s.cp.length<=12
     ·simp only[g4,go_sem,seval,e9,eO,fD,fg,f3,fS,eF,ez,ft,ee,fX,fC,lc,dG,cZ,eV,lt,wp,f5,eh,f6,f7,f8,f9,gf,gg,ga,gh,gb,gd,q,fy,gq,bJ,fk,Fy]
     ·simp only[g4,go_sem,seval,e9,eO,fD,fg,f3,fS,eF,ez,ft,ee,fX,fC,lc,dG,cZ,eV,lt,wp,f5,eh,f6,f7,f8,f9,gf,gg,ga,gh,gb,gd,q,fy,gq,bJ,fk,Fy]
    ·simp only[g4,go_sem,seval,e9,eO,fD,fg,f3,fS,eF,ez,ft,ee,fX,fC,lc,dG,cZ,eV,lt,wp,f5,eh,f6,f7,f8,f9,gf,gg,ga,gh,gb,gd,q,fy,gq,bJ,fk]
   ·simp only[g4,go_sem,seval,e9,eO,fD,fg,f3,fS,eF,ez,ft,ee,fX,fC,lc,dG,cZ,eV,lt,wp,f5,eh,f6,f7,f8,f9,gf,gg,ga,gh,gb,gd,q,fy,gq,bJ]
  ·simp only[g4,go_sem,seval,e9,eO,fD,fg,f3,fS,eF,ez,ft,ee,fX,fC,lc,dG,cZ,eV,lt,wp,f5,eh,f6,f7,f8,f9,gf,gg,ga,gh,gb,gd,q,fy,gq]
 ·simp only[g4,go_sem,seval,e9,eO,fD,fg,f3,fS,eF,ez,ft,ee,fX,fC,lc,dG,cZ,eV,lt,wp,f5,eh,f6,f7,f8,f9,gf,gg,ga,gh,gb,gd,q,fy]
theorem aEp[bP:aK a]{s:Form.eX}{cS cC bg cK cv:V}{Y:Nat->V}{S W:Nat->Nat->V}(r:ks a s cS cC bg cK cv Y S W)(b:nH s)(q:s.cz=4):aS J a 108 [ia s cS cC bg cK cv] (.bool (iM s)):=by
 refine aS.bE ak.zj rfl fun h ca g=>?_;have lc:=r.cl.a2;have dG:=r.fl.a2;have cZ:=r.i3.a2;have eV:=r.hx.a2;have lt:=r.eA.a2;rw[c9]at lc;rw[c7]at dG cZ;rw[ow]at eV;rw[dL,d4]at lt;have cB:=b.fl;have wp:b8 .i64 ((s.cn.length:Int) -1)=(s.cn.length:Int) -1:=gz (by omega) (by omega)
 have f5:((s.cn.length:Int)=0)↔s.cn.length=0:=by omega
 have eh:((s.dC.length:Int)=0)↔s.dC.length=0:=by omega
 have f6:((s.args.length:Int)=0)↔s.args.length=0:=by omega
 have f7:((s.args.length:Int)=1)↔s.args.length=1:=by omega
 have f8:((s.cp.length:Int)=0)↔s.cp.length=0:=by omega
 have f9:((1:Int)<=(s.cp.length:Int))↔1<=s.cp.length:=by omega
 have gf:((s.cp.length:Int)<=12)↔s.cp.length<=12:=by omega
 have gg:((s.cp.length:Int)<=10)↔s.cp.length<=10:=by omega
 have ga:((2:Int)<=(s.cn.length:Int))↔2<=s.cn.length:=by omega
 have gh:((s.cn.length:Int)<=100)↔s.cn.length<=100:=by omega
 have gb:((s.dC.length:Int)=(s.clause.length:Int))↔s.dC.length=s.clause.length:=by omega
 have gd:((s.args.length:Int)=(s.cn.length:Int) -1)↔s.args.length+1=s.cn.length:=by omega
 unfold iM;rw[bf (by rw[q];decide),bl (.inr q)];by_cases fy:s.cn.length=0
 ·by_cases gq:s.dC.length=0
  ·by_cases bJ:s.args.length=1
   ·by_cases fk:1<=s.cp.length
    ·by_cases Fy:s.cp.length<=12
     ·simp only[g4,go_sem,seval,e9,eO,fD,fg,f3,fS,eF,ez,ft,ee,fX,fC,lc,dG,cZ,eV,lt,wp,f5,eh,f6,f7,f8,f9,gf,gg,ga,gh,gb,gd,q,fy,gq,bJ,fk,Fy]
     ·simp only[g4,go_sem,seval,e9,eO,fD,fg,f3,fS,eF,ez,ft,ee,fX,fC,lc,dG,cZ,eV,lt,wp,f5,eh,f6,f7,f8,f9,gf,gg,ga,gh,gb,gd,q,fy,gq,bJ,fk,Fy]
    ·simp only[g4,go_sem,seval,e9,eO,fD,fg,f3,fS,eF,ez,ft,ee,fX,fC,lc,dG,cZ,eV,lt,wp,f5,eh,f6,f7,f8,f9,gf,gg,ga,gh,gb,gd,q,fy,gq,bJ,fk]
   ·simp only[g4,go_sem,seval,e9,eO,fD,fg,f3,fS,eF,ez,ft,ee,fX,fC,lc,dG,cZ,eV,lt,wp,f5,eh,f6,f7,f8,f9,gf,gg,ga,gh,gb,gd,q,fy,gq,bJ]
  ·simp only[g4,go_sem,seval,e9,eO,fD,fg,f3,fS,eF,ez,ft,ee,fX,fC,lc,dG,cZ,eV,lt,wp,f5,eh,f6,f7,f8,f9,gf,gg,ga,gh,gb,gd,q,fy,gq]
 ·simp only[g4,go_sem,seval,e9,eO,fD,fg,f3,fS,eF,ez,ft,ee,fX,fC,lc,dG,cZ,eV,lt,wp,f5,eh,f6,f7,f8,f9,gf,gg,ga,gh,gb,gd,q,fy]
theorem aEq[bP:aK a]{s:Form.eX}{cS cC bg cK cv:V}{Y:Nat->V}{S W:Nat->Nat->V}(r:ks a s cS cC bg cK cv Y S W)(b:nH s)(q:s.cz=9):aS J a 108 [ia s cS cC bg cK cv] (.bool (iM s)):=by
 refine aS.bE ak.zj rfl fun h ca g=>?_;have lc:=r.cl.a2;have dG:=r.fl.a2;have cZ:=r.i3.a2;have eV:=r.hx.a2;have lt:=r.eA.a2;rw[c9]at lc;rw[c7]at dG cZ;rw[ow]at eV;rw[dL,d4]at lt;have cB:=b.fl;have wp:b8 .i64 ((s.cn.length:Int) -1)=(s.cn.length:Int) -1:=gz (by omega) (by omega)
 have f5:((s.cn.length:Int)=0)↔s.cn.length=0:=by omega
 have eh:((s.dC.length:Int)=0)↔s.dC.length=0:=by omega
 have f6:((s.args.length:Int)=0)↔s.args.length=0:=by omega
 have f7:((s.args.length:Int)=1)↔s.args.length=1:=by omega
 have f8:((s.cp.length:Int)=0)↔s.cp.length=0:=by omega
 have f9:((1:Int)<=(s.cp.length:Int))↔1<=s.cp.length:=by omega
 have gf:((s.cp.length:Int)<=12)↔s.cp.length<=12:=by omega
 have gg:((s.cp.length:Int)<=10)↔s.cp.length<=10:=by omega
 have ga:((2:Int)<=(s.cn.length:Int))↔2<=s.cn.length:=by omega
 have gh:((s.cn.length:Int)<=100)↔s.cn.length<=100:=by omega
 have gb:((s.dC.length:Int)=(s.clause.length:Int))↔s.dC.length=s.clause.length:=by omega
 have gd:((s.args.length:Int)=(s.cn.length:Int) -1)↔s.args.length+1=s.cn.length:=by omega
 unfold iM;rw[bf (by rw[q];decide),bf (by rw[q];decide),bl q];by_cases fy:s.cn.length=0
 ·by_cases gq:s.dC.length=0
  ·by_cases bJ:s.args.length=1
   ·by_cases adA:s.cp.length<=10
    ·simp only[g4,go_sem,seval,e9,eO,fD,fg,f3,fS,eF,ez,ft,ee,fX,fC,lc,dG,cZ,eV,lt,wp,f5,eh,f6,f7,f8,f9,gf,gg,ga,gh,gb,gd,q,fy,gq,bJ,adA]
    ·simp only[g4,go_sem,seval,e9,eO,fD,fg,f3,fS,eF,ez,ft,ee,fX,fC,lc,dG,cZ,eV,lt,wp,f5,eh,f6,f7,f8,f9,gf,gg,ga,gh,gb,gd,q,fy,gq,bJ,adA]
   ·simp only[g4,go_sem,seval,e9,eO,fD,fg,f3,fS,eF,ez,ft,ee,fX,fC,lc,dG,cZ,eV,lt,wp,f5,eh,f6,f7,f8,f9,gf,gg,ga,gh,gb,gd,q,fy,gq,bJ]
  ·simp only[g4,go_sem,seval,e9,eO,fD,fg,f3,fS,eF,ez,ft,ee,fX,fC,lc,dG,cZ,eV,lt,wp,f5,eh,f6,f7,f8,f9,gf,gg,ga,gh,gb,gd,q,fy,gq]
 ·simp only[g4,go_sem,seval,e9,eO,fD,fg,f3,fS,eF,ez,ft,ee,fX,fC,lc,dG,cZ,eV,lt,wp,f5,eh,f6,f7,f8,f9,gf,gg,ga,gh,gb,gd,q,fy]
theorem aEr[bP:aK a]{s:Form.eX}{cS cC bg cK cv:V}{Y:Nat->V}{S W:Nat->Nat->V}(r:ks a s cS cC bg cK cv Y S W)(b:nH s)(q:s.cz=6):aS J a 108 [ia s cS cC bg cK cv] (.bool (iM s)):=by
 refine aS.bE ak.zj rfl fun h ca g=>?_;have lc:=r.cl.a2;have dG:=r.fl.a2;have cZ:=r.i3.a2;have eV:=r.hx.a2;have lt:=r.eA.a2;rw[c9]at lc;rw[c7]at dG cZ;rw[ow]at eV;rw[dL,d4]at lt;have cB:=b.fl;have wp:b8 .i64 ((s.cn.length:Int) -1)=(s.cn.length:Int) -1:=gz (by omega) (by omega)
 have f5:((s.cn.length:Int)=0)↔s.cn.length=0:=by omega
 have eh:((s.dC.length:Int)=0)↔s.dC.length=0:=by omega
 have f6:((s.args.length:Int)=0)↔s.args.length=0:=by omega
 have f7:((s.args.length:Int)=1)↔s.args.length=1:=by omega
 have f8:((s.cp.length:Int)=0)↔s.cp.length=0:=by omega
 have f9:((1:Int)<=(s.cp.length:Int))↔1<=s.cp.length:=by omega
 have gf:((s.cp.length:Int)<=12)↔s.cp.length<=12:=by omega
 have gg:((s.cp.length:Int)<=10)↔s.cp.length<=10:=by omega
 have ga:((2:Int)<=(s.cn.length:Int))↔2<=s.cn.length:=by omega
 have gh:((s.cn.length:Int)<=100)↔s.cn.length<=100:=by omega
 have gb:((s.dC.length:Int)=(s.clause.length:Int))↔s.dC.length=s.clause.length:=by omega
 have gd:((s.args.length:Int)=(s.cn.length:Int) -1)↔s.args.length+1=s.cn.length:=by omega
 unfold iM;rw[bf (by rw[q];decide),bf (by rw[q];decide),bf (by rw[q];decide),bl q];by_cases fy:s.cn.length=0
 ·by_cases Mo:s.dC.length=s.clause.length
  ·by_cases mW:s.args.length=0
   ·by_cases lz:s.cp.length=0
    ·simp only[g4,go_sem,seval,e9,eO,fD,fg,f3,fS,eF,ez,ft,ee,fX,fC,lc,dG,cZ,eV,lt,wp,f5,eh,f6,f7,f8,f9,gf,gg,ga,gh,gb,gd,q,fy,Mo,mW,lz]
    ·simp only[g4,go_sem,seval,e9,eO,fD,fg,f3,fS,eF,ez,ft,ee,fX,fC,lc,dG,cZ,eV,lt,wp,f5,eh,f6,f7,f8,f9,gf,gg,ga,gh,gb,gd,q,fy,Mo,mW,lz]
   ·simp only[g4,go_sem,seval,e9,eO,fD,fg,f3,fS,eF,ez,ft,ee,fX,fC,lc,dG,cZ,eV,lt,wp,f5,eh,f6,f7,f8,f9,gf,gg,ga,gh,gb,gd,q,fy,Mo,mW]
  ·simp only[g4,go_sem,seval,e9,eO,fD,fg,f3,fS,eF,ez,ft,ee,fX,fC,lc,dG,cZ,eV,lt,wp,f5,eh,f6,f7,f8,f9,gf,gg,ga,gh,gb,gd,q,fy,Mo]
 ·simp only[g4,go_sem,seval,e9,eO,fD,fg,f3,fS,eF,ez,ft,ee,fX,fC,lc,dG,cZ,eV,lt,wp,f5,eh,f6,f7,f8,f9,gf,gg,ga,gh,gb,gd,q,fy]
theorem aGT[bP:aK a]{s:Form.eX}{cS cC bg cK cv:V}{Y:Nat->V}{S W:Nat->Nat->V}(r:ks a s cS cC bg cK cv Y S W)(b:nH s)(q:s.cz=10):aS J a 108 [ia s cS cC bg cK cv] (.bool (iM s)):=by
 refine aS.bE ak.zj rfl fun h ca g=>?_;have lc:=r.cl.a2;have dG:=r.fl.a2;have cZ:=r.i3.a2;have eV:=r.hx.a2;have lt:=r.eA.a2;rw[c9]at lc;rw[c7]at dG cZ;rw[ow]at eV;rw[dL,d4]at lt;have cB:=b.fl;have wp:b8 .i64 ((s.cn.length:Int) -1)=(s.cn.length:Int) -1:=gz (by omega) (by omega)
 have f5:((s.cn.length:Int)=0)↔s.cn.length=0:=by omega
 have eh:((s.dC.length:Int)=0)↔s.dC.length=0:=by omega
 have f6:((s.args.length:Int)=0)↔s.args.length=0:=by omega
 have f7:((s.args.length:Int)=1)↔s.args.length=1:=by omega
 have f8:((s.cp.length:Int)=0)↔s.cp.length=0:=by omega
 have f9:((1:Int)<=(s.cp.length:Int))↔1<=s.cp.length:=by omega
 have gf:((s.cp.length:Int)<=12)↔s.cp.length<=12:=by omega
 have gg:((s.cp.length:Int)<=10)↔s.cp.length<=10:=by omega
 have ga:((2:Int)<=(s.cn.length:Int))↔2<=s.cn.length:=by omega
 have gh:((s.cn.length:Int)<=100)↔s.cn.length<=100:=by omega
 have gb:((s.dC.length:Int)=(s.clause.length:Int))↔s.dC.length=s.clause.length:=by omega
 have gd:((s.args.length:Int)=(s.cn.length:Int) -1)↔s.args.length+1=s.cn.length:=by omega
 unfold iM;rw[bf (by rw[q];decide),bf (by rw[q];decide),bf (by rw[q];decide),bf (by rw[q];decide),bl q];by_cases cO:2<=s.cn.length
 ·by_cases KA:s.cn.length<=100
  ·by_cases gq:s.dC.length=0
   ·by_cases ac:s.args.length+1=s.cn.length
    ·by_cases lz:s.cp.length=0
     ·simp only[g4,go_sem,seval,e9,eO,fD,fg,f3,fS,eF,ez,ft,ee,fX,fC,lc,dG,cZ,eV,lt,wp,f5,eh,f6,f7,f8,f9,gf,gg,ga,gh,gb,gd,q,cO,KA,gq,ac,lz]
     ·simp only[g4,go_sem,seval,e9,eO,fD,fg,f3,fS,eF,ez,ft,ee,fX,fC,lc,dG,cZ,eV,lt,wp,f5,eh,f6,f7,f8,f9,gf,gg,ga,gh,gb,gd,q,cO,KA,gq,ac,lz]
    ·simp only[g4,go_sem,seval,e9,eO,fD,fg,f3,fS,eF,ez,ft,ee,fX,fC,lc,dG,cZ,eV,lt,wp,f5,eh,f6,f7,f8,f9,gf,gg,ga,gh,gb,gd,q,cO,KA,gq,ac]
   ·simp only[g4,go_sem,seval,e9,eO,fD,fg,f3,fS,eF,ez,ft,ee,fX,fC,lc,dG,cZ,eV,lt,wp,f5,eh,f6,f7,f8,f9,gf,gg,ga,gh,gb,gd,q,cO,KA,gq]
  ·simp only[g4,go_sem,seval,e9,eO,fD,fg,f3,fS,eF,ez,ft,ee,fX,fC,lc,dG,cZ,eV,lt,wp,f5,eh,f6,f7,f8,f9,gf,gg,ga,gh,gb,gd,q,cO,KA]
 ·simp only[g4,go_sem,seval,e9,eO,fD,fg,f3,fS,eF,ez,ft,ee,fX,fC,lc,dG,cZ,eV,lt,wp,f5,eh,f6,f7,f8,f9,gf,gg,ga,gh,gb,gd,q,cO]
theorem aEs[bP:aK a]{s:Form.eX}{cS cC bg cK cv:V}{Y:Nat->V}{S W:Nat->Nat->V}(r:ks a s cS cC bg cK cv Y S W)(b:nH s)(ir:¬(s.cz=0\/s.cz=2))(e3:¬(s.cz=3\/s.cz=4))(mj:¬s.cz=9)(pU:¬s.cz=6)(ze:¬s.cz=10):aS J a 108 [ia s cS cC bg cK cv] (.bool (iM s)):=by
 refine aS.bE ak.zj rfl fun h ca g=>?_;have lc:=r.cl.a2;have dG:=r.fl.a2;have cZ:=r.i3.a2;have eV:=r.hx.a2;have lt:=r.eA.a2;rw[c9]at lc;rw[c7]at dG cZ;rw[ow]at eV;rw[dL,d4]at lt;have cB:=b.fl;have wp:b8 .i64 ((s.cn.length:Int) -1)=(s.cn.length:Int) -1:=gz (by omega) (by omega)
 have f5:((s.cn.length:Int)=0)↔s.cn.length=0:=by omega
 have eh:((s.dC.length:Int)=0)↔s.dC.length=0:=by omega
 have f6:((s.args.length:Int)=0)↔s.args.length=0:=by omega
 have f7:((s.args.length:Int)=1)↔s.args.length=1:=by omega
 have f8:((s.cp.length:Int)=0)↔s.cp.length=0:=by omega
 have f9:((1:Int)<=(s.cp.length:Int))↔1<=s.cp.length:=by omega
 have gf:((s.cp.length:Int)<=12)↔s.cp.length<=12:=by omega
 have gg:((s.cp.length:Int)<=10)↔s.cp.length<=10:=by omega
 have ga:((2:Int)<=(s.cn.length:Int))↔2<=s.cn.length:=by omega
 have gh:((s.cn.length:Int)<=100)↔s.cn.length<=100:=by omega
 have gb:((s.dC.length:Int)=(s.clause.length:Int))↔s.dC.length=s.clause.length:=by omega
 have gd:((s.args.length:Int)=(s.cn.length:Int) -1)↔s.args.length+1=s.cn.length:=by omega
 unfold iM;rw[bf ir,bf e3,bf mj,bf pU,bf ze];simp only[not_or]at ir e3;by_cases fy:s.cn.length=0
 ·by_cases gq:s.dC.length=0
  ·by_cases mW:s.args.length=0
   ·by_cases lz:s.cp.length=0
    ·simp only[g4,go_sem,seval,e9,eO,fD,fg,f3,fS,eF,ez,ft,ee,fX,fC,lc,dG,cZ,eV,lt,wp,f5,eh,f6,f7,f8,f9,gf,gg,ga,gh,gb,gd,ir.1,ir.2,e3.1,e3.2,mj,pU,ze,fy,gq,mW,lz]
    ·simp only[g4,go_sem,seval,e9,eO,fD,fg,f3,fS,eF,ez,ft,ee,fX,fC,lc,dG,cZ,eV,lt,wp,f5,eh,f6,f7,f8,f9,gf,gg,ga,gh,gb,gd,ir.1,ir.2,e3.1,e3.2,mj,pU,ze,fy,gq,mW,lz]
   ·simp only[g4,go_sem,seval,e9,eO,fD,fg,f3,fS,eF,ez,ft,ee,fX,fC,lc,dG,cZ,eV,lt,wp,f5,eh,f6,f7,f8,f9,gf,gg,ga,gh,gb,gd,ir.1,ir.2,e3.1,e3.2,mj,pU,ze,fy,gq,mW]
  ·simp only[g4,go_sem,seval,e9,eO,fD,fg,f3,fS,eF,ez,ft,ee,fX,fC,lc,dG,cZ,eV,lt,wp,f5,eh,f6,f7,f8,f9,gf,gg,ga,gh,gb,gd,ir.1,ir.2,e3.1,e3.2,mj,pU,ze,fy,gq]
 ·simp only[g4,go_sem,seval,e9,eO,fD,fg,f3,fS,eF,ez,ft,ee,fX,fC,lc,dG,cZ,eV,lt,wp,f5,eh,f6,f7,f8,f9,gf,gg,ga,gh,gb,gd,ir.1,ir.2,e3.1,e3.2,mj,pU,ze,fy]
theorem ay1[bP:aK a]{s:Form.eX}{cS cC bg cK cv:V}{Y:Nat->V}{S W:Nat->Nat->V}(r:ks a s cS cC bg cK cv Y S W)(b:nH s):aS J a 108 [ia s cS cC bg cK cv] (.bool (iM s)):=by
 by_cases ir:s.cz=0\/s.cz=2
 ·rcases ir with q|q
  ·exact aEm r b q
  ·exact aEn r b q
 by_cases e3:s.cz=3\/s.cz=4
 ·rcases e3 with q|q
  ·exact aEo r b q
  ·exact aEp r b q
 by_cases mj:s.cz=9
 ·exact aEq r b mj
 by_cases pU:s.cz=6
 ·exact aEr r b pU
 by_cases ze:s.cz=10
 ·exact aGT r b ze
 exact aEs r b ir e3 mj pU ze
end
abbrev Lx:=@of_decide_eq_true
section
open Form
variable {J:Prog}[ak J]{a:H}
theorem aEt(n:Int):(!decide (PX n=0))=(decide (n<0)||decide (38<=n)):=by
 unfold PX;by_cases h:n<0\/38<=n
 ·rw[bl h];rcases h with q|q<;>simp[q]
 ·rw[bf h];have h1:¬n<0:=fun e=>h (.inl e);have ae:¬38<=n:=fun e=>h (.inr e);simp[h1,ae]
theorem ay2[bP:aK a]{s:Form.eX}{cS cC bg cK cv:V}{Y:Nat->V}{S W:Nat->Nat->V}(r:ks a s cS cC bg cK cv Y S W)(b:nH s)(atoms:Nat):aS J a 109 [ia s cS cC bg cK cv,.ad (atoms:Nat)] (.ad (cd (s.args.any fun q=>qD s.cz q atoms) 8)):=by
 refine aS.bE ak.afY rfl fun h ca g=>?_;have cZ:=r.i3.a2;rw[c7]at cZ;have aMQ:=b.i3;obtain⟨bU,e8⟩:∃b:P,b=h.next:=⟨_,rfl⟩
 obtain⟨H1,cR⟩:∃H:H,H=h.new (.af [.ad s.cz,cS,cC,bg,cK,cv] 64):=⟨_,rfl⟩;have bW:aK H1:=by rw[cR];exact an
 have aB:aj h H1:=by rw[cR];exact an
 have a8:H1.get bU=some (.af [.ad s.cz,cS,cC,bg,cK,cv] 64):=by rw[cR,e8];exact ef
 have dD:=aP a8;simp only[afX,go_sem,seval];simp only[<-e8];simp only[<-cR];refine dK s.args.length (fun i t=>∃I h1,t=⟨I,[],h1⟩/\aj H1 h1/\(s.args.any fun q=>qD s.cz q atoms)=((s.args.drop i).any fun q=>qD s.cz q atoms)/\I.gt 1=.ad (atoms:Nat)/\I.gt 2=.ptr bU 0 0 6/\I.gt 5=.ad (i:Nat)) ?_ ?_ (dk _) ⟨_,H1,rfl,an,rfl,?_,?_,?_⟩
 ·rintro i t ai ⟨I,h1,rfl,aY,e,f1,cq,bu⟩;have c3:=aY.bx;have lF:aj h h1:=aB.aG aY;have dx:aj a h1:=g.aG lF;have kC:=aY.dW;have cO:=(aY.gt bU).trans a8;obtain⟨x,ab⟩:=bI ai;have ay:((i:Int)<(s.args.length:Int)):=by omega
  have bJ:=r.i3.addr (i:=i) (by rw[c7];exact ai);have cY:=r.i3.bM (gn ab);rw[en ab,yc]at e;obtain⟨k,uE⟩:=ay0 (J:=J) (a:=h) x;have he:=aEt x;have fin:∀{aX:H} {aQ:Fr} (β:Bool),qD s.cz x atoms=β->aj H1 aX->True:=fun _ _ _=>trivial;cases hu:qD s.cz x atoms with
  |true=>
   rw[hu,uk]at e;rw[e];unfold qD at hu;by_cases ir:s.cz=0
   ·rw[bl ir]at hu;have jl:x<0:=Lx hu;simp only[go_sem,seval,f1,cq,bu,cO,e9,fg,eF,ee,cZ,ay,bJ,cY,ir,jl,cd]
   ·rw[bf ir]at hu;by_cases mj:s.cz=9
    ·rw[bl mj]at hu;rw[hu]at he;by_cases jl:x<0
     ·simp only[go_sem,seval,f1,cq,bu,cO,e9,fg,eF,ee,cZ,ay,bJ,cY,mj,jl,uE.cl,bQ,he,cd]
     ·simp only[go_sem,seval,f1,cq,bu,cO,e9,fg,eF,ee,cZ,ay,bJ,cY,mj,jl,uE.cl,bQ,he,cd]
    ·rw[bf mj]at hu;by_cases jl:x<0
     ·simp only[go_sem,seval,f1,cq,bu,cO,e9,fg,eF,ee,cZ,ay,bJ,cY,ir,mj,jl,cd]
     ·rw[jS jl,sf]at hu;have rF:(atoms:Int)<=x:=Lx hu;simp only[go_sem,seval,f1,cq,bu,cO,e9,fg,eF,ee,cZ,ay,bJ,cY,ir,mj,jl,rF,cd]
  |false=>
   rw[hu,sf]at e;unfold qD at hu;by_cases ir:s.cz=0
   ·rw[bl ir]at hu;have jl:¬x<0:=of_decide_eq_false hu;simp only[go_sem,seval,f1,cq,bu,cO,e9,fg,eF,ee,cZ,ay,bJ,cY,ir,jl,cG (show i<9223372036854775807 by omega)];refine⟨_,_,rfl,an,by rw[<-ir];exact e,?_,?_,?_⟩
    all_goals simp only[go_sem,seval,f1,cq]
   ·rw[bf ir]at hu;by_cases mj:s.cz=9
    ·rw[bl mj]at hu;rw[hu]at he;have jl:¬x<0:=fun q=>by rw[ke q]at hu;cases hu
     simp only[go_sem,seval,f1,cq,bu,cO,e9,fg,eF,ee,cZ,ay,bJ,cY,mj,jl,uE.cl,bQ,he,cG (show i<9223372036854775807 by omega)];refine⟨_,_,rfl,an,by rw[<-mj];exact e,?_,?_,?_⟩
     all_goals simp only[go_sem,seval,f1,cq]
    ·rw[bf mj]at hu;have jl:¬x<0:=fun q=>by rw[ke q]at hu;cases hu
     rw[jS jl,sf]at hu;have rF:¬(atoms:Int)<=x:=of_decide_eq_false hu;simp only[go_sem,seval,f1,cq,bu,cO,e9,fg,eF,ee,cZ,ay,bJ,cY,ir,mj,jl,rF,cG (show i<9223372036854775807 by omega)];refine⟨_,_,rfl,an,e,?_,?_,?_⟩
     all_goals simp only[go_sem,seval,f1,cq]
 ·rintro t ⟨I,h1,rfl,aY,e,f1,cq,bu⟩;have c3:=aY.bx;have lF:aj h h1:=aB.aG aY;have dx:aj a h1:=g.aG lF;have kC:=aY.dW;have cO:=(aY.gt bU).trans a8;have ay:¬((s.args.length:Int)<(s.args.length:Int)):=by omega
  rw[fp,Qh]at e;rw[e];simp only[go_sem,seval,f1,cq,bu,cO,fg,ee,cZ,ay,cd]
 all_goals simp only[go_sem,seval]
section
variable [bP:aK a]{s:Form.eX}{cS cC bg cK cv:V}{Y:Nat->V}{S W:Nat->Nat->V}{aJ:H}[ca:aK aJ][eZ:aj a aJ]{bC:P}{at' atoms:Nat}{I:Fr}{k:c4}
theorem ay3(r:ks a s cS cC bg cK cv Y S W)(b:nH s)(bO:aJ.get bC=some (.af [.ad s.cz,cS,cC,bg,cK,cv] 64))(f1:I.gt 1=.ad (at':Nat))(cq:I.gt 2=.ad (atoms:Nat))(aR:I.gt 3=.ptr bC 0 0 6)(cQ:I.gt 8=.ad 0)
  (eu:∀aQ,(s.clause.any fun x=>decide (x.1<0)||decide ((atoms:Int)<=x.1))=false->aQ.gt 1=.ad (at':Nat) ->aQ.gt 2=.ad (atoms:Nat) ->aQ.gt 3=.ptr bC 0 0 6->k.run J (.exit 0 ⟨aQ,[],aJ⟩))
  (ht:∀aQ,(s.clause.any fun x=>decide (x.1<0)||decide ((atoms:Int)<=x.1))=true->aQ.gt 6=.ad 8->k.run J (.ret ⟨aQ,[],aJ⟩)):dA J akO ⟨I,[],aJ⟩ k:=by
 have gx:=aP bO;have lc:=r.cl.a2;rw[c9]at lc;have n3:=b.cl;unfold akO;refine dK s.clause.length (fun i t=>∃I,t=⟨I,[],aJ⟩/\(s.clause.any fun x=>decide (x.1<0)||decide ((atoms:Int)<=x.1))=((s.clause.drop i).any fun x=>decide (x.1<0)||decide ((atoms:Int)<=x.1))/\I.gt 1=.ad (at':Nat)/\I.gt 2=.ad (atoms:Nat)/\I.gt 3=.ptr bC 0 0 6/\I.gt 8=.ad (i:Nat)) ?_ ?_ (dk _) ⟨I,rfl,rfl,f1,cq,aR,cQ⟩
 ·rintro i t ai ⟨I,rfl,e,f1,cq,aR,cQ⟩;obtain⟨x,ab⟩:=bI ai;have ay:((i:Int)<(s.clause.length:Int)):=by omega
  have ck:i<(dv s.clause).length:=by rw[c9];exact ai
  have bJ:=r.cl.addr ck;rw[en ab,yc]at e;by_cases av:x.1<0
  ·rw[ke av,uk,uk]at e;simp only[go_sem,seval,cq,aR,cQ,bO,eO,ez,lc,ay,bJ,r.cl.er ck,r.cl.hn (kd ab),av];exact ht _ e (by simp only[go_sem,seval])
  ·by_cases h1:(atoms:Int)<=x.1
   ·rw[jS av,sf,ke h1,uk]at e;simp only[go_sem,seval,cq,aR,cQ,bO,eO,ez,lc,ay,bJ,r.cl.er ck,r.cl.hn (kd ab),av,h1];exact ht _ e (by simp only[go_sem,seval])
   ·rw[jS av,sf,jS h1,sf]at e;simp only[go_sem,seval,cq,aR,cQ,bO,eO,ez,lc,ay,bJ,r.cl.er ck,r.cl.hn (kd ab),av,h1,cG (show i<9223372036854775807 by omega)];refine⟨_,rfl,e,?_,?_,?_,?_⟩
    all_goals simp only[go_sem,seval,f1,cq,aR]
 ·rintro t ⟨I,rfl,e,f1,cq,aR,cQ⟩;have ay:¬((s.clause.length:Int)<(s.clause.length:Int)):=by omega
  rw[fp,Qh]at e;simp only[go_sem,seval,aR,cQ,bO,eO,ez,lc,ay];refine eu _ e ?_ ?_ ?_
  all_goals simp only[go_sem,seval,f1,cq,aR]
theorem ay4(r:ks a s cS cC bg cK cv Y S W)(b:nH s)(bO:aJ.get bC=some (.af [.ad s.cz,cS,cC,bg,cK,cv] 64))(f1:I.gt 1=.ad (at':Nat))(cq:I.gt 2=.ad (atoms:Nat))(aR:I.gt 3=.ptr bC 0 0 6)(ew:I.gt 10=.ad 0)
  (eu:∀aQ,(s.cn.any fun q=>decide (q<0)||decide ((at':Int)<=q))=false->aQ.gt 1=.ad (at':Nat) ->aQ.gt 2=.ad (atoms:Nat) ->aQ.gt 3=.ptr bC 0 0 6->k.run J (.exit 2 ⟨aQ,[],aJ⟩))
  (ht:∀aQ,(s.cn.any fun q=>decide (q<0)||decide ((at':Int)<=q))=true->aQ.gt 6=.ad 9->k.run J (.ret ⟨aQ,[],aJ⟩)):dA J akN ⟨I,[],aJ⟩ k:=by
 have gx:=aP bO;have lc:=r.fl.a2;rw[c7]at lc;have n3:=b.fl;unfold akN;refine dK s.cn.length (fun i t=>∃I,t=⟨I,[],aJ⟩/\(s.cn.any fun q=>decide (q<0)||decide ((at':Int)<=q))=((s.cn.drop i).any fun q=>decide (q<0)||decide ((at':Int)<=q))/\I.gt 1=.ad (at':Nat)/\I.gt 2=.ad (atoms:Nat)/\I.gt 3=.ptr bC 0 0 6/\I.gt 10=.ad (i:Nat)) ?_ ?_ (dk _) ⟨I,rfl,rfl,f1,cq,aR,ew⟩
 ·rintro i t ai ⟨I,rfl,e,f1,cq,aR,ew⟩;obtain⟨x,ab⟩:=bI ai;have ay:((i:Int)<(s.cn.length:Int)):=by omega
  have ck:i<(dH s.cn).length:=by rw[c7];exact ai
  have bJ:=r.fl.addr ck;rw[en ab,yc]at e;by_cases av:x<0
  ·rw[ke av,uk,uk]at e;simp only[go_sem,seval,f1,aR,ew,bO,fD,ft,lc,ay,bJ,r.fl.bM (gn ab),av];exact ht _ e (by simp only[go_sem,seval])
  ·by_cases h1:(at':Int)<=x
   ·rw[jS av,sf,ke h1,uk]at e;simp only[go_sem,seval,f1,aR,ew,bO,fD,ft,lc,ay,bJ,r.fl.bM (gn ab),av,h1];exact ht _ e (by simp only[go_sem,seval])
   ·rw[jS av,sf,jS h1,sf]at e;simp only[go_sem,seval,f1,aR,ew,bO,fD,ft,lc,ay,bJ,r.fl.bM (gn ab),av,h1,cG (show i<9223372036854775807 by omega)];refine⟨_,rfl,e,?_,?_,?_,?_⟩
    all_goals simp only[go_sem,seval,f1,cq,aR]
 ·rintro t ⟨I,rfl,e,f1,cq,aR,ew⟩;have ay:¬((s.cn.length:Int)<(s.cn.length:Int)):=by omega
  rw[fp,Qh]at e;simp only[go_sem,seval,aR,ew,bO,fD,ft,lc,ay];refine eu _ e ?_ ?_ ?_
  all_goals simp only[go_sem,seval,f1,cq,aR]
theorem ay5(r:ks a s cS cC bg cK cv Y S W)(b:nH s)(bO:aJ.get bC=some (.af [.ad s.cz,cS,cC,bg,cK,cv] 64))(aR:I.gt 3=.ptr bC 0 0 6)(kW:I.gt 12=.ad 0)
  (eu:∀aQ aa,aj aJ aa->sl s.dC=0->aQ.gt 3=.ptr bC 0 0 6->k.run J (.exit 4 ⟨aQ,[],aa⟩))
  (ht:∀aQ aa,aj aJ aa->sl s.dC≠0->aQ.gt 6=.ad (sl s.dC) ->k.run J (.ret ⟨aQ,[],aa⟩)):dA J akM ⟨I,[],aJ⟩ k:=by
 have gx:=aP bO;have lc:=r.hx.a2;rw[ow]at lc;have n3:=b.hx;unfold akM;refine dK s.dC.length (fun i t=>∃I h1,t=⟨I,[],h1⟩/\aj aJ h1/\sl s.dC=sl (s.dC.drop i)/\I.gt 3=.ptr bC 0 0 6/\I.gt 12=.ad (i:Nat)) ?_ ?_ (dk _) ⟨I,aJ,rfl,an,rfl,aR,kW⟩
 ·rintro i t ai ⟨I,h1,rfl,aB,e,aR,kW⟩;have bW:=aB.bx;have dx:aj a h1:=eZ.aG aB;have ry:=aB.dW;have c5:=(aB.gt bC).trans bO;obtain⟨x,ab⟩:=bI ai;have ay:((i:Int)<(s.dC.length:Int)):=by omega
  have ck:i<(qk s.dC).length:=by rw[ow];exact ai
  have bJ:=r.hx.addr ck;have jz:=Wq (J:=J) (a:=aJ) x (b.Jq x (c0 ab)).1;rw[en ab,sl]at e;by_cases av:jR x=0
  ·rw[bl av]at e;rw[av]at jz;simp only[go_sem,seval,aR,kW,c5,f3,fX,lc,ay,bJ,r.hx.bM (Em ab),jz.cl,cG (show i<9223372036854775807 by omega)];refine⟨_,_,rfl,an,e,?_,?_⟩
   all_goals simp only[go_sem,seval,aR]
  ·rw[bf av]at e;simp only[go_sem,seval,aR,kW,c5,f3,fX,lc,ay,bJ,r.hx.bM (Em ab),jz.cl,av];exact ht _ _ an (by rw[e];exact av) (by simp only[go_sem,seval,e])
 ·rintro t ⟨I,h1,rfl,aB,e,aR,kW⟩;have bW:=aB.bx;have ry:=aB.dW;have c5:=(aB.gt bC).trans bO;have ay:¬((s.dC.length:Int)<(s.dC.length:Int)):=by omega
  rw[fp]at e;have e:sl s.dC=0:=e;simp only[go_sem,seval,aR,kW,c5,f3,fX,lc,ay];refine eu _ _ an e ?_;simp only[go_sem,seval,aR]
end
section
variable [bP:aK a]{s:Form.eX}{cS cC bg cK cv:V}{Y:Nat->V}{S W:Nat->Nat->V}{aJ:H}[ca:aK aJ][eZ:aj a aJ]{bC:P}{I:Fr}{k:c4}
theorem mq(h:H)(f:P)(c:List V)(U:c.length=5):fz (some (.af [.ad 0,.str [],.str [],.al,.al] 90)) h f 5 0 0 5 (.agg c)=some (.bk [],h.set f (.af c 90)):=pL _ _ _ _ 5 5 (a1 _) (.agg c) U rfl
theorem ay6(r:ks a s cS cC bg cK cv Y S W)(b:nH s)(bO:aJ.get bC=some (.af [.ad s.cz,cS,cC,bg,cK,cv] 64))(aR:I.gt 3=.ptr bC 0 0 6)(qg:I.gt 14=.ad 0)
  (eu:∀aQ aa,aj aJ aa->qz s.cz s.cp=0->k.run J (.exit 6 ⟨aQ,[],aa⟩))
  (ht:∀aQ aa,aj aJ aa->aQ.gt 6=.ad (qz s.cz s.cp) ->k.run J (.ret ⟨aQ,[],aa⟩)):dA J akL ⟨I,[],aJ⟩ k:=by
 have gx:=aP bO;have lc:=r.eA.a2;rw[dL,d4]at lc;have n3:=b.eA;unfold akL;refine dK s.cp.length (fun i t=>∃I h1,t=⟨I,[],h1⟩/\aj aJ h1/\qz s.cz s.cp=qz s.cz (s.cp.drop i)/\I.gt 3=.ptr bC 0 0 6/\I.gt 14=.ad (i:Nat)) ?_ ?_ (dk _) ⟨I,aJ,rfl,an,rfl,aR,qg⟩
 ·rintro i t ai ⟨I,h1,rfl,aB,e,aR,qg⟩;have bW:=aB.bx;have dx:aj a h1:=eZ.aG aB;have ry:=aB.dW;have c5:=(aB.gt bC).trans bO;obtain⟨x,ab⟩:=bI ai;have ay:((i:Int)<(s.cp.length:Int)):=by omega
  have ck:i<(cI (dT Y s.cp.length)).length:=by rw[dL,d4];exact ai
  have bJ:=r.eA.addr ck;have ld:=jc (kx Y ai);have aU:=r.row i x ab;obtain⟨kk,xH⟩:=b.Tc x (c0 ab);have be:=ady (J:=J) aU kk xH;rw[en ab,qz]at e;by_cases av:hQ x=0
  ·rw[bl av]at e;rw[av]at be;have bV:=(yg av).ne;obtain⟨n,aq⟩:=bI (l:=x) (i:=x.length-1) (by omega);have jz:=JI (J:=J) aU kk aq;have ap5:mR x=n.op:=by unfold mR q8;rw[Ld,aq];rfl
   have w6:i1 x=n.kids:=by unfold i1;rw[aq];rfl
   rw[ap5,w6]at e;have pP:=(aU.row _ n aq).kids.a2;rw[c7]at pP;by_cases j1:s.cz=4
   ·by_cases hT:n.op=4
    ·by_cases fa:n.kids=[]
     ·rw[bf (fun q=>q.2.elim (fun z=>z hT) (fun z=>z fa))]at e;simp only[go_sem,seval,aR,qg,c5,e9,fS,eF,fC,lc,ay,bJ,r.eA.bM ld,be.cl,jz.cl,eW,mq,g2,g1,l8,l7,pP,j1,hT,fa,cG (show i<9223372036854775807 by omega)];refine⟨_,_,rfl,an,by rw[<-j1];exact e,?_,?_⟩
      all_goals simp only[go_sem,seval,aR]
     ·rw[bl ⟨j1,.inr fa⟩]at e;have hk:((0:Int)<(n.kids.length:Int)):=by have:=List.length_pos_iff.2 fa;omega
      simp only[go_sem,seval,aR,qg,c5,e9,fS,eF,fC,lc,ay,bJ,r.eA.bM ld,be.cl,jz.cl,eW,mq,g2,g1,l8,l7,pP,j1,hT,hk];exact ht _ _ an (by simp only[go_sem,seval,e])
    ·rw[bl ⟨j1,.inl hT⟩]at e;simp only[go_sem,seval,aR,qg,c5,e9,fS,eF,fC,lc,ay,bJ,r.eA.bM ld,be.cl,jz.cl,eW,mq,g2,g1,l8,l7,pP,j1,hT];exact ht _ _ an (by simp only[go_sem,seval,e])
   ·rw[bf (fun q=>j1 q.1)]at e;simp only[go_sem,seval,aR,qg,c5,e9,fS,eF,fC,lc,ay,bJ,r.eA.bM ld,be.cl,jz.cl,eW,mq,g2,g1,l8,l7,pP,j1,cG (show i<9223372036854775807 by omega)];refine⟨_,_,rfl,an,e,?_,?_⟩
    all_goals simp only[go_sem,seval,aR]
  ·rw[bf av]at e;simp only[go_sem,seval,aR,qg,c5,fS,fC,lc,ay,bJ,r.eA.bM ld,be.cl,av];exact ht _ _ an (by simp only[go_sem,seval,e])
 ·rintro t ⟨I,h1,rfl,aB,e,aR,qg⟩;have bW:=aB.bx;have ry:=aB.dW;have c5:=(aB.gt bC).trans bO;have ay:¬((s.cp.length:Int)<(s.cp.length:Int)):=by omega
  rw[fp]at e;simp only[go_sem,seval,aR,qg,c5,fS,fC,lc,ay];exact eu _ _ an e
end
end
section
open Form
open cE (ix)
variable {J:Prog}[ak J]{a:H}
theorem atZ[bP:aK a]{s:Form.eX}{cS cC bg cK cv:V}{Y:Nat->V}{S W:Nat->Nat->V}(r:ks a s cS cC bg cK cv Y S W)(b:nH s)(at' atoms:Nat):
  aS J a 37 [ia s cS cC bg cK cv,.ad (at':Nat),.ad (atoms:Nat)] (.ad (yb s at' atoms)):=by
 refine aS.bE ak.abk rfl fun h ca g=>?_;have af:=fun(b:Bool) (e:Int)=>AY (J:=J) (a:=a) b e;obtain⟨bC,fW⟩:∃b:P,b=h.next:=⟨_,rfl⟩
 obtain⟨cx,fe⟩:∃H:H,H=h.new (.af [.ad s.cz,cS,cC,bg,cK,cv] 64):=⟨_,rfl⟩;have fo:aK cx:=by rw[fe];exact an
 have b4:aj h cx:=by rw[fe];exact an
 have pk:aj a cx:=g.aG b4;have cc:cx.get bC=some (.af [.ad s.cz,cS,cC,bg,cK,cv] 64):=by rw[fe,fW];exact ef
 have gx:=aP cc;have lh:=fK r.cl;have Cl:=fK r.fl;have pT:=fK r.i3;have pS:=fK r.hx;have st:=fK r.eA;have kp:((100:Int)<(s.clause.length:Int))↔100<s.clause.length:=by omega
 have AU:¬((8:Int)=0):=by decide
 have Td:¬((5:Int)=0):=by decide
 have NJ:¬((9:Int)=0):=by decide
 have TJ:¬((2:Int)=0):=by decide
 obtain⟨E,bX⟩:∃E:Int,E=yb s at' atoms:=⟨_,rfl⟩;rw[<-bX];unfold yb at bX;simp only[Fg,go_sem,seval,ia];simp only[<-fW];simp only[<-fe];by_cases av:s.cz<0
 ·rw[bl (.inl av)]at bX;subst bX;simp only[go_sem,seval,cc,e9,eO,eF,ez,av,r.cl.a2,c9,(af _ _).bL,bQ,lh,Ew,cd,cm,AU]
 by_cases p6:11<=s.cz
 ·rw[bl (.inr p6)]at bX;subst bX;simp only[go_sem,seval,cc,e9,eO,eF,ez,av,p6,r.cl.a2,c9,(af _ _).bL,bQ,lh,Ew,cd,cm,AU]
 rw[bf (by omega)]at bX;by_cases zp:100<s.clause.length
 ·rw[bl zp]at bX;subst bX;simp only[go_sem,seval,cc,e9,eO,eF,ez,av,p6,kp,zp,r.cl.a2,c9,(af _ _).bL,bQ,lh,Ew,cd,cm,Td]
 rw[bf zp]at bX;simp only[go_sem,seval,cc,e9,eO,eF,ez,av,p6,kp,zp,r.cl.a2,c9,(af _ _).bL,bQ,lh,Ew,cd,cm];have o9:∀(e:Int) (l:List Int),cm (cd false e::l)=cm l:=fun _ _=>bl rfl;have n5:∀(e:Int) (l:List Int),¬e=0->cm (cd true e::l)=e:=fun _ _ h=>bf h;refine ay3 (a:=a) (at':=at') (atoms:=atoms) r b (bC:=bC) (by simp only[go_sem,seval,cc]) (by simp only[go_sem,seval]) (by simp only[go_sem,seval]) (by simp only[go_sem,seval]) (by simp only[go_sem,seval]) (fun aQ nx f1 cq aR=>?_) (fun aQ nx cj=>?_);rotate_left
 ·rw[nx,n5 _ _ AU]at bX;subst bX;simp only[go_sem,seval,cj]
 rw[nx,o9]at bX;have Il:=ayY (J:=J) r.cl (by have:=b.cl;omega);have cf:aS J a 108 [.agg [.ad s.cz,cS,cC,bg,cK,cv]] (.bool (iM s)):=ay1 (J:=J) r b;cases gB:ix s.clause with
 |false=>
  rw[gB]at bX Il;have oF:cm [cd true 9,cd (!iM s) 2]=9:=n5 _ _ NJ;rw[show(!false)=true from rfl,n5 _ _ NJ]at bX;subst bX;simp only[go_sem,seval,aR,cc,eO,ez,od,bQ,Il.bL,cf.bL,(af _ _).bL,lh,Cl,pT,pS,st,Ew,oF,NJ]
 |true=>
 rw[gB,show(!true)=false from rfl,o9]at bX;rw[gB]at Il;cases sy:iM s with
 |false=>
  rw[sy]at bX cf;rw[show(!false)=true from rfl,n5 _ _ TJ]at bX;subst bX;have bd:cm [cd false 9,cd true 2]=2:=by rw[o9,n5 _ _ TJ]
  simp only[go_sem,seval,aR,cc,eO,ez,od,bQ,Il.bL,cf.bL,(af _ _).bL,lh,Cl,pT,pS,st,Ew,bd,TJ]
 |true=>
 rw[sy,show(!true)=false from rfl,o9]at bX;rw[sy]at cf;have bA:cm [cd false 9,cd false 2]=0:=by rw[o9,o9];rfl
 simp only[go_sem,seval,aR,cc,eO,ez,od,bQ,Il.bL,cf.bL,(af _ _).bL,lh,Cl,pT,pS,st,Ew,bA];refine ay4 (a:=a) (at':=at') (atoms:=atoms) r b (bC:=bC) (by simp only[go_sem,seval,bQ,cc]) (by simp only[go_sem,seval,f1]) (by simp only[go_sem,seval,cq]) (by simp only[go_sem,seval,aR]) (by simp only[go_sem,seval]) (fun aQ nx f1 cq aR=>?_) (fun aQ nx cj=>?_);rotate_left
 ·rw[nx,n5 _ _ NJ]at bX;subst bX;simp only[go_sem,seval,cj]
 rw[nx,o9]at bX;have rA:aS J a 109 [.agg [.ad s.cz,cS,cC,bg,cK,cv],.ad (atoms:Nat)] (.ad (cd (s.args.any fun q=>qD s.cz q atoms) 8)):=ay2 (J:=J) r b atoms;cases mD:s.args.any fun q=>qD s.cz q atoms with
 |true=>
  rw[mD]at bX rA;rw[n5 _ _ AU]at bX;subst bX;have pW:cd true 8=8:=rfl;simp only[go_sem,seval,cq,aR,cc,od,bQ,rA.cl,pW,AU]
 |false=>
 rw[mD,o9]at bX;rw[mD]at rA;have pW:cd false 8=0:=rfl;simp only[go_sem,seval,cq,aR,cc,od,bQ,rA.cl,pW];refine ay5 (a:=a) r b (bC:=bC) (by simp only[go_sem,seval,bQ,cc]) (by simp only[go_sem,seval,aR]) (by simp only[go_sem,seval]) (fun aQ aa bR Af aR=>?_) (fun aQ aa bR Af cj=>?_);rotate_left
 ·have ch:=bR.bx;have eZ:aj h aa:=aj.aG (b:=_) an bR;rw[show cm [sl s.dC,qz s.cz s.cp]=sl s.dC from bf Af]at bX;subst bX;simp only[go_sem,seval,cj]
 have ch:=bR.bx;have eZ:aj h aa:=aj.aG (b:=_) an bR;have ads:aj a aa:=g.aG eZ;have vC:=bR.dW;have Jg:=(bR.gt bC).trans (show _=_ by simp only[go_sem,seval,bQ];exact cc);rw[Af,show cm [0,qz s.cz s.cp]=qz s.cz s.cp from ?_]at bX;simp only[go_sem,seval];refine ay6 (a:=a) r b (bC:=bC) (by simp only[go_sem,seval,Jg]) (by simp only[go_sem,seval,aR]) (by simp only[go_sem,seval]) (fun aQ ae aY Ru=>?_) (fun aQ ae aY cj=>?_)
 ·have c3:=aY.bx;have ey:aj h ae:=eZ.aG aY;rw[Ru]at bX;subst bX;simp only[go_sem,seval]
 ·have c3:=aY.bx;have ey:aj h ae:=eZ.aG aY;subst bX;simp only[go_sem,seval,cj]
 ·show(if(0:Int)=0 then(if qz s.cz s.cp=0 then cm []else _)else _)=_;rw[bl rfl];by_cases q:qz s.cz s.cp=0
  ·rw[bl q,q];rfl
  ·rw[bf q]
end
section
open Form
variable {J:Prog}[ak J]{a:H}
theorem l9(f:P):hM 0 1 (.ptr f 0 0 2)=some (.ptr f 0 0 1):=rfl
theorem xO(f:P):hM 1 1 (.ptr f 0 0 2)=some (.ptr f 0 1 1):=rfl
theorem ma(x y:V)(ty:TypeId):ec (some (.af [x,y] ty)) false 1 0 0 1=some x:=rfl
theorem wa(x y:V)(ty:TypeId):ec (some (.af [x,y] ty)) false 1 0 1 1=some y:=rfl
theorem adB[bP:aK a]{p:Form.jh}{bg aF:V}{Y:Nat->V}{S W:Nat->Nat->V}{D:Nat->j4}(r:xK a p bg aF Y S W D)(b:FM p):aS J a 10 [.agg [bg,aF]] (.bk [.ad (qB p).1,.ad (qB p).2]):=by
 refine aS.bE ak.ew rfl fun h ca g=>?_;obtain⟨cB,mN⟩:∃b:P,b=h.next:=⟨_,rfl⟩
 obtain⟨H1,cR⟩:∃H:H,H=h.new (.af [bg,aF] 25):=⟨_,rfl⟩;have bW:aK H1:=by rw[cR];exact an
 have aB:aj h H1:=by rw[cR];exact an
 have bj:H1.get cB=some (.af [bg,aF] 25):=by rw[cR,mN];exact ef
 have fZ:=aP bj;have Kv:((500:Int)<(p.atoms.length:Int))↔500<p.atoms.length:=by omega
 have KX:((4000:Int)<(p.steps.length:Int))↔4000<p.steps.length:=by omega
 have cZ:bg.same bg=true:=fK r.at'.ag;have c6:=r.at'.ag.a2;rw[dL,d4]at c6;have ag:=r.st.a2;rw[rq]at ag;have aMR:=b.at';have bs:=b.st;obtain⟨E,bX⟩:∃E:Int×Int,E=qB p:=⟨_,rfl⟩;rw[<-bX];unfold qB at bX;simp only[abc,go_sem,seval];simp only[<-mN];simp only[<-cR];by_cases zq:500<p.atoms.length
 ·rw[bl zq]at bX;subst bX;simp only[go_sem,seval,bj,l9,ma,c6,Kv,zq]
 rw[bf zq]at bX;simp only[go_sem,seval,bj,l9,ma,c6,Kv,zq];refine dK p.atoms.length (fun i t=>∃I ae,t=⟨I,[],ae⟩/\aj H1 ae/\sd p.atoms=sd (p.atoms.drop i)/\I.gt 1=.ptr cB 0 0 2/\I.gt 4=.ad (i:Nat)) ?_ ?_ (dk _) ⟨_,H1,rfl,an,rfl,?_,?_⟩
 ·rintro i t ai ⟨I,ae,rfl,aY,e,f1,bZ⟩;have c3:=aY.bx;have ey:aj h ae:=aB.aG aY;have iW:aj a ae:=g.aG ey;have kC:=aY.dW;have cO:=(aY.gt cB).trans bj;obtain⟨x,ab⟩:=bI ai;have ay:((i:Int)<(p.atoms.length:Int)):=by omega
  have ck:i<(cI (dT Y p.atoms.length)).length:=by rw[dL,d4];exact ai
  have bJ:=r.at'.ag.addr ck;have ld:=jc (kx Y ai);have aU:=r.at'.row i x ab;obtain⟨kk,xH⟩:=b.dZ x (c0 ab);have be:=ady (J:=J) aU kk xH;rw[en ab,sd,B1]at e;by_cases av:hQ x=0
  ·rw[bl av]at e;rw[av]at be;have bV:=(yg av).ne;obtain⟨n,aq⟩:=bI (l:=x) (i:=x.length-1) (by omega);have jz:=JI (J:=J) aU kk aq;have es:sj x=n.sort:=by unfold sj;rw[aq];rfl
   rw[es]at e;by_cases ah:n.sort=[66,111,111,108]
   ·have fq:cd (decide (n.sort≠mb)) 13=0:=by rw[ah];rfl
    rw[fq,bl rfl]at e;simp only[go_sem,seval,f1,bZ,cO,l9,ma,c6,ay,bJ,r.at'.ag.bM ld,be.cl,bQ,jz.cl,eW,ah,cG (show i<9223372036854775807 by omega)];refine⟨_,_,rfl,an,e,?_,?_⟩
    all_goals simp only[go_sem,seval,f1]
   ·have fq:cd (decide (n.sort≠mb)) 13=13:=by unfold cd;rw[ke (show n.sort≠mb from ah)];rfl
    rw[fq,bf (by decide)]at e;rw[bl (by rw[e];decide),e]at bX;subst bX;simp only[go_sem,seval,f1,bZ,cO,l9,ma,c6,ay,bJ,r.at'.ag.bM ld,be.cl,bQ,jz.cl,eW,ah]
  ·rw[bf av,bf av]at e;rw[bl (by rw[e];exact av),e]at bX;subst bX;simp only[go_sem,seval,f1,bZ,cO,l9,ma,c6,ay,bJ,r.at'.ag.bM ld,be.cl,av]
 ·rintro t ⟨I,ae,rfl,aY,e,f1,bZ⟩;have c3:=aY.bx;have ey:aj h ae:=aB.aG aY;have iW:aj a ae:=g.aG ey;have kC:=aY.dW;have cO:=(aY.gt cB).trans bj;have ay:¬((p.atoms.length:Int)<(p.atoms.length:Int)):=by omega
  rw[fp]at e;have e:sd p.atoms=0:=e;rw[bf (by rw[e];simp)]at bX;by_cases zC:4000<p.steps.length
  ·rw[bl zC]at bX;subst bX;simp only[go_sem,seval,f1,bZ,cO,l9,xO,ma,wa,c6,ag,ay,KX,zC]
  rw[bf zC]at bX;simp only[go_sem,seval,f1,bZ,cO,l9,xO,ma,wa,c6,ag,ay,KX,zC];refine dK p.steps.length (fun i t=>∃I az,t=⟨I,[],az⟩/\aj ae az/\zU p.atoms.length 0 p.steps=zU p.atoms.length i (p.steps.drop i)/\I.gt 1=.ptr cB 0 0 2/\I.gt 6=.ad (i:Nat)) ?_ ?_ (dk _) ⟨_,ae,rfl,an,rfl,?_,?_⟩
  ·rintro i t ai ⟨I,az,rfl,b4,e,f1,cj⟩;have fo:=b4.bx;have l3:aj h az:=ey.aG b4;have pk:aj a az:=iW.aG b4;have vC:=b4.dW;have c5:=(b4.gt cB).trans cO;obtain⟨x,ab⟩:=bI ai;have ay:((i:Int)<(p.steps.length:Int)):=by omega
   have ck:i<(lH D 0 p.steps).length:=by rw[rq];exact ai
   have bJ:=r.st.addr ck;have H9:=r.row i x ab;have dU:=Eg D 0 p.steps i x ab;rw[eH]at dU;have cs:=atZ (J:=J) H9 (b.Te x (c0 ab)) i p.atoms.length;rw[en ab,zU]at e;by_cases bp:yb x i p.atoms.length=0
   ·rw[bl bp]at e;rw[bp]at cs;simp only[go_sem,seval,f1,cj,c5,l9,xO,ma,wa,c6,ag,ay,bJ,r.st.bM dU,cs.bL,cG (show i<9223372036854775807 by omega)];refine⟨_,_,rfl,an,e,?_,?_⟩
    all_goals simp only[go_sem,seval,f1]
   ·rw[bf bp]at e;rw[e]at bX;subst bX;simp only[go_sem,seval,f1,cj,c5,l9,xO,ma,wa,c6,ag,ay,bJ,r.st.bM dU,cs.bL,bp]
  ·rintro t ⟨I,az,rfl,b4,e,f1,cj⟩;have fo:=b4.bx;have l3:aj h az:=ey.aG b4;have vC:=b4.dW;have c5:=(b4.gt cB).trans cO;have ay:¬((p.steps.length:Int)<(p.steps.length:Int)):=by omega
   rw[fp]at e;rw[e]at bX;subst bX;simp only[go_sem,seval,f1,cj,c5,xO,wa,ag,ay];rfl
  all_goals simp only[go_sem,seval,f1]
 all_goals simp only[go_sem,seval]
end
end Go.ao
