/- A part of the proof that ProofForms holds for every input. -/
import Derived.Test.YtphcmfmpbndkbaaGreatDoorQ12
set_option maxRecDepth 100000
set_option maxHeartbeats 4000000
set_option linter.all false
noncomputable section
namespace Go.ao
section
open Form
theorem ao6:∀(a:List b1) (x y:b1),cE.k3 (a++[x,y])=if y=x then cE.k3 (a++[x])else cE.k3 (a++[x])++[y]
 |[],x,y=>by
  by_cases h:y=x
  ·subst h;simp[cE.k3]
  ·simp[cE.k3,h]
 |[b],x,y=>by
  by_cases h:y=x
  ·subst h;by_cases ae:y=b<;>simp[cE.k3,ae]
  ·by_cases ae:x=b
   ·subst ae;simp[cE.k3,h]
   ·simp[cE.k3,h,ae]
 |b::c::a,x,y=>by
  have ih:=ao6 (c::a) x y;simp only[zH]at ih⊢;by_cases ae:c=b
  ·subst ae;simp only[cE.k3,qt];exact ih
  ·simp only[cE.k3,bf ae];rw[ih];split<;>rfl
theorem nq{α:Type}{l:List α}{i:Nat}{x:α}(h:l[i]?=some x):l.take (i+1)=l.take i++[x]:=by
 rw[mU,h];rfl
theorem ao7{l:List b1}{j:Nat}{x y:b1}(a5:1<=j)(ab:l[j-1]?=some x)(ax:l[j]?=some y):cE.k3 (l.take (j+1))=if y=x then cE.k3 (l.take j)else cE.k3 (l.take j)++[y]:=by
 obtain⟨k,rfl⟩:∃k,j=k+1:=⟨j-1,by omega⟩;rw[GH]at ab;rw[nq ax,nq ab,nk];exact ao6 _ _ _
theorem apj{l:List b1}(h:l.length<2):cE.k3 l=l:=by
 match l,h with
 |[],_=>rfl
 |[x],_=>rfl
 |_::_::_,h=>simp at h;omega
def zs(v:V)(i:Nat):V:=match v with|.ag f k off n es cap=>.ag f k (off+i*es) (n-i) es (cap.map fun c=>c-i)|v=>v
theorem bB.Pq{h:H}{v:V}{es:Nat}{aV:List (List V)}(s:bB h v es aV)(U:om v){i:Nat}(ai:i<=aV.length):r2 es v (some (.ad (i:Int))) none none=some (zs v i):=by
 obtain⟨au,⟨rfl,rfl⟩|⟨f,k,off,cap,rfl,c⟩⟩:=s
 ·have:i=0:=by simpa using ai
  subst this;rfl
 ·cases cap with
  |none=>simp[r2,pr,rV,qx,hE,hD,ai,zs]
  |some c=>
   have U:aV.length<=c:=U;simp[r2,pr,rV,qx,hE,hD,ai,U,zs]
theorem bB.I{h:H}{v:V}{es:Nat}{aV:List (List V)}(s:bB h v es aV){i:Nat}(ai:i<=aV.length):bB h (zs v i) es (aV.drop i):=by
 obtain⟨au,⟨rfl,rfl⟩|⟨f,k,off,cap,rfl,c⟩⟩:=s
 ·exact⟨by simp,.inl ⟨rfl,by simp⟩⟩
 ·refine⟨fun e he=>au e (wN he),.inr ⟨f,k,off+i*es,cap.map fun c=>c-i,?_,?_⟩⟩
  ·simp[zs]
  ·obtain⟨xs,h1,ae,az⟩:=c;have aI:iU es aV:=au;have e:(aV.drop i).flatten=aV.flatten.drop (i*es):=by rw[QC aI]
   have oC:aV.flatten.length=aV.length*es:=Hx au;have hm:i*es<=aV.length*es:=i0 es ai;refine⟨xs,h1,?_,?_⟩
   ·rw[e,jG];omega
   ·rw[e,jG];rw[<-az,Lr,pH];congr 1;rw[az]
variable {ty es b:Nat}
theorem aGJ{h:H}{v:V}{l:List (List V)}{m:Nat}(o:bD ty es b h v l)[k:aK h](hm:m<l.length){x:V}(ab:x.cells.length=es):∃aa,CK h es (uN v es m) x=some (.bk [],aa)/\bD ty es b aa v (l.set m x.cells)/\∀a:H,aj a h->aH a.next<=b->aj a aa:=by
 rcases o with⟨rfl,rfl⟩|⟨f,aZ,off,cap,rfl,ah,o⟩
 ·simp at hm
 ·obtain⟨aa,e,cu,u⟩:=Zm o k.ok ab hm;exact⟨aa,e,.inr ⟨f,aZ,off,cap,by rw[vm],ah,cu⟩,fun a i q=>⟨u.t3 i.g (iK q ah)⟩⟩
theorem anf(z:List V):∀n,e2 z n=(List.replicate n z).flatten
 |0=>rfl
 |n+1=>by
  have:=anf z n;show z++e2 z n=_;rw[this];rfl
theorem aIZ{h:H}{v:V}{l:List (List V)}{i:Nat}{z:List V}(aX:z.length=es)(o:bD ty es b h v l)[k:aK h](ai:i<=l.length):
  ∃aa cr,Pk h es z (zs v i)=some (.bk [],aa)/\bD ty es b aa v cr/\cr.length=l.length/\cr.take i=l.take i/\∀a:H,aj a h->aH a.next<=b->aj a aa:=by
 rcases o with⟨rfl,rfl⟩|⟨f,aZ,off,cap,rfl,ah,o⟩
 ·exact⟨h,[],rfl,.nil _ _ _ _,rfl,rfl,fun a g _=>g⟩
 ·by_cases av:l.length-i=0
  ·refine⟨h,l,?_,.inr ⟨f,aZ,off,cap,rfl,ah,o⟩,rfl,rfl,fun a g _=>g⟩;simp only[zs,Pk,av,hE,hX]
  ·have aI:iU es (List.replicate (l.length-i) z):=fun e he=>by rw[List.eq_of_mem_replicate he];exact aX
   obtain⟨aa,e,cu,g⟩:=anT (m:=List.replicate (l.length-i) z) (i:=i) o aI k.ok (by simp;omega);rw[<-anf]at e;have hlen:(l.take i++List.replicate (l.length-i) z++l.drop (i+(List.replicate (l.length-i) z).length)).length=l.length:=by simp;omega
   refine⟨aa,_,?_,.inr ⟨f,aZ,off,cap,by rw[hlen],ah,cu⟩,hlen,?_,fun a i q=>⟨g.t3 i.g (iK q ah)⟩⟩
   ·simp only[zs,Pk,av,hE,hX,qw,e]
   ·rw[nk,List.take_append,el,nl ai,sb,BO,qy,wV,Nat.min_self]
theorem bD.to {h:H}{v:V}{l:List (List V)}(o:bD ty es b h v l){i:Nat}(ai:i<=l.length):bD ty es b h (nd v i) (l.take i):=by
 rcases o with⟨rfl,rfl⟩|⟨f,aZ,off,cap,rfl,ah,aI,xs,dead,bj,a8,cc,dc,dn,dQ⟩
 ·rw[List.take_nil];exact .nil _ _ _ _
 ·have au:(l.take i).length=i:=by simp;omega
  have hm:i*es<=l.length*es:=i0 es ai;refine .inr ⟨f,aZ,off,cap,by rw[au];rfl,ah,aI.take i,xs,dead,bj,a8,cc,by rw[au];omega,?_,fun c e=>?_⟩
  ·rw[au,<-LV aI,<-dn,wV,nl hm]
  ·have:=dQ c e;rw[au];omega
theorem aI0{l:List b1}{m:Nat}(x:b1):(dv l).set m [.ad x.1,.bool x.2]=dv (l.set m x):=by simp[dv,List.map_set]
theorem Y8(l:List b1)(i:Nat):(dv l).take i=dv (l.take i):=by simp[dv,G2]
theorem Y9(l:List b1)(i:Nat):(dv l).drop i=dv (l.drop i):=by simp[dv,List.map_drop]
end
section
open Form
variable {J:Prog}[ak J]{a:H}
theorem ayi{av h:H}{fb:Nat}{v:V}{l:List b1}[ca:aK h](rz:aj av h)(tG:aH av.next<=fb)(o:bD 62 2 fb h v (dv l))(aq:l.length<1000000000):
  ∃dg aa,oi J 244 [v] h dg aa/\bD 62 2 fb aa dg (dv (cE.k3 l))/\aj av aa:=by
 refine(ya (args:=[v]) (R:=fun dg aa=>bD 62 2 fb aa dg (dv (cE.k3 l))/\aj av aa) (ak.ahf.2 _ h) ak.ahf.1 rfl ?_).to;have ag:=o.ag;have iD:=o.cap;by_cases aA:l.length<2
 ·have:((l.length:Nat):Int)<2:=by omega
  simp only[VH,go_sem,seval,ag.a2,c9,this];rw[apj aA];exact o
 have oK:¬((l.length:Nat):Int)<2:=by omega
 simp only[VH,go_sem,seval,ag.a2,c9,oK];refine lU (fun m t=>∃(k:Nat) (I:Fr),t=⟨I,[],h⟩/\1<=k/\k<=l.length/\m=l.length-k/\cE.k3 (l.take k)=l.take k/\
  I.gt 0=v/\I.gt 3=.ad (k:Nat)) ?_ (m:=l.length-1) ⟨1,_,rfl,a1 _,by omega,rfl,apj (by simp;omega),?_,?_⟩
 ·rintro m t ⟨k,I,rfl,i6,tB,rfl,zc,bA,bO⟩;by_cases ay:k<l.length
  ·obtain⟨y,ax⟩:=bI ay;obtain⟨x,ab⟩:=bI (show k-1<l.length by omega);have mm:=ao7 i6 ab ax;have bJ:=ag.addr (i:=k) (by rw[c9];exact ay);have g8:=ag.addr (i:=k-1) (by rw[c9];omega);by_cases fJ:y=x
   ·rw[bl fJ]at mm;subst fJ;have v8:=ag.Pq iD (i:=k) (by rw[c9];exact tB);simp only[go_sem,seval,bA,bO,ag.a2,c9,ay,bJ,ag.bM (kd ax),g8,ag.bM (kd ab),pM i6 (show k<9223372036854775807 by omega),GL,v8];refine lU (fun m t=>∃(j i:Nat) (I:Fr) (ae:H) (cr:List b1),t=⟨I,[],ae⟩/\aK ae/\aj av ae/\1<=j/\k+j<=l.length/\m=l.length-j/\i<=k+j-1/\bD 62 2 fb ae v (dv cr)/\cr.length=l.length/\cr.take i=cE.k3 (l.take (k+j))/\cr.drop (k+j-1)=l.drop (k+j-1)/\
     I.gt 0=v/\I.gt 4=zs v k/\I.gt 3=.ad (i:Nat)/\I.gt 5=.ad (j:Nat)) ?_ (m:=l.length-1) ⟨1,k,_,h,l,rfl,ca,rz,a1 _,by omega,rfl,by omega,o,rfl,by rw[mm,zc],rfl,?_,?_,?_,?_⟩
    ·rintro m t ⟨j,i,I,ae,cr,rfl,c3,aY,Tq,tK,rfl,ai,dD,eB,bp,a3,bA,fY,bO,eY⟩;have HQ:=dD.ag;have s2:=HQ.I (i:=k) (by rw[c9];omega);rw[Y9]at s2;have xj:(cr.drop k).length=l.length-k:=by simp[eB]
     have NA:=s2.a2;rw[c9,xj]at NA;by_cases atk:k+j<l.length
     ·obtain⟨b,ah⟩:=bI atk;obtain⟨a,bN⟩:=bI (show k+j-1<l.length by omega);have mJ:(cr.drop k)[j]?=some b:=by
       have:=lP (fun l=>l[1]?) a3;simp only[qq]at this;rw[show k+j-1+1=k+j by omega,ah]at this;rw[qq];exact this
      have rB:(cr.drop k)[j-1]?=some a:=by
       have:=lP (fun l=>l[0]?) a3;simp only[qq,ud]at this;rw[bN]at this;rw[qq,show k+(j-1)=k+j-1 by omega];exact this
      have OQ:=ao7 (j:=k+j) (by omega) bN ah;have h6:j<l.length-k:=by omega
      have cB:=s2.addr (i:=j) (by rw[c9,xj];omega);have bU:=s2.addr (i:=j-1) (by rw[c9,xj];omega);by_cases uU:b=a
      ·rw[bl uU]at OQ;subst uU;simp only[go_sem,seval,bA,bO,fY,eY,NA,h6,cB,s2.bM (kd mJ),bU,s2.bM (kd rB),pM Tq (show j<9223372036854775807 by omega),GM,cG (show j<9223372036854775807 by omega)];refine⟨l.length-(j+1),by omega,j+1,i,_,_,cr,rfl,c3,aY,by omega,by omega,rfl,by omega,dD,eB,by rw[bp,<-qs,OQ],?_,?_,?_,?_,?_⟩
       ·rw[show k+(j+1) -1=k+j-1+1 by omega,<-pH,a3,pH]
       all_goals simp only[go_sem,seval,bA,bO,fY]
      ·rw[bf uU]at OQ;have ayj:¬((b.1,b.2)=(a.1,a.2)):=uU
       obtain⟨bo,ayk,hT,eE⟩:=aGJ (m:=i) dD (by rw[c9];omega) (x:=rX b) rfl;have bC:=HQ.addr (i:=i) (by rw[c9];omega);have adh:=eE av aY tG;simp only[go_sem,seval,bA,bO,fY,eY,NA,h6,cB,s2.bM (kd mJ),bU,s2.bM (kd rB),pM Tq (show j<9223372036854775807 by omega),GM,ayj,bC,ayk,cG (show j<9223372036854775807 by omega),cG (show i<9223372036854775807 by omega)];have ab4:bD 62 2 fb bo v (dv (cr.set i b)):=by rw[<-aI0];exact hT
       refine⟨l.length-(j+1),by omega,j+1,i+1,_,_,cr.set i b,rfl,adh.bx,adh,by omega,by omega,rfl,by omega,ab4,by simp[eB],?_,?_,?_,?_,?_,?_⟩
       ·have:(cr.set i b)[i]?=some b:=by rw[Qc (by omega)]
        rw[nq this,List.take_set_of_le (a1 _),bp,<-qs,OQ]
       ·rw[List.drop_set_of_lt (by omega),show k+(j+1) -1=k+j-1+1 by omega,<-pH,a3,pH]
       all_goals simp only[go_sem,seval,bA,bO,fY]
     ·have ayl:k+j=l.length:=by omega
      have h6:¬(j<l.length-k):=by omega
      have aym:=HQ.Pq dD.cap (i:=i) (by rw[c9];omega);obtain⟨az,im,kp,gx,adi,atl,b4⟩:=aIZ (es:=2) (i:=i) (z:=[.ad 0,.bool false]) rfl dD (by rw[c9];omega);have ayn:=gx.ag.wG gx.cap (i:=i) (by rw[adi,c9];omega);have atm:=b4 av aY tG;simp only[go_sem,seval,aGf,bA,bO,fY,eY,NA,h6,aym,kp,ayn];rw[ayl,g5]at bp;have Tr:=gx.to (i:=i) (by rw[adi,c9];omega);rw[atl,Y8,bp]at Tr;exact Tr
    all_goals simp only[go_sem,seval,bA,bO]
   ·rw[bf fJ]at mm;have px:¬((y.1,y.2)=(x.1,x.2)):=fJ
    simp only[go_sem,seval,bA,bO,ag.a2,c9,ay,bJ,ag.bM (kd ax),g8,ag.bM (kd ab),pM i6 (show k<9223372036854775807 by omega),GL,px,cG (show k<9223372036854775807 by omega)];refine⟨l.length-(k+1),by omega,k+1,_,rfl,by omega,by omega,rfl,by rw[mm,zc,nq ax],?_,?_⟩
    all_goals simp only[go_sem,seval,bA]
  ·have:k=l.length:=by omega
   subst this;rw[g5]at zc;simp only[go_sem,seval,bA,bO,ag.a2,c9,nW];rw[zc];exact o
 all_goals simp only[go_sem,seval]
end
section
open Form
class ET(J:Prog):Prop where
 ajN:∀args h,J.spec 243 args h=Ep 166 args h
theorem aoz(l:List b1):(k0 l).Perm l:=List.mergeSort_perm l _
theorem aLQ(l:List b1):(k0 l).Pairwise fun a b=>cE.lt b a=false:=by
 have:=List.pairwise_mergeSort (le:=fun(x y:b1)=>!cE.lt y x) (fun a b c h1 ae=>?_) (fun a b=>?_) l
 ·exact this.imp fun h=>by simpa using h
 ·simp only[wQ]at h1 ae⊢;cases h:cE.lt c a with
  |false=>rfl
  |true=>
   rcases cE.Ef b c with e|e|e
   ·rw[cE.lt_trans e h]at h1;cases h1
   ·subst e;rw[h]at h1;cases h1
   ·rw[e]at ae;cases ae
 ·rcases cE.Ef a b with e|e|e
  ·simp[cE.lt_asymm e]
  ·subst e;simp[cE.lt_irrefl]
  ·simp[cE.lt_asymm e]
theorem Zq:∀l:List b1,(dv l).flatten=k1 l
 |[]=>rfl
 |x::l=>by
  have:=Zq l;show[V.ad x.1,.bool x.2]++(dv l).flatten=_;rw[this];rfl
theorem ang:∀n:Nat,e2 [V.ad 0,.bool false] n=k1 (List.replicate n (0,false))
 |0=>rfl
 |n+1=>by
  have:=ang n;show[V.ad 0,.bool false]++e2 [V.ad 0,.bool false] n=_;rw[this];rfl
variable {J:Prog}[ak J][ET J]{a:H}
theorem aI1{h:H}{f:P}{l:List b1}{n:Nat}{ty:TypeId}[ca:aK h](e:h.get f=some (.af (k1 l) ty))(aq:l.length=n)(au:n<1000000000):
  ∃aa,oi J 243 [.ag f 0 0 n 2 (some n),.fn (.func 166) [] []] h (.bk []) aa/\aa.get f=some (.af (k1 (k0 l)) ty)/\jZ f h aa:=by
 subst aq;have p5:=aP e;have aA:=ET.ajN (J:=J) [.ag f 0 0 l.length 2 (some l.length),.fn (.func 166) [] []] h;have bA:Nat.beq 166 166=true:=rfl;have aN:Nat.beq 2 2=true:=rfl;have bd:Nat.ble l.length 1099511627776=true:=by rw[hD];simp;omega
 by_cases av:l.length=0
 ·have e:l=[]:=tb av;subst e;refine⟨h,(LJ (v:=.bk []) (aa:=h) ?_ ⟨rfl,rfl⟩).is,by simpa[k0]using e,an⟩;rw[aA];rfl
 ·have bh:=aoz l;have bO:Nat.beq l.length 0=false:=by rw[hE];simp[av]
  have U:lu (live h f 0) 0 (l.length*2)=some (k1 l):=by
   have c: pJ h f 0 0 (k1 l):=⟨k1 l,rm e (a1 _) (a1 _),by omega,by rw[iL,g5]⟩;exact c.all (ti l).symm
  have I4:mO (k1 l) 0 (k1 (k0 l))=some (k1 (k0 l)):=by
   rw[zS (by rw[ti,ti,bh.length_eq];omega),BO,nR,eH,ve (by rw[ti,ti,bh.length_eq];omega),qy]
  have hw:nj h f 0 0 (k1 (k0 l))=some (h.set f (.af (k1 (k0 l)) ty)):=by
   unfold nj;rw[e];simp only[I4,hE,hD,kN.sT,a1,hX,nT]
  refine⟨h.set f (.af (k1 (k0 l)) ty),(LJ (v:=.bk []) ?_ ⟨rfl,rfl⟩).is,jt,an⟩;rw[aA];simp only[Ep,bA,aN,bd,nT,bO,U,ao5,hw]
theorem ayo{v:V}{l:List b1}[bP:aK a](s:bB a v 2 (dv l))(au:l.length<1000000000):cJ J a 112 [v] (fun w h=>bD 62 2 (aH a.next) h w (dv (cE.hY l))):=by
 refine cJ.bE ak.af3 rfl fun h ca g=>?_;have h8:=wY 62 2 16 [.ad 0,.bool false] l.length (by omega) (by omega);have pS:=Pm s (h.new (.af (e2 [.ad 0,.bool false] l.length) 62));obtain⟨ae,bd,ha,oZ⟩:=aoy (es:=2) (h:=h.new (.af (e2 [.ad 0,.bool false] l.length) 62)) (f:=h.next) (n:=l.length) (c:=some l.length) ef pS (c9 l) (by rw[ang,ti,te]) (by omega);have c3:=oZ.bx;have rv:eC h.next h:=⟨a1 _⟩
 have aY:aj h ae:=oZ.t4 h;rw[Zq]at ha;obtain⟨az,Cn,atn,tj⟩:=aI1 (J:=J) ha rfl au;have fo:=tj.bx;have b4:aj h az:=tj.t4 h;have bh:=aoz l;have gx:bD 62 2 (aH h.next) az (.ag h.next 0 0 l.length 2 (some l.length)) (dv (k0 l)):=by
  refine .inr ⟨h.next,0,0,some l.length,by rw[c9,bh.length_eq],a1 _,LQ _,_,0,atn,a1 _,rfl,?_,?_,fun c e=>?_⟩
  ·rw[c9,ti];omega
  ·rw[iL,Zq,c9,<-ti,g5]
  ·cases e;rw[c9,ti,bh.length_eq];omega
 obtain⟨w,bo,Ci,hT,eE⟩:=ayi (J:=J) b4 (a1 _) gx (by rw[bh.length_eq];exact au);have he:cE.k3 (k0 l)=cE.hY l:=cE.aKY (fun z=>bh.mem_iff) (aLQ l);rw[he]at hT;simp only[af2,go_sem,seval,s.a2,c9,h8,bd,Cn.cl,Ci.cl];exact hT.mono g.g.next
end
abbrev Qf:=@List.mem_singleton
section
open Form
variable {J:Prog}[ak J]{a:H}
theorem ayp{v w:V}{l m:List b1}[bP:aK a](s:bB a v 2 (dv l))(r:bB a w 2 (dv m))(au:l.length<1000000000):aS J a 115 [v,w] (.bool (decide (l=m))):=by
 refine aS.bE ak.av6 rfl fun h ca g=>?_;by_cases qX:l.length=m.length
 ·have sI:((l.length:Nat):Int)=((m.length:Nat):Int):=by omega
  simp only[Vs,go_sem,seval,s.a2,r.a2,c9,sI,ne_eq,BQ];refine dK m.length (fun i t=>∃I h1,t=⟨I,[],h1⟩/\aj h h1/\l.take i=m.take i/\I.gt 0=v/\I.gt 1=w/\I.gt 12=.ad (m.length:Nat)/\I.gt 13=.ad (i:Nat)) ?_ ?_ (dk _) ⟨_,_,rfl,an,rfl,?_,?_,?_,?_⟩
  ·rintro i t ai ⟨I,h1,rfl,aB,e,bA,aN,mn,ob⟩;have bW:=aB.bx;have dx:aj a h1:=g.aG aB;obtain⟨x,ab⟩:=bI (l:=l) (i:=i) (by omega);obtain⟨y,ax⟩:=bI ai;have bJ:=s.addr (i:=i) (by rw[c9];omega);have g8:=r.addr (i:=i) (by rw[c9];omega);by_cases fJ:x=y
   ·subst fJ;simp only[go_sem,seval,bA,aN,mn,ob,ai,bJ,g8,s.bM (kd ab),r.bM (kd ax),GM,cG (show i<9223372036854775807 by omega)];refine⟨_,_,rfl,an,by rw[nq ab,nq ax,e],?_,?_,?_,?_⟩
    all_goals simp only[go_sem,seval,bA,aN,mn]
   ·have px:¬((x.1,x.2)=(y.1,y.2)):=fJ
    have bV:¬l=m:=by rintro rfl;rw[ab]at ax;cases ax;exact fJ rfl
    simp only[go_sem,seval,bA,aN,mn,ob,ai,bJ,g8,s.bM (kd ab),r.bM (kd ax),GM,px,bV]
  ·rintro t ⟨I,h1,rfl,aB,e,bA,aN,mn,ob⟩;have:=aB.bx;rw[g5,<-qX,g5]at e;simp only[go_sem,seval,mn,ob,nW,e]
  all_goals simp only[go_sem,seval]
 ·have sI:¬((l.length:Nat):Int)=((m.length:Nat):Int):=by omega
  have bV:¬l=m:=by rintro rfl;exact qX rfl
  simp only[Vs,go_sem,seval,s.a2,r.a2,c9,sI,bV,ne_eq,BR]
theorem aEi{v f:V}{aV:List V}[aK a](s:bB a v 1 (cI aV))(au:aV.length<1000000000)(ea:List Bool)(aM:ea.length=aV.length)(aE:∀(i:Nat) (x:V) (b:Bool),aV[i]?=some x->ea[i]?=some b->gp J a f [x] (.bool b)):aS J a 113 [v,f] (.bool (ea.any id)):=by
 refine aS.bE ak.af5 rfl fun h _ _=>?_;have ci:=amp (g:=245) ak.VI.1 ak.VI.2 s au ea aM aE;simp only[af4,go_sem,seval,ci.cl,anb]
theorem ayq{v w:V}{l m:List b1}[bP:aK a](s:bB a v 2 (dv l))(r:bB a w 2 (dv m))(au:l.length<1000000000){b:P}{ty:TypeId}(ah:a.get b=some (.af [w] ty)):gp J a (.fn (.func 114) [] [.ptr b 0 0 1]) [v] (.bool (decide (l=m))):=by
 refine gp.bE ak.af7 rfl fun h ca g=>?_;have dr:=g.at ah;have cL:=aP dr;have cY:∀(v:V) (ty:TypeId),ec (some (.af [v] ty)) false 1 0 0 1=some v:=fun _ _=>rfl;simp only[af6,go_sem,seval,dr,cY,(ayp (J:=J) s r au).cl]
def Ie(n:Nat)(cs:List (List b1)):Prop:=cs.length<=n+4/\∀c∈cs,c.length<=n+4
theorem Ie.lit{n:Nat}{cs:List (List b1)}(h1:cs.length<=4)(ae:∀c∈cs,c.length<=4):Ie n cs:=⟨by omega,fun c U=>by have:=ae c U;omega⟩
theorem Zr(p:jh)(m:Nat){t:List bb}(bp: p.atoms[m]?=some t):Ie (i1 t).length (candidates p m):=by
 unfold candidates;simp only[bp,hC];have hk:((ku t).map fun u=>mc p.atoms u 0).length=(i1 t).length:=by simp[ku]
 generalize ((ku t).map fun u=>mc p.atoms u 0)=k at hk
 rw[<-hk];by_cases av:mR t=0
 ·rw[bl av];exact .lit (by simp) (by simp)
 rw[bf av];by_cases h1:mR t=1
 ·rw[bl h1];exact .lit (by simp) (by simp)
 rw[bf h1];by_cases cb:mR t=5
 ·rw[bl cb];exact .lit (by simp) (by simp)
 rw[bf cb];by_cases dM:mR t=6
 ·rw[bl dM];refine⟨by simp,fun c U=>?_⟩;simp only[Lp,Ek,Qf]at U;rcases U with⟨i,_,rfl⟩|rfl<;>simp
 rw[bf dM];by_cases jf:mR t=7
 ·rw[bl jf];refine⟨by simp,fun c U=>?_⟩;simp only[Lp,Ek,Qf]at U;rcases U with⟨i,_,rfl⟩|rfl<;>simp
 rw[bf jf];by_cases fU:mR t=8
 ·rw[bl fU];exact .lit (by simp) (by simp)
 rw[bf fU];by_cases lA:mR t=9
 ·rw[bl lA];exact .lit (by simp[both]) (by simp[both])
 rw[bf lA];by_cases p6:mR t=11
 ·rw[bl p6];split
  ·exact .lit (by simp[both]) (by simp[both])
  ·exact .lit (by simp) (by simp)
 rw[bf p6];by_cases adj:mR t=10
 ·rw[bl adj];exact .lit (by simp) (by simp)
 rw[bf adj];exact .lit (by simp) (by simp)
theorem aoS(c:List b1)(q:b1->Bool):(cE.hY c).any q=c.any q:=by
 rw[i9,GJ,GJ];exact⟨fun⟨x,h,e⟩=>⟨x,(cE.L7 c x).1 h,e⟩,fun⟨x,h,e⟩=>⟨x,(cE.L7 c x).2 h,e⟩⟩
theorem L8(out:List (List b1))(c:List b1)(l:List (List b1)):oX out (c::l)=if(cE.hY c).any (fun x=>decide (x.1<0))||decide (cE.hY c∈out)then oX out l else oX (out++[cE.hY c]) l:=by
 rw[aoS];rfl
theorem aGK(out:List (List b1))(c:List b1):(out.map fun o=>decide (o=c)).any id=decide (c∈out):=by
 rw[i9,GJ,kL];constructor
 ·rintro⟨x,h,e⟩;obtain⟨o,a6,rfl⟩:=List.mem_map.1 h;have:o=c:=by simpa using e
  subst this;exact a6
 ·intro h;exact⟨_,List.mem_map.2 ⟨c,h,rfl⟩,by simp⟩
end
section
open Form
variable {J:Prog}[ak J][ET J]{a:H}
theorem adk(hP:ta J)(dP:s4 J a)[bP:aK a]{p:Form.jh}{bg aF:V}{Y:Nat->V}{S W:Nat->Nat->V}(r:sO a p.atoms bg Y S W)(au: p.atoms.length<1000000)(oN:∀t∈p.atoms,t.length<1000000/\r4 t)(y8:∀t∈p.atoms,hQ t=0){m:Nat}(hm:m<p.atoms.length):
  cJ J a 40 [.agg [bg,aF],.ad (m:Nat)] (fun w h=>pn h w (oX [] (candidates p m))):=by
 refine cJ.bE ak.CM rfl fun h ca g=>?_;obtain⟨t,bp⟩:=bI hm;have C9:=c0 bp;have R:=yg (y8 t C9);have Sv:(i1 t).length<1000000:=by
  obtain⟨n,aq⟩:=bI (l:=t) (i:=t.length-1) (by have:=R.ne;omega);have:i1 t=n.kids:=by unfold i1;rw[aq];rfl
  rw[this];exact((r.row m t bp).row _ n aq).ki
 obtain⟨h5,hA⟩:=Zr p m bp;have fx:=ayf (J:=J) hP dP r au oN y8 hm (aF:=aF);generalize hK:candidates p m=cs at*;have cY:∀(v:V) (ty:TypeId),ec (some (.af [v] ty)) false 1 0 0 1=some v:=fun _ _=>rfl;simp only[abn,go_sem,seval,mr];refine fx.run fun Jh ae aY c3 dX=>?_;obtain⟨Rr,NB,Ts⟩:=dX;have ey:aj h ae:=aj.aG (b:=h.new (.af [bg,aF] 25)) an aY;have e1:=fun i ai=>NB.addr (i:=i) ai;simp only[go_sem,seval,NB.a2,dL,d4];refine dK cs.length (fun i t=>∃I h1 n2 out mH,t=⟨I,[],h1⟩/\aj ae h1/\oX [] cs=oX out (cs.drop i)/\out.length<=i/\bD 43 1 (aH ae.next) h1 n2 (cI (dT mH out.length))/\(∀j c,out[j]?=some c->bD 62 2 (aH ae.next) h1 (mH j) (dv c)/\c.length<1000000000)/\
  I.gt 5=n2/\I.gt 11=Jh/\I.gt 12=.ad (cs.length:Nat)/\I.gt 13=.ad (i:Nat)) ?_ ?_ (dk _) ⟨_,ae,.al,[],fun _=>.fO,rfl,an,rfl,a1 _,.nil _ _ _ _,fun j c e=>by simp at e,?_,?_,?_,?_⟩
 ·rintro i t ai ⟨I,h1,n2,out,mH,rfl,aB,iQ,a6,dt,nI,bu,iT,kW,h9⟩;have bW:=aB.bx;obtain⟨c,U⟩:=bI ai;have kp:=hA c (c0 U);have lh:=(Ts i c U).aO c3.ok aB;have ayr:=NB.aO c3.ok aB;have bJ:=NB.addr (i:=i) (by rw[dL,d4];exact ai);have d1:=ayr.bM (jc (kx Rr ai));rw[en U]at iQ;rw[L8]at iQ;have cl:=ayo (J:=J) lh (by omega);simp only[go_sem,seval,bu,iT,kW,h9,ai,bJ,d1];refine cl.run fun q1 az b4 fo adl=>?_;have K0:=adl.ag.cell;have st1:∀(h:H) (f:P),fz (some (.af [.al] 43)) h f 1 0 0 1 q1=some (.bk [],h.set f (.af [q1] 43)):=fun h f=>by
   have:=pL [.al] 43 h f 1 1 (a1 _) q1 (by rw[K0];rfl) rfl;rw[this,K0]
  have NC:(cE.hY c).length<1000000000:=by have:=cE.QU c;omega
  obtain⟨j2,tV⟩:∃b:P,b=az.next:=⟨_,rfl⟩
  obtain⟨de,hg⟩:∃H:H,H=az.new (.af [q1] 43):=⟨_,rfl⟩;have lX:aK de:=by rw[hg];exact an
  have AL:aj az de:=by rw[hg];exact an
  have gX:de.get j2=some (.af [q1] 43):=by rw[hg,tV];exact ef
  have aOa:=aP gX;have v9:aj h1 de:=b4.aG AL;have ND:aj ae de:=aB.aG v9;have g9:=adl.aO AL;have yE:=acZ (J:=J) g9.ag NC (fun x=>decide (x.1<0)) (fun i x _=>asR (J:=J) (a:=de) x);have t0:=dt.aO v9;have gD:=aEi (J:=J) (f:=.fn (.func 114) [] [.ptr j2 0 0 1]) t0.ag (by rw[d4];omega) (out.map fun o=>decide (o=cE.hY c)) (by rw[d4,eQ]) (fun j x b ab ah=>by
   rw[ij]at ah;cases aM:out[j]? with
   |none=>rw[aM]at ah;cases ah
   |some o=>
    rw[aM]at ah;cases ah;have a5:j<out.length:=by
     rcases dz j out.length with q|q
     ·exact q
     ·rw[ei q]at aM;cases aM
    rw[kx mH a5]at ab;cases ab;exact ayq ((nI j o aM).1.aO v9).ag g9.ag (nI j o aM).2 gX)
  rw[aGK]at gD;simp only[go_sem,seval,st1,cY];simp only[<-tV];simp only[<-hg];cases zt:(cE.hY c).any (fun x=>decide (x.1<0))with
  |true=>
   rw[zt,uk,bl rfl]at iQ;rw[zt]at yE;simp only[go_sem,seval,gX,cY,yE.cl,kW,h9,bu,iT,cG (show i<9223372036854775807 by omega)];refine⟨_,cg yE de an,n2,out,mH,rfl,an,iQ,by omega,t0.aO an,fun j c a5=>⟨((nI j c a5).1.aO v9).aO an,(nI j c a5).2⟩,?_,?_,?_,?_⟩
   all_goals simp only[go_sem,seval,bu,iT,kW]
  |false=>
   rw[zt,sf]at iQ;rw[zt]at yE;by_cases ev:cE.hY c∈out
   ·rw[bl (by simpa using ev)]at iQ;have a3:decide (cE.hY c∈out)=true:=by simpa using ev
    rw[a3]at gD;simp only[go_sem,seval,gX,cY,yE.cl,gD.cl,kW,h9,bu,iT,cG (show i<9223372036854775807 by omega)];refine⟨_,cg gD (cg yE de an) an,n2,out,mH,rfl,an,iQ,by omega,(t0.aO (aa:=cg gD (cg yE de an) an) an),fun j c a5=>⟨((nI j c a5).1.aO v9).aO an,(nI j c a5).2⟩,?_,?_,?_,?_⟩
    all_goals simp only[go_sem,seval,bu,iT,kW]
   ·rw[bf (by simpa using ev)]at iQ;have a3:decide (cE.hY c∈out)=false:=by simpa using ev
    rw[a3]at gD;obtain⟨ji,oc⟩:∃H:H,H=cg gD (cg yE de an) an:=⟨_,rfl⟩;have z7:aK ji:=by rw[oc];exact an
    have xN:aj de ji:=by rw[oc];exact an
    have adm:=xN.at gX;have aQv:=aP adm;have Jy:g6 43 1 1 [.al] [(0,1,q1)]=some (.af [q1] 43,fun f=>.ag f 0 0 1 1 (some 1)):=by simp only[g6,oU,K0];rfl
    have Jz:bB (ji.new (.af [q1] 43)) (.ag ji.next 0 0 1 1 (some 1)) 1 (cI [q1]):=Ht (ty:=43) ef rfl _;have ato:aj ji (ji.new (.af [q1] 43)):=an;have OR:aj de (ji.new (.af [q1] 43)):=xN.aG ato;have ays:aj ae (ji.new (.af [q1] 43)):=ND.aG OR;obtain⟨Cp,lA,oF,zb,v5,v7⟩:=ui (bytes:=24) (t0.aO OR) Jz (by have:=ays.g.next;exact this) (by simp only[dL,d4,eG,eJ];omega) (by simp only[dL,d4,eG,eJ];omega);have EM:=v5.ok;have Tt:aj ae lA:=v5.aO ae (a1 _);simp only[go_sem,seval,gX,cY,yE.cl,gD.cl,bu];simp only[<-oc];simp only[go_sem,seval,adm,cY,Jy,oF,bu,kW,h9,cG (show i<9223372036854775807 by omega)];have Ib:cI (dT mH out.length)++cI [q1]=cI (dT (upd mH out.length q1) (out.length+1)):=by
     unfold dT;rw[Ha,wW];have:(List.range out.length).map (upd mH out.length q1)=(List.range out.length).map mH:=By fun j a5=>iN _ _ (by have:=List.mem_range.1 a5;omega);rw[this];simp[cI,kf]
    rw[Ib]at zb;refine⟨_,lA,Cp,out++[cE.hY c],upd mH out.length q1,rfl,Tt,iQ,by rw[fi];simp;omega,by rw[fi];exact zb,fun j fT a5=>?_,?_,?_,?_,?_⟩
    ·by_cases tK:j<out.length
     ·rw[nP tK]at a5;rw[iN _ _ (by omega)];have EU:=((nI j fT a5).1.aO v9).aO OR
      exact⟨v7 _ (bD.fR (by decide)) EU,(nI j fT a5).2⟩
     ·have atp:j=out.length:=by
       rcases dz j (out.length+1)with q|q
       ·omega
       ·rw[ei (by rw[fi];simpa using q)]at a5;cases a5
      subst atp;rw[oo (a1 _)]at a5;simp at a5;subst a5;rw[kf];have EU:=(g9.mono (b3:=aH ae.next) aB.g.next).aO OR;exact⟨v7 _ (bD.fR (by decide)) EU,NC⟩
    all_goals simp only[go_sem,seval,iT,kW]
 ·rintro t ⟨I,h1,n2,out,mH,rfl,aB,iQ,a6,dt,nI,bu,iT,kW,h9⟩;have bW:=aB.bx;rw[fp]at iQ;have iQ:oX [] cs=out:=iQ;have lF:aj h h1:=ey.aG aB;simp only[go_sem,seval,bu,kW,h9,nW,iQ];exact⟨mH,dt.ag,fun j c a5=>(nI j c a5).1.ag⟩
 all_goals simp only[go_sem,seval]
end
section
open Form
variable {J:Prog}[ak J][vE J][ET J]{a:H}
theorem pn.nil(h:H): pn h .al []:=⟨fun _=>.fO,⟨fun e he=>by simp[cI,dT]at he,.inl ⟨rfl,by simp[cI,dT]⟩⟩,fun i c U=>by simp at U⟩
theorem ao8:∀{l:List (List bb)},sd l=0->∀t∈l,hQ t=0
 |[],_,t,bp=>by cases bp
 |x::l,h,t,bp=>by
  unfold sd at h;by_cases ab:B1 x=0
  ·rw[bl ab]at h;rcases List.mem_cons.1 bp with rfl|bp
   ·unfold B1 at ab;by_cases aX:hQ t=0
    ·exact aX
    ·rw[bf aX]at ab;exact absurd ab aX
   ·exact ao8 h t bp
  ·rw[bf ab]at h;exact absurd h ab
theorem QV{p:jh}(h:(qB p).2=0):∀t∈p.atoms,hQ t=0:=by
 unfold qB at h;by_cases h1:500<p.atoms.length
 ·rw[bl h1]at h;simp at h
 ·rw[bf h1]at h;by_cases ae:sd p.atoms=0
  ·exact ao8 ae
  ·rw[bl ae]at h;exact absurd h ae
theorem atq(hP:ta J)(dP:s4 J a)(sy:Bf a)[bP:aK a]{p:Form.jh}{bg aF:V}{Y:Nat->V}{S W:Nat->Nat->V}{D:Nat->j4}(r:xK a p bg aF Y S W D)(b:FM p)(m:Int):
  cJ J a 11 [.agg [bg,aF],.ad m] (fun w h=>∃w',w=.bk [w',.ad (yk p m).2]/\pn h w' (yk p m).1):=by
 refine cJ.bE ak.iT rfl fun h ca g=>?_;have lI:∀f:P,hM 0 1 (.ptr f 0 0 2)=some (.ptr f 0 0 1):=fun _=>rfl;have oe:∀(x y:V) (ty:TypeId),ec (some (.af [x,y] ty)) false 1 0 0 1=some x:=fun _ _ _=>rfl;have be:=Z6 (J:=J) hP dP sy r b;have af:=fun(b:Bool) (e:Int)=>Tb (J:=J) (a:=h) b e;have au:=r.at'.ag.a2;rw[dL,d4]at au;unfold yk;by_cases he:(qB p).2=0
 ·rw[bf (by simp[he])];rw[he]at be;by_cases av:m<0
  ·rw[bl (.inl av)];have It:¬(0<=m):=by omega
   simp only[Ff,go_sem,seval,mr,oe,lI,be.cl,he,av,(af _ _).cl,LO,cd,cm];exact⟨_,rfl,.nil _⟩
  ·by_cases h1:(p.atoms.length:Int)<=m
   ·rw[bl (.inr h1)];simp only[Ff,go_sem,seval,mr,oe,lI,be.cl,he,av,h1,au,(af _ _).cl,LO,cd,cm];exact⟨_,rfl,.nil _⟩
   ·rw[bf (by omega)];obtain⟨n,rfl⟩:∃n:Nat,m=n:=⟨m.toNat,by omega⟩;have aq:n<p.atoms.length:=by omega
    have uF:=fun(H:H) (g:aj a H)=>(adk (J:=J) hP dP r.at' b.at' b.dZ (QV he) aq (aF:=aF)).mono g;simp only[Ff,go_sem,seval,mr,oe,lI,be.cl,he,av,h1,au,(af _ _).cl,LO,cd,cm];refine(adk (J:=J) hP dP r.at' b.at' b.dZ (QV he) aq (aF:=aF)).run fun w ae aY c3 dX=>?_;have b4:aj h ae:=aj.aG (b:=_) an aY;simp only[go_sem,seval];exact⟨_,rfl,dX⟩
 ·rw[bl he];have aE:∀x,cm [(qB p).2,x]=(qB p).2:=fun x=>by simp[cm,he]
  by_cases av:m<0
  ·simp only[Ff,go_sem,seval,mr,oe,lI,be.cl,av,(af _ _).cl,LO,aE,he];exact⟨_,rfl,.nil _⟩
  ·simp only[Ff,go_sem,seval,mr,oe,lI,be.cl,av,au,(af _ _).cl,LO,aE,he];exact⟨_,rfl,.nil _⟩
end
end Go.ao
