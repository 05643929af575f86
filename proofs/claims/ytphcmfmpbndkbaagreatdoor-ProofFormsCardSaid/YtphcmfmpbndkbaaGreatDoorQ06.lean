/- A part of the proof that ProofForms holds for every input. -/
import Derived.Test.YtphcmfmpbndkbaaGreatDoorQ05
set_option maxRecDepth 100000
set_option maxHeartbeats 4000000
set_option linter.all false
noncomputable section
namespace Go.ao
class Q9(u:outParam fm)(J:Prog):Prop where
 ZT:∀h,oQ h u=true->J.spec 4 [] h=some (.bool true,h)
abbrev yc:=@List.any_cons
abbrev BO:=@List.take_zero
section
variable {J:Prog}{I:Fr}{h:H}{ds:dB}{k:c4}
def un(o:bH):bH:=⟨o.dst,o.op,none⟩
theorem aBe(s:Nat)(o:bH)(os:List bH):fu J (nw s o::os) I h ds k=xr J (x4 (I.get (a0 s)) true) (un o) os I h ds k:=amV _ _ _ _
theorem aBf(s:Nat)(o:bH)(os:List bH):fu J (k9 s o::os) I h ds k=xr J (x4 (I.get (a0 s)) false) (un o) os I h ds k:=amV _ _ _ _
theorem aBg(s:Nat)(o:bH)(b:List Nat)(os:List (bH×List Nat))(n:Nat)(aD:List Rec):wd J ((nw s o,b)::os) n aD I h ds k=xt J (x4 (I.get (a0 s)) true) (un o) b os n aD I h ds k:=amW _ _ _ _ _ _ _
theorem aBh(s:Nat)(o:bH)(b:List Nat)(os:List (bH×List Nat))(n:Nat)(aD:List Rec):wd J ((k9 s o,b)::os) n aD I h ds k=xt J (x4 (I.get (a0 s)) false) (un o) b os n aD I h ds k:=amW _ _ _ _ _ _ _
theorem aBi(i:bn)(b:List Nat)(os:List (bH×List Nat))(n:Nat)(aD:List Rec):wd J ((uw i,b)::os) n aD I h ds k=wd J ((⟨none,i,none⟩,b)::os) n aD I h ds k:=rfl
theorem awh(d:Nat)(i:d5):un (b6 d i)=b6 d i:=rfl
theorem awi(d:Nat)(i:IR):un (fv d i)=fv d i:=rfl
theorem awj(d:Nat)(i:kg):un (qL d i)=qL d i:=rfl
theorem awk(d:Nat)(i:g7):un (vy d i)=vy d i:=rfl
theorem awl(d:Nat)(f:X)(l:List X):un (ru d f l)=ru d f l:=rfl
theorem awm(d:Nat)(x:X):un (bz d x)=bz d x:=rfl
theorem awn(o:bH)(os:List bH):xr J (some true) o os I h ds k=fu J (o::os) I h ds k:=rfl
theorem awo(d:Nat)(i:d5)(os:List bH):xr J (some false) (b6 d i) os I h ds k=fu J os (I.set (.bk []) (a0 d)) h ds k:=rfl
theorem awp(d:Nat)(i:d5)(b:List Nat)(os:List (bH×List Nat))(n:Nat)(aD:List Rec):xt J (some false) (b6 d i) b os n aD I h ds k=wd J os (n+1) aD (I.set (.bk []) (a0 d)) h ds k:=rfl
theorem awq(d:Nat)(i:IR)(os:List bH):xr J (some false) (fv d i) os I h ds k=fu J os (I.set (.bk []) (a0 d)) h ds k:=rfl
theorem awr(d:Nat)(i:IR)(b:List Nat)(os:List (bH×List Nat))(n:Nat)(aD:List Rec):xt J (some false) (fv d i) b os n aD I h ds k=wd J os (n+1) aD (I.set (.bk []) (a0 d)) h ds k:=rfl
theorem aws(d:Nat)(i:kg)(os:List bH):xr J (some false) (qL d i) os I h ds k=fu J os (I.set (.bk []) (a0 d)) h ds k:=rfl
theorem awt(d:Nat)(i:kg)(b:List Nat)(os:List (bH×List Nat))(n:Nat)(aD:List Rec):xt J (some false) (qL d i) b os n aD I h ds k=wd J os (n+1) aD (I.set (.bk []) (a0 d)) h ds k:=rfl
theorem awu(d:Nat)(i:g7)(os:List bH):xr J (some false) (vy d i) os I h ds k=fu J os (I.set (.bk []) (a0 d)) h ds k:=rfl
theorem awv(d:Nat)(i:g7)(b:List Nat)(os:List (bH×List Nat))(n:Nat)(aD:List Rec):xt J (some false) (vy d i) b os n aD I h ds k=wd J os (n+1) aD (I.set (.bk []) (a0 d)) h ds k:=rfl
theorem aww(d:Nat)(f:X)(l:List X)(os:List bH):xr J (some false) (ru d f l) os I h ds k=fu J os (I.set (.bk []) (a0 d)) h ds k:=rfl
theorem awx(d:Nat)(f:X)(l:List X)(b:List Nat)(os:List (bH×List Nat))(n:Nat)(aD:List Rec):xt J (some false) (ru d f l) b os n aD I h ds k=wd J os (n+1) aD (I.set (.bk []) (a0 d)) h ds k:=rfl
theorem awy(d:Nat)(x:X)(os:List bH):xr J (some false) (bz d x) os I h ds k=fu J os (I.set (.bk []) (a0 d)) h ds k:=rfl
theorem awz(d:Nat)(x:X)(b:List Nat)(os:List (bH×List Nat))(n:Nat)(aD:List Rec):xt J (some false) (bz d x) b os n aD I h ds k=wd J os (n+1) aD (I.set (.bk []) (a0 d)) h ds k:=rfl
theorem aBj(o:bH)(b:List Nat)(os:List (bH×List Nat))(i:Nat)(aD:List Rec):xt J (some true) o b os i aD I h ds k=wd J ((o,b)::os) i aD I h ds k:=rfl
theorem aDY[hk:aK h](o:O)(g:P->V)(d:Option S)(os:List (bH×List Nat))(i:Nat)(aD:List Rec):MT J (some (o,g)) d os i aD I h ds k=wd J os (i+1) aD (cX d (g h.next) I) (h.new o) ds k:=aIo hk.ok o g d os i aD
theorem aBk(v:V)(d:Option S)(b:List Nat)(os:List (bH×List Nat))(i:Nat)(aD:List Rec):IZ J (some v) d b os i aD I h ds k=(kK h b aD=true/\wd J os (i+1) aD (cX d v I) h ds k):=rfl
theorem aBl(v:V)(h:H)(d:Option S)(b:List Nat)(os:List (bH×List Nat))(i:Nat)(aD:List Rec):Se J (some (v,h)) d b os i aD I ds k=(kK h b aD=true/\wd J os (i+1) aD (cX d v I) h ds k):=rfl
theorem aIF(h:H)(i:Nat)(is:List Nat)(aD:List Rec):kK h (i::is) aD=check h (i::is) aD:=rfl
theorem aGl(h:H)(is:List Nat):check h is []=true:=rfl
def V1(o:Option V)(v:V)(r:Bool):Bool:=match o with|some dg=>(match V.same dg v with|true=>r|false=>false)|none=>false
theorem aGm(h:H)(is:List Nat)(i:Nat)(g:Bool)(n:Nat)(x:X)(I:Fr)(v:V)(aD:List Rec):check h is (⟨i,.load g n x,I,v⟩::aD)=(match is.any (Nat.beq i)with
  |true=>V1 (vR h g n (x.a7 I)) v (check h is aD)
  |false=>check h is aD):=by
 show(match is.any (Nat.beq i)with
  |true=>(match Pw h ⟨i,.load g n x,I,v⟩with
   |true=>check h is aD
   |false=>false)
  |false=>check h is aD)=_
 cases is.any (Nat.beq i)with
 |false=>rfl
 |true=>
  have:Pw h ⟨i,.load g n x,I,v⟩=(match vR h g n (x.a7 I)with
   |some dg=>V.same dg v
   |none=>false):=rfl
  rw[this];cases vR h g n (x.a7 I)<;>rfl
theorem aGn(v:V)(r:Bool)(e:V.same v v=true):V1 (some v) v r=r:=by simp only[V1,e]
end
theorem dK{J:Prog}{c:C}{k:c4}(n:Nat)(nZ:Nat->eM->Prop)(step:∀i t,i<n->nZ i t->dA J c t (.done fun o=>wF o (nZ (i+1)) (k.run J)))(last:∀t,nZ n t->dA J c t (.done fun o=>wF o (fun _=>False) (k.run J))){i:Nat}{t:eM}(ai:i<=n)(h:nZ i t):dA J (.loop c) t k:=by
 refine lU (fun m t=>∃i,i<=n/\m=n-i/\nZ i t) ?_ ⟨i,ai,rfl,h⟩;rintro m t ⟨i,ai,rfl,a5⟩;rcases dz i n with au|au
 ·refine(step i t au a5).mono fun o q=>?_;cases o with
  |norm s=>exact⟨n-(i+1),by omega,i+1,au,rfl,q⟩
  |_=>exact q
 ·have:i=n:=by omega
  subst this;refine(last t a5).mono fun o q=>?_;cases o with
  |norm s=>exact q.elim
  |_=>exact q
def dH(l:List Int):List (List V):=l.map fun n=>[.int .i64 n]
def qk(l:List (List Nat)):List (List V):=l.map fun s=>[.str s]
def hi(l:List (List Nat×List Nat)):List (List V):=l.map fun b=>[.str b.1,.str b.2]
theorem c7(l:List Int):(dH l).length=l.length:=eQ _
theorem ow(l:List (List Nat)):(qk l).length=l.length:=eQ _
theorem jd(l:List (List Nat×List Nat)):(hi l).length=l.length:=eQ _
theorem gn{l:List Int}{i:Nat}{x:Int}(h:l[i]?=some x):(dH l)[i]?=some [.int .i64 x]:=by simp[dH,h]
theorem Em{l:List (List Nat)}{i:Nat}{x:List Nat}(h:l[i]?=some x):(qk l)[i]?=some [.str x]:=by simp[qk,h]
theorem nX{l:List (List Nat×List Nat)}{i:Nat}{x:List Nat×List Nat}(h:l[i]?=some x):(hi l)[i]?=some [.str x.1,.str x.2]:=by simp[hi,h]
theorem bI{α:Type}{l:List α}{i:Nat}(h:i<l.length):∃ x,l[i]?=some x:=⟨l[i],hN h⟩
theorem en{α:Type}{l:List α}{i:Nat}{x:α}(h:l[i]?=some x):l.drop i=x::l.drop (i+1):=by
 have ai:i<l.length:=by
  rcases dz i l.length with a|a
  ·exact a
  ·rw[ei a]at h;cases h
 rw[hN ai]at h;cases h;exact D6 ai
def om(v:V):Prop:=match v with|.ag _ _ _ n _ (some c)=>n<=c|_=>True
def nd(v:V)(i:Nat):V:=match v with|.ag f k off _ es cap=>.ag f k off i es cap|v=>v
theorem bB.wG{h:H}{v:V}{es:Nat}{aV:List (List V)}(s:bB h v es aV)(U:om v){i:Nat}(ai:i<=aV.length):r2 es v none (some (.int .i64 (i:Int))) none=some (nd v i):=by
 obtain⟨au,⟨rfl,rfl⟩|⟨f,k,off,cap,rfl,c⟩⟩:=s
 ·have:i=0:=by simpa using ai
  subst this;rfl
 ·cases cap with
  |none=>simp[r2,pr,rV,qx,hE,hD,ai,nd]
  |some c=>
   have U:aV.length<=c:=U;simp[r2,pr,rV,qx,hE,hD,iK ai U,nd]
theorem bB.to {h:H}{v:V}{es:Nat}{aV:List (List V)}(s:bB h v es aV){i:Nat}(ai:i<=aV.length):bB h (nd v i) es (aV.take i):=by
 obtain⟨au,⟨rfl,rfl⟩|⟨f,k,off,cap,rfl,c⟩⟩:=s
 ·exact⟨by simp,.inl ⟨rfl,by simp⟩⟩
 ·refine⟨fun e he=>au e (wO he),.inr ⟨f,k,off,cap,?_,?_⟩⟩
  ·simp[nd,nl ai]
  ·obtain⟨xs,h1,ae,az⟩:=c;have e:(aV.take i).flatten=aV.flatten.take (i*es):=by
    have:iU es aV:=au;rw[LV this]
   have oC:aV.flatten.length=aV.length*es:=Hx au;have hm:i*es<=aV.length*es:=i0 es ai;refine⟨xs,h1,?_,?_⟩
   ·rw[e,el];omega
   ·rw[e,el,nl (by omega)];have:=lP (List.take (i*es)) az;rw[wV,oC,nl hm]at this;rw[this]
def sW(p:List V->Bool):List (List V) ->Nat->Int
 |[],_=>-1
 |e::l,i=>if p e=true then(i:Int)else sW p l (i+1)
theorem YH(p:List V->Bool):∀(l:List (List V)) (i:Nat),decide (0<=sW p l i)=l.any p
 |[],_=>rfl
 |e::l,i=>by
  have ih:=YH p l (i+1);rw[yc];by_cases h: p e=true
  ·have aN:sW p (e::l) i=(i:Int):=by unfold sW;rw[bl h]
   have:(0:Int)<=sW p (e::l) i:=by rw[aN];omega
   simp[h,this]
  ·have aN:sW p (e::l) i=sW p l (i+1):=by rw[sW];rw[bf h]
   simp only[aN,ih];simp[h]
theorem aIG(a:Int):qO a a=true:=by rw[BL];simp
theorem amZ:∀s:List Nat,leq s s=true
 |[]=>rfl
 |x::s=>by simp only[leq,hE,hX];exact amZ s
theorem YI:∀p:P,pa p p=true
 |[]=>rfl
 |d::k=>by simp only[pa,hE,hX];exact YI k
theorem aDZ(k:IntKind)(a:Int):V.same (.int k a) (.int k a)=true:=by
 have:V.same (.int k a) (.int k a)=(me k k&&qO a a):=rfl;rw[this,aIG];cases k<;>rfl
theorem aGo(b:Bool):V.same (.bool b) (.bool b)=true:=by
 have:V.same (.bool b) (.bool b)=(b==b):=rfl;rw[this];simp
theorem aD0(s:List Nat):V.same (.str s) (.str s)=true:=amZ s
theorem alK(xs:List V):V.same (.agg xs) (.agg xs)=V.py xs xs:=rfl
theorem Yh:V.py [] []=true:=rfl
theorem aIH(x:V)(xs:List V)(e:V.same x x=true):V.py (x::xs) (x::xs)=V.py xs xs:=by
 have:V.py (x::xs) (x::xs)=(V.same x x&&V.py xs xs):=rfl;rw[this,e];rfl
theorem alL(f:P)(k off n es:Nat)(cap:Option Nat):V.same (.ag f k off n es cap) (.ag f k off n es cap)=true:=by
 have:V.same (.ag f k off n es cap) (.ag f k off n es cap)=(pa f f&&Nat.beq k k&&Nat.beq off off&&Nat.beq n n&&Nat.beq es es&&(match cap,cap with|none,none=>true|some x,some y=>Nat.beq x y|_,_=>false)):=rfl;rw[this,YI];cases cap<;>simp
theorem fK{h:H}{v:V}{es:Nat}{aV:List (List V)}(s:bB h v es aV):V.same v v=true:=by
 rcases s.2 with⟨rfl,_⟩|⟨f,k,off,cap,rfl,_⟩
 ·rfl
 ·exact alL _ _ _ _ _ _
theorem aD1(f:P)(k i r:Nat):V.same (.ptr f k i r) (.ptr f k i r)=true:=by
 have:V.same (.ptr f k i r) (.ptr f k i r)=(pa f f&&Nat.beq k k&&Nat.beq i i&&Nat.beq r r):=rfl;rw[this,YI];simp
theorem PR:∀a b:List Nat,leq a b=decide (a=b)
 |[],[]=>by simp[leq]
 |[],_::_=>by simp[leq]
 |_::_,[]=>by simp[leq]
 |x::a,y::b=>by
  have ih:=PR a b;simp only[leq,hE,oS,Bool.decide_and];by_cases h:x=y
  ·simp[h,ih]
  ·simp[h]
theorem awA(a b:List Nat):V.bin .eql .str (.str a) (.str b)=some (.bool (decide (a=b))):=by rw[<-PR];rfl
theorem awB(a b:List Nat):V.bin .neq .str (.str a) (.str b)=some (.bool (!decide (a=b))):=by rw[<-PR];rfl
theorem awC(a b:Bool):V.bin .neq .bool (.bool a) (.bool b)=some (.bool (!(a==b))):=rfl
theorem gS(s:List Nat):uZ true (.str s)=some (.int .i64 (s.length:Nat)):=rfl
theorem td{xs:List V}{off n:Nat}(h:off+n<=xs.length):range xs off n=some ((xs.drop off).take n):=Hk h
theorem pL(xs:List V)(ty:TypeId)(h:H)(f:P)(n room:Nat)(aI:n<=room)(v:V)(ar:v.cells.length=n)(ab:xs.length=n):fz (some (.cells xs 0 0 .rw ty)) h f n 0 0 room v=some (.bk [],h.set f (.cells v.cells 0 0 .rw ty)):=by
 simp only[fz,ar,hD,aI,hX,hE,nT,kN.sT,a1];have:mO xs 0 v.cells=some v.cells:=by
  rw[zS (by omega),BO,nR,eH,ve (by omega),qy]
 rw[this]
theorem aJ6(cs:List V):(V.agg cs).cells=cs:=rfl
theorem aJ7(k:IntKind)(a:Int):(V.int k a).cells=[.int k a]:=rfl
theorem aKZ(b:Bool):(V.bool b).cells=[.bool b]:=rfl
theorem aJ8(s:List Nat):(V.str s).cells=[.str s]:=rfl
theorem aJ9(f:P)(k i r:Nat):(V.ptr f k i r).cells=[.ptr f k i r]:=rfl
theorem aGp(h:H)(o cu:O):(h.new o).set h.next cu=h.new cu:=H.aGg h o cu
theorem PS(ty:Nat)(v:V)(e:v.cells=[v]):wj ty 1 v=some (.cells [v] 0 0 .rw ty,fun f=>.ptr f 0 0 1):=by simp only[wj,e];rfl
theorem aGq(ty:Nat)(s:List Nat):wj ty 1 (.str s)=some (.cells [.str s] 0 0 .rw ty,fun f=>.ptr f 0 0 1):=rfl
theorem aGr(ty:Nat)(k:IntKind)(n:Int):wj ty 1 (.int k n)=some (.cells [.int k n] 0 0 .rw ty,fun f=>.ptr f 0 0 1):=rfl
theorem aII(ty:Nat)(b:Bool):wj ty 1 (.bool b)=some (.cells [.bool b] 0 0 .rw ty,fun f=>.ptr f 0 0 1):=rfl
theorem bB.cell{h:H}{v:V}{es:Nat}{aV:List (List V)}(s:bB h v es aV):v.cells=[v]:=by
 rcases s.2 with⟨rfl,_⟩|⟨f,k,off,cap,rfl,_⟩<;>rfl
theorem bB.box{h:H}{v:V}{es:Nat}{aV:List (List V)}(s:bB h v es aV)(ty:Nat):wj ty 1 v=some (.cells [v] 0 0 .rw ty,fun f=>.ptr f 0 0 1):=PS ty v s.cell
theorem aBm{cs:List V}{g:Bool}{off n:Nat}(h:off+n<=cs.length):Dj g off n (.agg cs)=one g (some ((cs.drop off).take n)):=by
 show one g (range cs off n)=_;rw[Hk h]
theorem aBn:(true==true)=true:=rfl
theorem aBo:(true==false)=false:=rfl
theorem aBp:(false==true)=false:=rfl
theorem aBq:(false==false)=true:=rfl
theorem aK0{α:Type}{l:List α}{m:Nat}(hm:m<l.length):decide ((m:Int)=((l.length-1:Nat):Int))=(l.drop (m+1)).isEmpty:=by
 cases h:l.drop (m+1)with
 |nil=>
  have:=lP List.length h;simp at this;simp;omega
 |cons x r=>
  have:=lP List.length h;simp at this;simp;omega
theorem aj.at {a b:H}(g:aj a b)[k:aK a]{f:P}{o:O}(e:a.get f=some o):b.get f=some o:=g.g.wi k.ok e
def BD(v:V)(br ai:Option V):Option V:=match v with
 |.str s=>pr br ai none s.length s.length fun l h _=>.str ((zv s l).take (h-l))
 |_=>none
theorem aIJ(x:X)(br ai:Option X)(I:Fr):(d5.WY x br ai).f I=BD (x.a7 I) (br.map fun x=>x.a7 I) (ai.map fun x=>x.a7 I):=by
 show GD x br ai I=_;unfold GD BD;cases x.a7 I<;>first|rfl|(simp only[anR];rfl)
theorem PT(s:List Nat){n:Nat}(h:n<=s.length):BD (.str s) none (some (.int .i64 (n:Int)))=some (.str (s.take n)):=by
 simp[BD,pr,rV,qx,hD,h,si]
theorem Ev(s:List Nat){n:Nat}(h:n<=s.length):BD (.str s) (some (.int .i64 (n:Int))) none=some (.str (s.drop n)):=by
 simp[BD,pr,rV,qx,hD,h,si];exact kM (by simp)
theorem aGs(s:List Nat){n m:Nat}(h:n<=m)(ae:m<=s.length):BD (.str s) (some (.int .i64 (n:Int))) (some (.int .i64 (m:Int)))=some (.str ((s.drop n).take (m-n))):=by
 simp[BD,pr,rV,qx,hD,h,ae,si]
theorem tN{s:List Nat}{i b:Nat}(h:s[i]?=some b):DZ (.str s) (.int .i64 (i:Int))=some (.int .u8 (b:Nat)):=by
 simp[DZ,qx,BH,h]
theorem rK(b:Nat)(s:List Nat):DZ (.str (b::s)) (.int .i64 0)=some (.int .u8 (b:Nat)):=rfl
def aje(v:V):Option (O×(P->V)):=match v with
 |.str s=>some (.mz s 0,fun f=>.ptr f 0 0 0)
 |_=>none
theorem aGt(x:X)(I:Fr):(kg.N1 x).f I=aje (x.a7 I):=rfl
theorem aGu(s:List Nat):aje (.str s)=some (.mz s 0,fun f=>.ptr f 0 0 0):=rfl
def Ss(o:Option O)(h:H)(f:P):Option (V×H):=match o with
  |some (.mz str pos)=>FZ h f str pos
  |some (.kI none _ _ _)=>none
  |some (.kI (some _) _ _ _)=>none
  |_=>none
def St(h:H)(v:V):Option (V×H):=(g7.yH true (.c v)).f Fr.e h
theorem aD2(x:X)(I:Fr)(h:H):(g7.yH true x).f I h=St h (x.a7 I):=rfl
theorem aGv(h:H)(f:P)(k r:Nat):St h (.ptr f k 0 r)=Ss (h.get f) h f:=by
 have e:St h (.ptr f k 0 r)=(match h.get f with
  |some (.mz str pos)=>FZ h f str pos
  |some (.kI none _ _ _)=>none
  |some (.kI (some _) _ _ _)=>none
  |_=>none):=by
  show F0 true (.c (.ptr f k 0 r)) Fr.e h=_;unfold F0;simp only[X.afK];cases h.get f with
  |none=>rfl
  |some o=>
   cases o with
   |kI m s aMt st=>cases m<;>rfl
   |_=>rfl
 rw[e];rfl
theorem aGw(h:H)(f:P)(pos:Nat):Ss (some (.mz [] pos)) h f=some (.bk [.bool false],h):=rfl
theorem aIK(h:H)(f:P)(b:Nat)(s:List Nat)(pos:Nat):Ss (some (.mz (b::s) pos)) h f=some (.bk [.bool true,.int .i64 (pos:Nat),.int .i32 ((lS (b::s)).1:Nat)],h.set f (.mz ((b::s).drop (lS (b::s)).2) (pos+(lS (b::s)).2))):=by
 show FZ h f (b::s) pos=_;unfold FZ;rw[si];rfl
def xU(b:Nat)(c1 c2 dF:Bool)(bG ct dR:Nat):Nat×Nat:=
 if Nat.blt b 0x80 then(b,1)
 else if Nat.beq (b/32) 6&&c1 then
  if Nat.ble 0x80 ((b%32)*64+bG%64)then((b%32)*64+bG%64,2)else(0xFFFD,1)
 else if Nat.beq (b/16) 14&&c1&&c2 then
  if Nat.ble 0x800 ((b%16)*4096+(bG%64)*64+ct%64)&&(Nat.blt ((b%16)*4096+(bG%64)*64+ct%64) 0xD800||Nat.ble 0xE000 ((b%16)*4096+(bG%64)*64+ct%64))then((b%16)*4096+(bG%64)*64+ct%64,3)else(0xFFFD,1)
 else if Nat.beq (b/8) 30&&c1&&c2&&dF then
  if Nat.ble 0x10000 ((b%8)*262144+(bG%64)*4096+(ct%64)*64+dR%64)&&Nat.ble ((b%8)*262144+(bG%64)*4096+(ct%64)*64+dR%64) 0x10FFFF then((b%8)*262144+(bG%64)*4096+(ct%64)*64+dR%64,4)else(0xFFFD,1)
 else(0xFFFD,1)
theorem aos(b:Nat)(s:List Nat):∃c1 c2 dF bG ct dR,lS (b::s)=xU b c1 c2 dF bG ct dR:=⟨_,_,_,_,_,_,rfl⟩
theorem EC{b:Nat}(h:b<128)(s:List Nat):lS (b::s)=(b,1):=by
 obtain⟨c1,c2,dF,bG,ct,dR,e⟩:=aos b s;rw[e];unfold xU;rw[bl (by rw[lv];exact h)]
theorem aot{b:Nat}(h:128<=b)(s:List Nat):128<=(lS (b::s)).1/\(lS (b::s)).1<1114112:=by
 obtain⟨c1,c2,dF,bG,ct,dR,e⟩:=aos b s;rw[e];unfold xU;rw[bf (by rw[lv];omega)];have bJ:=qv b (show 0<32 by omega);have g8:=qv b (show 0<16 by omega);have cB:=qv bG (show 0<64 by omega);have bU:=qv ct (show 0<64 by omega);generalize b%32=p at*;generalize b%16=q at*;generalize b%8=r at*;generalize bG%64=tr at*;generalize ct%64=o5 at*;generalize dR%64=ux at*;split
 ·split
  ·rename_i U;have:=iZ U;constructor<;>simp only<;>omega
  ·constructor<;>simp only<;>omega
 ·split
  ·split
   ·rename_i U;rw[dJ]at U;have:=iZ U.1;constructor<;>simp only<;>omega
   ·constructor<;>simp only<;>omega
  ·split
   ·split
    ·rename_i U;rw[dJ]at U;have h1:=iZ U.1;have ae:=iZ U.2;constructor<;>simp only<;>omega
    ·constructor<;>simp only<;>omega
   ·constructor<;>simp only<;>omega
theorem awD(q:Q)(k:IntKind)(a b:Int):V.bin .lss q (.int k a) (.int k b)=some (.bool (decide (a<b))):=by rw[<-pE];cases k<;>rfl
theorem awE(q:Q)(k:IntKind)(a b:Int):V.bin .gtr q (.int k a) (.int k b)=some (.bool (decide (b<a))):=by rw[<-pE];cases k<;>rfl
theorem awF(q:Q)(k:IntKind)(a b:Int):V.bin .leq q (.int k a) (.int k b)=some (.bool (decide (a<=b))):=by
 have:decide (a<=b)=!decide (b<a):=by by_cases h:a<=b<;>simp[h]<;>omega
 rw[this,<-pE];cases k<;>rfl
theorem awG(q:Q)(k:IntKind)(a b:Int):V.bin .geq q (.int k a) (.int k b)=some (.bool (decide (b<=a))):=by
 have:decide (b<=a)=!decide (a<b):=by by_cases h:b<=a<;>simp[h]<;>omega
 rw[this,<-pE];cases k<;>rfl
theorem awH(k:IntKind)(a b:Int):V.bin .eql .int (.int k a) (.int k b)=some (.bool (decide (a=b))):=by rw[<-BL];cases k<;>rfl
theorem V2(k:IntKind)(a b:Int):V.bin .neq .int (.int k a) (.int k b)=some (.bool (!decide (a=b))):=by rw[<-BL];cases k<;>rfl
theorem aBr(ty:Nat)(x:V)(a b c d:Int):g6 ty 1 4 [x] [(0,1,.int .i64 a),(1,1,.int .i64 b),(2,1,.int .i64 c),(3,1,.int .i64 d)]=some (.cells [.int .i64 a,.int .i64 b,.int .i64 c,.int .i64 d] 0 0 .rw ty,fun f=>.ag f 0 0 4 1 (some 4)):=rfl
theorem aD3(oE i2 k8 hS w3 gY a b c d e:V)(k:IntKind)(n:Int):jQ [oE,i2,k8,hS,w3,gY] [(0,5,.agg [a,b,c,d,e]),(5,1,.int k n)]=some (.agg [a,b,c,d,e,.int k n]):=rfl
theorem rp(f:P)(k off len es:Nat)(cap:Option Nat)(i:Nat)(h:i<len):jP es (.ag f k off len es cap) (.int .i64 (i:Int))=some (.ptr f k (off+i*es) es):=by
 have ah:Nat.blt i len=true:=by rw[lv];exact h
 simp[jP,qx,ah]
theorem vg{xs:List V}{i:Nat}{x:V}(e:xs[i]?=some x)(ty:TypeId)(md:kN):ec (some (.cells xs 0 0 md ty)) false 1 0 (0+i*1) 1=some x:=by
 have ai:i<xs.length:=by
  rcases dz i xs.length with a|a
  ·exact a
  ·rw[ei a]at e;cases e
 rw[um _ _ _ _ _ _ _ (a1 _),td (by omega),eH,kz,en e];rfl
theorem GQ(xs:List V)(ty:TypeId)(h:H)(f:P)(i:Nat)(ai:i<xs.length)(v:V)(ar:v.cells=[v]):fz (some (.cells xs 0 0 .rw ty)) h f 1 0 (0+i*1) 1 v=some (.bk [],h.set f (.cells (xs.set i v) 0 0 .rw ty)):=by
 simp only[fz,ar,hD,a1,hX,hE,eG,eJ,eH,kz,nT,kN.sT];have:mO xs i [v]=some (xs.set i v):=by
  rw[zS (by simp;omega),List.set_eq_take_append_cons_drop,bl ai];simp
 rw[this]
theorem aGx(x y:X)(I:Fr):(d5.imax x y).f I=Dk (x.a7 I) (y.a7 I):=rfl
theorem aGy(a b:Nat):Dk (.int .i64 (a:Int)) (.int .i64 (b:Int))=some (.int .i64 ((max a b:Nat):Int)):=by
 show some (V.int .i64 (match oI a b with|true=>(b:Int)|false=>a))=_;rw[pE];by_cases h:a<b
 ·have:((a:Int)<b):=by omega
  simp[this,Nat.max_eq_right (zR h)]
 ·have:¬((a:Int)<b):=by omega
  simp[this,Nat.max_eq_left (BA h)]
theorem wY(ty es bytes:Nat)(z:List V)(n:Nat)(h1:n<=1099511627776)(ae:bytes*n<=140737488355328):Xd ty es bytes z (.int .i64 (n:Int)) (.int .i64 (n:Int))=some (.cells (e2 z n) 0 0 .rw ty,fun f=>.ag f 0 0 n es (some n)):=by
 simp only[Xd,qx,hD,a1,h1,ae,hX,nT]
theorem DG(z:V):∀n,e2 [z] n=List.replicate n z
 |0=>rfl
 |n+1=>by
  have:=DG z n;show z::e2 [z] n=_;rw[this];rfl
theorem am0(f:P)(k off n es:Nat)(cap:Option Nat):(V.ag f k off n es cap).cells=[.ag f k off n es cap]:=rfl
theorem aD4(f:P)(k off n es:Nat)(cap:Option Nat):uZ false (.ag f k off n es cap)=some (.int .i64 (n:Nat)):=rfl
theorem amd(k j:IntKind)(n:Int):JV k (.int j n)=some (.int k (b8 k n)):=rfl
attribute [go_sem] aDA aDz aF1 aF2 aIh aF0 aDy aFZ aIg aLI aLp aLJ aLK aLq aLL aLM aLr aJX aIp aJY aDB aAZ aA0 aA1 aA2 aA3 aA4 aA5 akD aBe aBf awh awi awj awk awl awm awn aBj awo awq aws awu aww awy awp awr awt awv awx awz aIi aIj aIk aIl aJW aDC aA6 aA7 aA8 aA9 aBa aBb aBi akF aBg aBh aIm aBk aIn aDY aBl EA aIF aGl aGm aJZ aJ0 av5 aAX aAY X.afK Fr.gs aF5 aIq aJ1 aJ2 aKU aIb aAR aF6 aKV aDD aAS aDF aIr aDG aF7 aF8 aF9 aGa aIv aD3 aAV aAW aBr aGc aIw aDH aJ3 aGd aIx aDI aGe aGb aIu aAT aAU awD awE awF awG awH V2 aGx aGy aD4 am0 aGt aGu aD2 aGv aGw aIK aIs rK aIJ aDE amd av4 awC awA awB gS aIy qx aKW aDJ aDK DQ kX aIB aGq aGr aII anS aDL aDM j9 ef bQ jt GN um pL aGp td aBm aJ6 aJ7 aKZ aJ8 aJ9 List.length_cons List.length_nil Nat.zero_add Nat.le_refl Nat.add_zero List.drop_zero List.drop_succ_cons List.take_succ_cons List.take_zero List.take_nil Option.map_some Option.map_none List.nil_append List.cons_append aDZ aGo aD0 alK Yh aIH aD1 aGn List.any_cons List.any_nil hE Bool.or_false Bool.or_true Bool.false_or Bool.true_or Bool.true_and Bool.false_and Bool.and_true Bool.and_false aBn aBo aBp aBq Int.ofNat_lt Int.ofNat_le and_false false_and decide_true decide_false Bool.not_true Bool.not_false if_true if_false Int.cast_ofNat_Int and_true true_and and_self eq_self aJ5 aKX aJ4 aLs results_tmp aLN aIz aIA aGh
def mY(J:Prog)(a:H)(f:V)(args:List V)(R:V->H->Prop):Prop:=∀h,aj a h->∃v aa,xu J f args h v aa/\aj h aa/\R v aa
abbrev cJ(J:Prog)(a:H)(g:FuncId)(args:List V)(R:V->H->Prop):Prop:=mY J a (.fn (.func g) [] []) args R
section
variable {J:Prog}{a:H}{f:V}{g:FuncId}{args:List V}{R:V->H->Prop}
theorem cJ.mk(aA:∀h,J.spec g args h=none){F:F}(dw:J.funcs g=some F)(hle:Nat.ble args.length F.n=true)
  (hw:∀h,[aK h] ->[aj a h] ->dA J F.body ⟨kZ args 0 Fr.e,[],h⟩ (.ret F.res fun w aa=>aj h aa/\R w aa)):cJ J a g args R:=fun h i=>by
 have:aK h:=i.bx;obtain⟨dg,aa,t,kB,r⟩:=(ya (aA h) dw hle (hw h)).to;exact⟨dg,aa,t.val,kB,r⟩
theorem mY.mk{c:V}{cs:List V}(aA:∀h,J.spec g (args++c::cs) h=none){F:F}(dw:J.funcs g=some F)(hle:Nat.ble (args++c::cs).length F.n=true)
  (hw:∀h,[aK h] ->[aj a h] ->dA J F.body ⟨kZ (args++c::cs) 0 Fr.e,[],h⟩ (.ret F.res fun w aa=>aj h aa/\R w aa)):mY J a (.fn (.func g) [] (c::cs)) args R:=fun h i=>by
 have:aK h:=i.bx;obtain⟨dg,aa,t,kB,r⟩:=(ya (aA h) dw hle (hw h)).to;exact⟨dg,aa,t.CJ,kB,r⟩
theorem mY.mono{b:H}(c:mY J a f args R)(k:aj a b):mY J b f args R:=fun h i=>c h (k.aG i)
theorem mY.imp{z4:V->H->Prop}(c:mY J a f args R)(k:∀v h,R v h->z4 v h):mY J a f args z4:=fun h i=>let⟨v,aa,e,g,r⟩:=c h i;⟨v,aa,e,g,k v aa r⟩
variable {I:Fr}{ds:dB}{k:c4}
theorem mY.run(c:mY J a f args R){h:H}[i:aj a h]{d:Option S}{os:List bH}(K:∀v aa,aj h aa->aK aa->R v aa->fu J os (cX d v I) aa ds k):oL J f args h d os I ds k:=by
 obtain⟨v,aa,e,g,r⟩:=c h i;show vv J f args h _;rw[e];exact K v aa g g.bx r
theorem mY.oR(c:mY J a f args R){h:H}[i:aj a h]{d:Option S}{b:List Nat}{os:List (bH×List Nat)}{n:Nat}{aD:List Rec}(K:∀v aa,aj h aa->aK aa->R v aa->kK aa b aD=true/\wd J os (n+1) aD (cX d v I) aa ds k):tL J f args h d b os n aD I ds k:=by
 obtain⟨v,aa,e,g,r⟩:=c h i;show vv J f args h _;rw[e];exact K v aa g g.bx r
end
theorem aj.gt{h aa:H}(g:aj h aa)(f:P)[o:fQ f h]:aa.get f=h.get f:=g.g.get f o.lt
theorem aj.dW{h aa:H}(g:aj h aa):∀(f:P) [fQ f h],fQ f aa:=fun _ o=>o.up g
theorem aj.t4{h aa:H}(g:aj h aa):∀(b:H) [aj b h],aj b aa:=fun _ k=>k.aG g
theorem Pm{h:H}{v:V}{es:Nat}{aV:List (List V)}(s:bB h v es aV)[k:aK h](aa:H)[g:aj h aa]:bB aa v es aV:=s.aO k.ok g
def dY(k:IntKind)(l:List Nat):List (List V):=l.map fun n=>[.int k (n:Nat)]
def d8(k:IntKind)(l:List Nat):List V:=l.map fun n=>.int k (n:Nat)
theorem dy(k:IntKind)(l:List Nat):(dY k l).length=l.length:=eQ _
theorem zK(k:IntKind)(l:List Nat):(d8 k l).length=l.length:=eQ _
theorem jr{k:IntKind}{l:List Nat}{i x:Nat}(h:l[i]?=some x):(dY k l)[i]?=some [.int k (x:Nat)]:=by simp[dY,h]
theorem KU{k:IntKind}{l:List Nat}{i x:Nat}(h:l[i]?=some x):(d8 k l)[i]?=some (.int k (x:Nat)):=by simp[d8,h]
theorem aD5(k:IntKind)(l:List Nat)(i x:Nat):(d8 k l).set i (.int k (x:Nat))=d8 k (l.set i x):=by simp[d8,List.map_set]
theorem yd(k:IntKind):∀l:List Nat,(dY k l).flatten=d8 k l
 |[]=>rfl
 |x::l=>by
  have:=yd k l;show[V.int k (x:Nat)]++(dY k l).flatten=_;rw[this];rfl
theorem XU(k:IntKind)(l:List Nat):iU 1 (dY k l):=fun e he=>by
 unfold dY at he;obtain⟨n,_,rfl⟩:=List.mem_map.1 he;rfl
theorem BX(k:IntKind)(n:Nat):e2 [.int k (.ofNat 0)] n=d8 k (List.replicate n 0):=by rw[DG,d8,List.map_replicate];rfl
theorem nY{h:H}{f:P}{k:IntKind}{l:List Nat}{ty:TypeId}(e:h.get f=some (.cells (d8 k l) 0 0 .rw ty))(c:Option Nat):bB h (.ag f 0 0 l.length 1 c) 1 (dY k l):=by
 refine⟨XU k l,.inr ⟨f,0,0,c,by rw[dy],_,rm e (a1 _) (a1 _),?_,?_⟩⟩
 ·rw[yd];omega
 ·rw[yd,iL];exact kM (a1 _)
theorem Y2{h:H}{f:P}{k:IntKind}{l:List Nat}{ty:TypeId}{n:Nat}(aq:l.length=n)(e:h.get f=some (.cells (d8 k l) 0 0 .rw ty))(c:Option Nat):bB h (.ag f 0 0 n 1 c) 1 (dY k l):=by subst aq;exact nY e c
theorem BE{k:IntKind}(l:List Nat)(ty:TypeId)(h:H)(f:P)(i:Nat)(ai:i<l.length)(x:Nat):fz (some (.cells (d8 k l) 0 0 .rw ty)) h f 1 0 (0+i*1) 1 (.int k (x:Nat))=some (.bk [],h.set f (.cells (d8 k (l.set i x)) 0 0 .rw ty)):=by
 rw[GQ _ _ _ _ _ (by rw[zK];exact ai) _ rfl,aD5]
theorem wrap_u64{n:Nat}(h:n<18446744073709551616):b8 .u64 (n:Int)=(n:Int):=by
 have ah:Nat.blt n 18446744073709551616=true:=by rw[lv];exact h
 show(match Nat.blt n 18446744073709551616 with|true=>Int.ofNat n|false=>IntKind.wrap .u64 (.ofNat n))=_;rw[ah];rfl
theorem wrap_u32{n:Nat}(h:n<4294967296):b8 .u32 (n:Int)=(n:Int):=by
 have ah:Nat.blt n 4294967296=true:=by rw[lv];exact h
 show(match Nat.blt n 4294967296 with|true=>Int.ofNat n|false=>IntKind.wrap .u32 (.ofNat n))=_;rw[ah];rfl
theorem wrap_i64{n:Nat}(h:n<9223372036854775808):b8 .i64 (n:Int)=(n:Int):=gz (by omega) (by omega)
theorem q9(q:Q)(k:IntKind)(a b:Int):V.bin .add q (.int k a) (.int k b)=some (.int k (b8 k (a+b))):=by cases k<;>rfl
theorem rW(q:Q)(k:IntKind)(a b:Int):V.bin .sub q (.int k a) (.int k b)=some (.int k (b8 k (a-b))):=by cases k<;>rfl
theorem xV(q:Q)(k:IntKind)(a b:Int):V.bin .mul q (.int k a) (.int k b)=some (.int k (b8 k (a*b))):=by cases k<;>rfl
class jZ(f:P)(a b:H):Prop where u: pw f a b
instance jZ.akH{f:P}{h:H}[k:aK h]:jZ f h h:=⟨.refl k.ok⟩
instance jZ.J9{f:P}{a h:H}{o:O}[i:jZ f a h]:jZ f a (h.new o):=⟨i.u.trans ((iI.refl i.u.ok).new o).upto⟩
instance jZ.Vp{f:P}{a h:H}{o:O}[i:jZ f a h][k:fQ f h]:jZ f a (h.set f o):=⟨i.u.trans ⟨i.u.ok.set k.lt o,a1 _,fun _ _ aC=>H.ej _ _ fun e=>aC e.symm⟩⟩
instance jZ.rH{J:Prog}{b:H}{x:V}{args:List V}{v:V}{c:gp J b x args v}{f:P}{a h:H}{i:aj b h}[k:jZ f a h]:jZ f a (cg c h i):=⟨k.u.trans (DU c h i).upto⟩
theorem jZ.bx{f:P}{a b:H}(u:jZ f a b):aK b:=⟨u.u.ok⟩
theorem jZ.aG{f:P}{a b c:H}(u:jZ f a b)(k:jZ f b c):jZ f a c:=⟨u.u.trans k.u⟩
theorem jZ.gt{f:P}{a b:H}(u:jZ f a b)(g:P)[o:fQ g a][d:dp g f]:b.get g=a.get g:=u.u.get g o.lt d.ne
theorem jZ.dW{f:P}{a b:H}(u:jZ f a b):∀(g:P) [fQ g a],fQ g b:=fun _ o=>⟨oW o.lt u.u.next⟩
theorem jZ.t4{f:P}{a b:H}(u:jZ f a b):∀(c:H) [aj c a] [eC f c],aj c b:=fun _ k y=>⟨u.u.t3 k.g y.ge⟩
theorem aGz{k:IntKind}{l m:List Nat}{h:H}{f:P}{ty:TypeId}{b:V}{c:Option Nat}[ca:aK h](e:h.get f=some (.cells (d8 k l) 0 0 .rw ty))(ah:bB h b 1 (dY k m))(au:m.length=l.length):
  ∃aa,copyV h 1 (.ag f 0 0 l.length 1 c) b=some (.int .i64 (m.length:Nat),aa)/\aa.get f=some (.cells (d8 k m) 0 0 .rw ty)/\jZ f h aa:=by
 have aA:uc b=some m.length/\sh h 1 m.length b=some (d8 k m):=by
  obtain⟨au,⟨rfl,e⟩|⟨f,ch,off,cap,rfl,c⟩⟩:=ah
  ·have:m=[]:=by
    have:=lP List.length e;rw[dy]at this;exact tb this
   subst this;exact⟨rfl,rfl⟩
  ·rw[dy];refine⟨rfl,?_⟩;have:=c.all (n:=m.length*1) (by rw[yd,zK];omega);rw[yd]at this;simp only[sh,hE,hD,a1,hX,nT,this]
 obtain⟨s1,s2⟩:=aA;by_cases av:m.length=0
 ·have aN:m=[]:=tb av;have bd:l=[]:=tb (by omega);subst aN;subst bd;exact⟨h,by simp only[copyV,s1,hE];rfl,e,an⟩
 ·have J3:Nat.min m.length l.length=m.length:=nl (by omega);have bh:mO (d8 k l) 0 (d8 k m)=some (d8 k m):=by
   rw[zS (by rw[zK,zK];omega),BO,nR,eH,ve (by rw[zK,zK];omega),qy]
  have hw:nj h f 0 0 (d8 k m)=some (h.set f (.cells (d8 k m) 0 0 .rw ty)):=by
   unfold nj;rw[e];simp only[bh,hE,hD,kN.sT,a1,hX,nT]
  have p5:=aP e;refine⟨h.set f (.cells (d8 k m) 0 0 .rw ty),?_,jt,an⟩;simp only[copyV,s1,J3,hE,av,qw,hX,s2,hw];rfl
theorem aoM(k:IntKind):me k k=true:=by cases k<;>rfl
theorem DH(q:Q)(k:IntKind)(a b:Nat)(ah:0<b):V.bin .quo q (.int k (a:Int)) (.int k (b:Int))=some (.int k (b8 k ((a/b:Nat):Int))):=by
 have h1:qO (b:Int) 0=false:=by rw[BL];simp;omega
 have e:V.bin .quo q (.int k (a:Int)) (.int k (b:Int))=(match me k k&&!qO (b:Int) 0 with|true=>some (.int k (b8 k ((a:Int).tdiv b)))|false=>none):=rfl
 rw[e,h1,aoM];rfl
theorem Km(q:Q)(k:IntKind)(a b:Nat)(ah:0<b):V.bin .rem q (.int k (a:Int)) (.int k (b:Int))=some (.int k ((a%b:Nat):Int)):=by
 have h1:qO (b:Int) 0=false:=by rw[BL];simp;omega
 have e:V.bin .rem q (.int k (a:Int)) (.int k (b:Int))=(match me k k&&!qO (b:Int) 0 with|true=>some (.int k ((a:Int).tmod b))|false=>none):=rfl
 rw[e,h1,aoM];rfl
def Br(v:V):V:=match v with|.ag f k off n es _=>.ag f k off n es (some n)|v=>v
theorem bB.aGA{h:H}{v:V}{es:Nat}{aV:List (List V)}(s:bB h v es aV)(U:om v):r2 es v none (some (.int .i64 (aV.length:Int))) (some (.int .i64 (aV.length:Int)))=some (Br v):=by
 obtain⟨au,⟨rfl,rfl⟩|⟨f,k,off,cap,rfl,c⟩⟩:=s
 ·rfl
 ·cases cap with
  |none=>simp[r2,pr,rV,qx,hE,hD,Br]
  |some c=>
   have U:aV.length<=c:=U;simp[r2,pr,rV,qx,hE,hD,U,Br]
theorem bB.clip{h:H}{v:V}{es:Nat}{aV:List (List V)}(s:bB h v es aV):bB h (Br v) es aV:=by
 obtain⟨au,⟨rfl,rfl⟩|⟨f,k,off,cap,rfl,c⟩⟩:=s
 ·exact⟨au,.inl ⟨rfl,rfl⟩⟩
 ·exact⟨au,.inr ⟨f,k,off,some aV.length,rfl,c⟩⟩
theorem aIL(v:V):om (Br v):=by cases v<;>first|trivial|exact a1 _
theorem aKa(v:V)(i j:Nat):nd (nd v i) j=nd v j:=by cases v<;>rfl
theorem aIM{h:H}{v:V}{es:Nat}{aV:List (List V)}(s:bB h v es aV):nd v aV.length=v:=by
 obtain⟨au,⟨rfl,rfl⟩|⟨f,k,off,cap,rfl,c⟩⟩:=s<;>rfl
theorem am1{h:H}{v:V}{es:Nat}{aV:List (List V)}(s:bB h v es aV)(U:om v){i:Nat}(ai:i<=aV.length):om (nd v i):=by
 obtain⟨au,⟨rfl,rfl⟩|⟨f,k,off,cap,rfl,c⟩⟩:=s
 ·trivial
 ·cases cap with
  |none=>trivial
  |some c=>exact iK ai U
theorem bD.cap{ty es b:Nat}{h:H}{v:V}{l:List (List V)}(o:bD ty es b h v l):om v:=by
 rcases o with⟨rfl,rfl⟩|⟨f,aZ,off,cap,rfl,_,_,xs,dead,_,_,_,_,_,q⟩
 ·trivial
 ·cases cap with
  |none=>trivial
  |some c=>exact(q c rfl).1
theorem aD6{J:Prog}{α β:Type}{x:X}{ps:List S}{a b:C}{k:c4}{g:FuncId}{cap:List V}{nZ:H->Prop}{n:Nat}{X:Nat->List V}{I:Fr}{ds:dB}{h:H}(it:Iter J g [] cap nZ n X)(ab:x.a7 I=.fn (.func g) [] cap)(av:H)
  (L:Nat->α->List (P×O)) (p:Nat->α->H->Prop) (B9:β->List (P×O)) (q:β->H->Prop) (sq:∀i x aa,aj av aa->aK aa->lr (L i x) aa->p i x aa->nZ aa)
  (bh:∀i x h aa,aK h->aj h aa->p i x h->p i x aa) (aM:∀x h aa,aK h->aj h aa->q x h->q x aa)
  (init:aj av (h.new (.loop .ready none I ps a b))/\∃ x,lr (L 0 x) (h.new (.loop .ready none I ps a b))/\p 0 x (h.new (.loop .ready none I ps a b)))
  (step:∀i x aa,i<n->aj av aa->aK aa->lr (L i x) aa->p i x aa->∀d os aQ gG ch,(∀gr,aj av gr->(∃y,lr (L (i+1) y) gr/\p (i+1) y gr) ->fu J os (cX d (.bool true) aQ) gr gG ch) ->(∀gr,aj av gr->(∃y,lr (B9 y) gr/\q y gr) ->fu J os (cX d (.bool false) aQ) gr gG ch) ->oL J (.jk h.next) (X i) aa d os aQ gG ch)
  (Vq:∀x aa,aj av aa->aK aa->lr (L n x) aa->p n x aa->pz h.next I ds aa≠.no/\k.run J (pz h.next I ds aa))
  (Vr:∀y aa,aj av aa->aK aa->lr (B9 y) aa->q y aa->pz h.next I ds aa≠.no/\k.run J (pz h.next I ds aa)):dA J (.hp x ps a b) ⟨I,ds,h⟩ k:=by
 refine Xe ab ((it h.next (fun i aa=>aj av aa/\∃ x,lr (L i x) aa/\p i x aa) (fun aa=>aj av aa/\∃y,lr (B9 y) aa/\q y aa) _ ?_ ?_ ?_ ?_ ?_ init).mono ?_)
 ·rintro i aa ⟨aB,x,jK,oD⟩;exact⟨sq i x aa aB aB.bx jK oD,aB.g.ok⟩
 ·rintro i aa gr ⟨aB,x,jK,oD⟩ aY;exact⟨aB.aG ⟨aY⟩,x,lr.up aB.g.ok aY jK,bh i x aa gr aB.bx ⟨aY⟩ oD⟩
 ·rintro aa gr ⟨aB,x,jK,oD⟩ aY;exact⟨aB.aG ⟨aY⟩,x,lr.up aB.g.ok aY jK,aM x aa gr aB.bx ⟨aY⟩ oD⟩
 ·rintro aa ⟨aB,_⟩;exact aB.g.ok
 ·rintro i aa ai ⟨aB,x,jK,oD⟩ d os aQ gG ch hk;exact step i x aa ai aB aB.bx jK oD d os aQ gG ch (fun gr aY e=>hk _ _ (.inl ⟨rfl,aY,e⟩)) (fun gr aY e=>hk _ _ (.inr ⟨rfl,aY,e⟩))
 ·rintro _ aa (⟨aB,x,jK,oD⟩|⟨aB,y,Q7,Q8⟩)
  ·exact Vq x aa aB aB.bx jK oD
  ·exact Vr y aa aB aB.bx Q7 Q8
def l1(b:Nat)(v:V):Prop:=match v with|.ag f _ _ _ _ _=>b<=aH f|_=>True
theorem l1.mono{b b3:Nat}{v:V}(r:l1 b v)(h:b3<=b):l1 b3 v:=by cases v<;>first|trivial|exact iK h r
theorem bD.rt{ty es b:Nat}{h:H}{v:V}{l:List (List V)}(o:bD ty es b h v l):l1 b v:=by
 rcases o with⟨rfl,rfl⟩|⟨f,aZ,off,cap,rfl,ah,_⟩
 ·trivial
 ·exact ah
theorem pJ.set{h:H}{f:P}{k off:Nat}{cs:List V}(c: pJ h f k off cs){g:P}(o:O)(aC:f≠g): pJ (h.set g o) f k off cs:=by
 obtain⟨xs,h1,q⟩:=c;refine⟨xs,?_,q⟩;unfold live at h1⊢;rwa[H.ej _ _ (fun e=>aC e.symm)]
theorem bB.iA{h:H}{v:V}{es:Nat}{aV:List (List V)}(s:bB h v es aV){b:Nat}(r:l1 b v){g:P}(aC:aH g<b)(o:O):bB (h.set g o) v es aV:=by
 obtain⟨au,a|⟨f,k,off,cap,rfl,c⟩⟩:=s
 ·exact⟨au,.inl a⟩
 ·have r:b<=aH f:=r;exact⟨au,.inr ⟨f,k,off,cap,rfl,c.set o (by rintro rfl;omega)⟩⟩
theorem bD.iA{ty es b:Nat}{h:H}{v:V}{l:List (List V)}(o:bD ty es b h v l){g:P}(aC:aH g<b)(x:O):bD ty es b (h.set g x) v l:=by
 rcases o with a|⟨f,aZ,off,cap,e,ah,o⟩
 ·exact .inl a
 ·exact .inr ⟨f,aZ,off,cap,e,ah,o.wi (H.ej _ _ (by rintro rfl;omega))⟩
theorem bD.aO{ty es b:Nat}{h aa:H}{v:V}{l:List (List V)}(o:bD ty es b h v l)[k:aK h](g:aj h aa):bD ty es b aa v l:=o.t3 k.ok g.g
structure vz(b:Nat)(h aa:H):Prop where
 ok:aK aa
 next:aH h.next<=aH aa.next
 get:∀g,aH g<b->aH g<aH h.next->aa.get g=h.get g
theorem vz.aO{b:Nat}{h aa:H}(i:vz b h aa):∀(c:H) [aj c h],aH c.next<=b->aj c aa:=fun c g U=>⟨i.ok.ok,iK g.g.next i.next,fun f aE=>(i.get f (by omega) (oW aE g.g.next)).trans (g.g.get f aE)⟩
theorem vz.dW{b:Nat}{h aa:H}(i:vz b h aa):∀(f:P) [fQ f h],fQ f aa:=fun _ o=>⟨oW o.lt i.next⟩
theorem vz.gt{b:Nat}{h aa:H}(i:vz b h aa){g:P}(aC:aH g<b)[o:fQ g h]:aa.get g=h.get g:=i.get g aC o.lt
theorem uh{ty es bytes fb:Nat}{h:H}{a b:V}{l m:List (List V)}[k:aK h](bN:bD ty es fb h a l)(ah:bB h b es m)(rJ:fb<=aH h.next)(hz:l.length+m.length<=1099511627776)(j6:(l.length+m.length)*bytes<=1099511627776):
  ∃v aa,pt h ty es bytes a b=some (v,aa)/\bD ty es fb aa v (l++m)/\vz fb h aa:=by
 obtain⟨v,aa,e,o,ch,n,q⟩:=Pl bN ah k.ok rJ hz j6;refine⟨v,aa,e,o,⟨⟨ch⟩,n,fun f aE aq=>q f aq ?_⟩⟩;rintro⟨aZ,off,n,es,c,rfl⟩;rcases bN with⟨e,_⟩|⟨jw,nK,Du,Dv,e,mJ,_⟩
 ·cases e
 ·cases e;omega
theorem aGB{b:Nat}{v:V}(r:l1 b v):l1 b (Br v):=by cases v<;>first|trivial|exact r
theorem ame{b:Nat}{v:V}(r:l1 b v)(i:Nat):l1 b (nd v i):=by cases v<;>first|trivial|exact r
theorem pJ.Lt{h:H}{f:P}{k off:Nat}{cs:List V}(c: pJ h f k off cs){g:P}(o:O){st:tk}{Ra:Option o0}{pS:Fr}{ps:List S}{a b:C}(e:h.get g=some (.loop st Ra pS ps a b)): pJ (h.set g o) f k off cs:=by
 refine c.set o ?_;rintro rfl;obtain⟨xs,h1,_⟩:=c;unfold live at h1;rw[e]at h1;cases h1
theorem bB.Lt{h:H}{v:V}{es:Nat}{aV:List (List V)}(s:bB h v es aV){g:P}(o:O){st:tk}{Ra:Option o0}{pS:Fr}{ps:List S}{a b:C}(e:h.get g=some (.loop st Ra pS ps a b)):bB (h.set g o) v es aV:=by
 obtain⟨au,a|⟨f,k,off,cap,rfl,c⟩⟩:=s
 ·exact⟨au,.inl a⟩
 ·exact⟨au,.inr ⟨f,k,off,cap,rfl,c.Lt o e⟩⟩
theorem Qd{v:V}(h:v.cells=[v])(z:V):jQ [z] [(0,1,v)]=some (.agg [v]):=by
 simp only[jQ,oU,h];rfl
theorem bB.vh{h:H}{v:V}{k:IntKind}{l:List Nat}(s:bB h v 1 (dY k l)){g:P}{x y:V}{ty gF:TypeId}(e:h.get g=some (.cells [x] 0 0 .rw ty))(ab:∀k n,x≠.int k n):bB (h.set g (.cells [y] 0 0 .rw gF)) v 1 (dY k l):=by
 obtain⟨au,a|⟨f,il,off,cap,rfl,c⟩⟩:=s
 ·exact⟨au,.inl a⟩
 ·refine⟨au,.inr ⟨f,il,off,cap,rfl,?_⟩⟩;by_cases aE:f=g
  ·subst aE;obtain⟨xs,h1,ae,az⟩:=c;have rL:=h1;unfold live at h1;rw[e]at h1;have hk:il=0/\xs=[x]:=by
    have h1:(match Nat.ble 0 il&&Nat.ble il 0 with|true=>some [x]|false=>none)=some xs:=h1;by_cases hk:il=0
    ·subst hk;cases h1;exact⟨rfl,rfl⟩
    ·have:(Nat.ble 0 il&&Nat.ble il 0)=false:=by rw[hD,hD];simp;omega
     rw[this]at h1;cases h1
   obtain⟨rfl,rfl⟩:=hk;cases l with
   |nil=>exact⟨[y],rm jt (a1 _) (a1 _),by simpa[dY]using ae,by simp[dY]⟩
   |cons n l=>
    exfalso;rw[yd]at ae az;rw[zK]at ae az;have a6:off=0:=by simp at ae;omega
    subst a6;rw[iL]at az;have:=lP List.head? az;simp[d8]at this;exact ab _ _ this
  ·exact c.set _ aE
theorem bB.Yi{h:H}{v:V}{k:IntKind}{l:List Nat}(s:bB h v 1 (dY k l)){g:P}{xs cV:List V}{ty gF:TypeId}(e:h.get g=some (.cells xs 0 0 .rw ty))(ab:∀x∈xs,∀k n,x≠.int k n)(ax:cV.length=xs.length):bB (h.set g (.cells cV 0 0 .rw gF)) v 1 (dY k l):=by
 obtain⟨au,a|⟨f,il,off,cap,rfl,c⟩⟩:=s
 ·exact⟨au,.inl a⟩
 ·refine⟨au,.inr ⟨f,il,off,cap,rfl,?_⟩⟩;by_cases aE:f=g
  ·subst aE;obtain⟨cT,h1,ae,az⟩:=c;unfold live at h1;rw[e]at h1;have hk:il=0/\cT=xs:=by
    have h1:(match Nat.ble 0 il&&Nat.ble il 0 with|true=>some xs|false=>none)=some cT:=h1;by_cases hk:il=0
    ·subst hk;cases h1;exact⟨rfl,rfl⟩
    ·have:(Nat.ble 0 il&&Nat.ble il 0)=false:=by rw[hD,hD];simp;omega
     rw[this]at h1;cases h1
   obtain⟨rfl,rfl⟩:=hk;cases l with
   |nil=>exact⟨cV,rm jt (a1 _) (a1 _),by simpa[dY,ax]using ae,by simp[dY]⟩
   |cons n l=>
    exfalso;rw[yd]at ae az;rw[zK]at ae az;have:(V.int k (n:Nat))∈cT:=by
     have:V.int k (n:Nat)∈(cT.drop off).take (n::l).length:=by rw[az];simp[d8]
     exact wN (wO this)
    exact ab _ this _ _ rfl
  ·exact c.set _ aE
section
variable {J:Prog}{a:H}{g:FuncId}{args:List V}{F:F}(p:Has J g F)
include p
theorem aS.bE{v:V}(hle:Nat.ble args.length F.n=true)
  (hw:∀h,[aK h] ->[aj a h] ->dA J F.body ⟨kZ args 0 Fr.e,[],h⟩ (.ret F.res fun w aa=>w=v/\aj h aa)):aS J a g args v:=aS.mk (p.2 _) p.1 hle hw
theorem cJ.bE{R:V->H->Prop}(hle:Nat.ble args.length F.n=true)
  (hw:∀h,[aK h] ->[aj a h] ->dA J F.body ⟨kZ args 0 Fr.e,[],h⟩ (.ret F.res fun w aa=>aj h aa/\R w aa)):cJ J a g args R:=cJ.mk (p.2 _) p.1 hle hw
theorem gp.bE{v c:V}{cs:List V}(hle:Nat.ble (args++c::cs).length F.n=true)
  (hw:∀h,[aK h] ->[aj a h] ->dA J F.body ⟨kZ (args++c::cs) 0 Fr.e,[],h⟩ (.ret F.res fun w aa=>w=v/\aj h aa)):gp J a (.fn (.func g) [] (c::cs)) args v:=gp.mk (p.2 _) p.1 hle hw
theorem mY.bE{R:V->H->Prop}{c:V}{cs:List V}(hle:Nat.ble (args++c::cs).length F.n=true)
  (hw:∀h,[aK h] ->[aj a h] ->dA J F.body ⟨kZ (args++c::cs) 0 Fr.e,[],h⟩ (.ret F.res fun w aa=>aj h aa/\R w aa)):mY J a (.fn (.func g) [] (c::cs)) args R:=mY.mk (p.2 _) p.1 hle hw
end
section
open Form
structure qY(h:H)(n:bb)(s w:V):Prop where
 vars:bB h s 2 (hi n.vars)
 Ge:om s
 kids:bB h w 1 (dH n.kids)
 OH:om w
 hF:n.vars.length<1000000
 ki:n.kids.length<1000000
def ed(S W:Nat->V):Nat->List bb->List (List V)
 |_,[]=>[]
 |i,n::t=>[.int .i64 n.op,.str n.sort,.str n.name,S i,W i]::ed S W (i+1) t
theorem gj(S W:Nat->V):∀(i:Nat) (t:List bb),(ed S W i t).length=t.length
 |_,[]=>rfl
 |i,n::t=>by simp[ed,gj S W (i+1) t]
theorem GS(S W:Nat->V):∀(k:Nat) (t:List bb) (i:Nat) (n:bb),t[i]?=some n->(ed S W k t)[i]?=some [.int .i64 n.op,.str n.sort,.str n.name,S (k+i),W (k+i)]
 |_,[],i,n,h=>by simp at h
 |k,m::t,0,n,h=>by simp at h;subst h;rfl
 |k,m::t,i+1,n,h=>by
  have:=GS S W (k+1) t i n (by simpa using h);rw[show k+1+i=k+(i+1) by omega]at this;simpa[ed]using this
structure fc(h:H)(v:V)(t:List bb)(S W:Nat->V):Prop where
 ag:bB h v 5 (ed S W 0 t)
 cap:om v
 row:∀i n,t[i]?=some n->qY h n (S i) (W i)
theorem qY.aO{h aa:H}{n:bb}{s w:V}(r:qY h n s w)(k:h.ok)(g:aj h aa):qY aa n s w:=⟨r.vars.aO k g,r.Ge,r.kids.aO k g,r.OH,r.hF,r.ki⟩
theorem fc.aO{h aa:H}{v:V}{t:List bb}{S W:Nat->V}(r:fc h v t S W)(k:h.ok)(g:aj h aa):fc aa v t S W:=⟨r.ag.aO k g,r.cap,fun i n e=>(r.row i n e).aO k g⟩
theorem fc.at {h:H}{v:V}{t:List bb}{S W:Nat->V}{i:Nat}{n:bb}(_:fc h v t S W)(e:t[i]?=some n):(ed S W 0 t)[i]?=some [.int .i64 n.op,.str n.sort,.str n.name,S i,W i]:=by
 have:=GS S W 0 t i n e;rwa[eH]at this
theorem fc.lt{h:H}{v:V}{t:List bb}{S W:Nat->V}{i:Nat}(_:fc h v t S W)(e:i<t.length):i<(ed S W 0 t).length:=by rw[gj];exact e
def l2(n:bb)(s w:V)(i:Nat):V:=.agg [.int .i64 n.op,.str n.sort,.str n.name,s,w,.int .i64 (i:Nat)]
end
abbrev V.ad(n:Int):V:=.int .i64 n
abbrev O.af(xs:List V)(t:TypeId):O:=.cells xs 0 0 .rw t
abbrev Fr.gt(I:Fr)(n:Nat):V:=I.get (a0 n)
end Go.ao
namespace Go.ao.Form
theorem Zp:∀(t:List bb) (ds:List Nat),(hW t ds).length=ds.length+t.length
 |[],ds=>by simp[hW]
 |n::t,ds=>by
  show(hW t (ds++[ka ds n.kids 0+1])).length=_;rw[Zp t];simp;omega
theorem aph:∀(t u:List bb) (ds:List Nat),hW (t++u) ds=hW u (hW t ds)
 |[],u,ds=>rfl
 |n::t,u,ds=>aph t u _
theorem aLt{t:List bb}{i:Nat}{n:bb}(h:t[i]?=some n):hW (t.take (i+1)) []=hW (t.take i) []++[ka (hW (t.take i) []) n.kids 0+1]:=by
 rw[mU,h,aph];rfl
theorem aoP(ds:List Nat):∀(l:List Int) (k:Int) (m:Nat),ka ds (l++[k]) m=max (ka ds l m) ((ds[k.toNat]?).getD 0)
 |[],k,m=>rfl
 |x::l,k,m=>aoP ds l k _
theorem Y4{ds:List Nat}(h:∀x∈ds,x<=ds.length):∀(l:List Int) (m:Nat),m<=ds.length->ka ds l m<=ds.length
 |[],_,hm=>hm
 |k::l,m,hm=>by
  refine Y4 h l _ (Nat.max_le.2 ⟨hm,?_⟩);cases e:ds[k.toNat]? with
  |none=>simp
  |some x=>exact h x (c0 e)
theorem anW:∀(t:List bb) (ds:List Nat),(∀x∈ds,x<=ds.length) ->∀x∈hW t ds,x<=(hW t ds).length
 |[],_,h=>h
 |n::t,ds,h=>by
  refine anW t (ds++[ka ds n.kids 0+1]) fun x ab=>?_;rw[fi];rcases List.mem_append.1 ab with e|e
  ·have:=h x e;simp;omega
  ·have:=Y4 h n.kids 0 (dk _);simp at e;subst e;simp;omega
end Go.ao.Form
namespace Go.ao
section
open Form
def FN(b:Nat)(v:V):Prop:=match v with|.ag f _ _ _ _ _=>aH f<b|_=>True
theorem FN.mono{b b3:Nat}{v:V}(r:FN b v)(h:b<=b3):FN b3 v:=by cases v<;>first|trivial|exact oW r h
theorem l1.root{b:Nat}{v:V}(r:l1 b v){g:P}(h:ik v g):b<=aH g:=by obtain⟨_,_,_,_,_,rfl⟩:=h;exact r
theorem FN.root{b:Nat}{v:V}(r:FN b v){g:P}(h:ik v g):aH g<b:=by obtain⟨_,_,_,_,_,rfl⟩:=h;exact r
theorem bD.y6{ty es b:Nat}{h:H}{v:V}{l:List (List V)}(o:bD ty es b h v l)[k:aK h]:FN (aH h.next) v:=by
 rcases o with⟨rfl,_⟩|⟨f,aZ,off,cap,rfl,_,o⟩
 ·trivial
 ·exact o.lt k.ok
theorem bB.upto{h aa:H}{v:V}{es:Nat}{aV:List (List V)}{g:P}(s:bB h v es aV)[k:aK h](u: pw g h aa)(aC:¬ik v g):bB aa v es aV:=by
 obtain⟨au,a|⟨f,il,off,cap,rfl,c⟩⟩:=s
 ·exact⟨au,.inl a⟩
 ·refine⟨au,.inr ⟨f,il,off,cap,rfl,?_⟩⟩;have aE:f≠g:=fun e=>aC (by subst e;exact⟨_,_,_,_,_,rfl⟩);have ay:=c.lt k.ok;obtain⟨xs,h1,q⟩:=c;refine⟨xs,?_,q⟩;unfold live at h1⊢;rwa[u.get f ay aE]
theorem bD.upto{ty es b:Nat}{h aa:H}{v:V}{l:List (List V)}{g:P}(o:bD ty es b h v l)[k:aK h](u: pw g h aa)(aC:¬ik v g):bD ty es b aa v l:=by
 rcases o with a|⟨f,aZ,off,cap,rfl,ah,o⟩
 ·exact .inl a
 ·exact .inr ⟨f,aZ,off,cap,rfl,ah,o.wi (u.get f (o.lt k.ok) fun e=>aC (by subst e;exact⟨_,_,_,_,_,rfl⟩))⟩
theorem alP{h:H}{v:V}{es:Nat}{aV:List (List V)}(s:bB h v es aV):(v=.al/\aV=[])\/V.bin .eql .ag v .al=some (.bool false):=by
 rcases s.2 with a|⟨f,k,off,cap,rfl,_⟩
 ·exact .inl a
 ·exact .inr rfl
theorem amo:V.bin .eql .ag .al .al=some (.bool true):=rfl
def DV(v:V)(br ai:Nat):V:=match v with|.ag f k off _ es cap=>.ag f k (off+br*es) (ai-br) es (cap.map fun c=>c-br)|v=>v
theorem bB.alQ{h:H}{v:V}{es:Nat}{aV:List (List V)}(s:bB h v es aV)(U:om v){br ai:Nat}(h1:br<=ai)(ae:ai<=aV.length):r2 es v (some (.int .i64 (br:Int))) (some (.int .i64 (ai:Int))) none=some (DV v br ai):=by
 obtain⟨au,⟨rfl,rfl⟩|⟨f,k,off,cap,rfl,c⟩⟩:=s
 ·have:ai=0:=by simpa using ae
  subst this;have:br=0:=by omega
  subst this;rfl
 ·cases cap with
  |none=>simp[r2,pr,rV,qx,hE,hD,h1,ae,DV]
  |some c=>
   have U:aV.length<=c:=U;simp[r2,pr,rV,qx,hE,hD,iK ae U,h1,DV]
theorem bB.mid{h:H}{v:V}{es:Nat}{aV:List (List V)}(s:bB h v es aV){br ai:Nat}(h1:br<=ai)(ae:ai<=aV.length):bB h (DV v br ai) es ((aV.drop br).take (ai-br)):=by
 obtain⟨au,⟨rfl,rfl⟩|⟨f,k,off,cap,rfl,c⟩⟩:=s
 ·exact⟨by simp,.inl ⟨rfl,by simp⟩⟩
 ·have dP:iU es aV:=au;refine⟨(dP.drop br).take _,.inr ⟨f,k,off+br*es,cap.map fun c=>c-br,?_,?_⟩⟩
  ·have:((aV.drop br).take (ai-br)).length=ai-br:=by rw[el,jG];omega
   rw[this];rfl
  ·obtain⟨xs,az,bo,cb⟩:=c;have aN:((aV.drop br).take (ai-br)).flatten=(aV.flatten.drop (br*es)).take ((ai-br)*es):=by
    rw[<-LV (dP.drop br),QC dP]
   have hm:br*es+(ai-br)*es<=aV.length*es:=by rw[<-eP];exact i0 es (by omega)
   have hlen:((aV.drop br).take (ai-br)).flatten.length=(ai-br)*es:=by
    rw[((dP.drop br).take _).len,el,jG]
    congr 1;omega
   rw[dP.len]at bo;refine⟨xs,az,by rw[hlen];omega,?_⟩;rw[hlen,aN,<-cb,dP.len,Lr,pH,wV,nl (by omega)]
theorem an2{h:H}{v:V}{es:Nat}{aV:List (List V)}(s:bB h v es aV)(U:om v){br ai:Nat}(h1:br<=ai)(ae:ai<=aV.length):om (DV v br ai):=by
 obtain⟨au,⟨rfl,rfl⟩|⟨f,k,off,cap,rfl,c⟩⟩:=s
 ·trivial
 ·cases cap with
  |none=>trivial
  |some c=>
   have U:aV.length<=c:=U;show ai-br<=c-br;omega
theorem aoy{es:Nat}{cT:List V}{aV:List (List V)}{h:H}{f:P}{ty:TypeId}{b:V}{n:Nat}{c:Option Nat}[ca:aK h](e:h.get f=some (.cells cT 0 0 .rw ty))(ah:bB h b es aV)(aq:aV.length=n)(aX:cT.length=n*es)(m4:0<es):
  ∃aa,copyV h es (.ag f 0 0 n es c) b=some (.int .i64 (n:Nat),aa)/\aa.get f=some (.cells aV.flatten 0 0 .rw ty)/\jZ f h aa:=by
 have dP:iU es aV:=ah.1;have aA:uc b=some n/\sh h es n b=some aV.flatten:=by
  obtain⟨au,⟨rfl,e⟩|⟨f,ch,off,cap,rfl,c⟩⟩:=ah
  ·subst e;subst aq;exact⟨rfl,by simp[sh]⟩
  ·rw[aq];refine⟨rfl,?_⟩;have:=c.all (n:=n*es) (by rw[dP.len,aq]);simp only[sh,hE,hD,a1,hX,nT,this]
 obtain⟨s1,s2⟩:=aA;by_cases av:n=0
 ·subst av;have aN:aV=[]:=tb aq;subst aN;have bd:cT=[]:=tb (by simpa using aX);subst bd;exact⟨h,by simp only[copyV,s1,hE];rfl,e,an⟩
 ·have J3:Nat.min n n=n:=Nat.min_self n;have hlen:aV.flatten.length=cT.length:=by rw[dP.len,aq,aX]
  have bh:mO cT 0 aV.flatten=some aV.flatten:=by
   rw[zS (by omega),BO,nR,eH,ve (by omega),qy]
  have hw:nj h f 0 0 aV.flatten=some (h.set f (.cells aV.flatten 0 0 .rw ty)):=by
   unfold nj;rw[e];simp only[bh,hE,hD,kN.sT,a1,hX,nT]
  have p5:=aP e;refine⟨h.set f (.cells aV.flatten 0 0 .rw ty),?_,jt,an⟩;simp only[copyV,s1,J3,hE,av,qw,hX,s2,hw];rfl
theorem Ym(S W:Nat->V):∀(k:Nat) (t:List bb),iU 5 (ed S W k t)
 |_,[]=>fun _ h=>by cases h
 |k,n::t=>fun e he=>by
  rcases List.mem_cons.1 he with q|q
  ·subst q;rfl
  ·exact Ym S W (k+1) t e q
def upd(F:Nat->V)(i:Nat)(v:V):Nat->V:=fun j=>if j=i then v else F j
theorem kf(F:Nat->V)(i:Nat)(v:V):upd F i v i=v:=by simp[upd]
theorem iN(F:Nat->V){i j:Nat}(v:V)(h:j≠i):upd F i v j=F j:=by simp[upd,h]
theorem QI{S cP W cy:Nat->V}:∀(t:List bb) (k:Nat),(∀j,k<=j->j<k+t.length->S j=cP j/\W j=cy j) ->ed S W k t=ed cP cy k t
 |[],_,_=>rfl
 |n::t,k,h=>by
  have h1:=h k (a1 _) (by simp);have ae:=QI t (k+1) fun j a5 au=>h j (by omega) (by simp at au⊢;omega);show[V.int .i64 n.op,.str n.sort,.str n.name,S k,W k]::ed S W (k+1) t=_;rw[h1.1,h1.2,ae];rfl
theorem am8(S W:Nat->V)(w:V):∀(t:List bb) (k i:Nat),i<t.length->(ed S W k t).flatten.set (i*5+4) w=(ed S (upd W (k+i) w) k t).flatten
 |[],_,_,h=>by simp at h
 |n::t,k,0,_=>by
  have U:ed S (upd W k w) (k+1) t=ed S W (k+1) t:=QI t (k+1) fun j a5 _=>⟨rfl,iN W w (by omega)⟩;show([V.int .i64 n.op,.str n.sort,.str n.name,S k,W k]++(ed S W (k+1) t).flatten).set 4 w=[V.int .i64 n.op,.str n.sort,.str n.name,S k,upd W k w k]++(ed S (upd W k w) (k+1) t).flatten;rw[U,kf];rfl
 |n::t,k,i+1,h=>by
  have ih:=am8 S W w t (k+1) i (by simpa using h);have e:k+1+i=k+(i+1):=by omega
  rw[e]at ih;show([V.int .i64 n.op,.str n.sort,.str n.name,S k,W k]++(ed S W (k+1) t).flatten).set ((i+1)*5+4) w=[V.int .i64 n.op,.str n.sort,.str n.name,S k,upd W (k+(i+1)) w k]++(ed S (upd W (k+(i+1)) w) (k+1) t).flatten
  rw[iN W w (show k≠k+(i+1) by omega),<-ih,List.set_append_right _ _ (by simp;omega)];congr 2;simp;omega
theorem am9(S W:Nat->V)(w:V):∀(t:List bb) (k i:Nat),i<t.length->(ed S W k t).flatten.set (i*5+3) w=(ed (upd S (k+i) w) W k t).flatten
 |[],_,_,h=>by simp at h
 |n::t,k,0,_=>by
  have U:ed (upd S k w) W (k+1) t=ed S W (k+1) t:=QI t (k+1) fun j a5 _=>⟨iN S w (by omega),rfl⟩;show([V.int .i64 n.op,.str n.sort,.str n.name,S k,W k]++(ed S W (k+1) t).flatten).set 3 w=[V.int .i64 n.op,.str n.sort,.str n.name,upd S k w k,W k]++(ed (upd S k w) W (k+1) t).flatten;rw[U,kf];rfl
 |n::t,k,i+1,h=>by
  have ih:=am9 S W w t (k+1) i (by simpa using h);have e:k+1+i=k+(i+1):=by omega
  rw[e]at ih;show([V.int .i64 n.op,.str n.sort,.str n.name,S k,W k]++(ed S W (k+1) t).flatten).set ((i+1)*5+3) w=[V.int .i64 n.op,.str n.sort,.str n.name,upd S (k+(i+1)) w k,W k]++(ed (upd S (k+(i+1)) w) W (k+1) t).flatten
  rw[iN S w (show k≠k+(i+1) by omega),<-ih,List.set_append_right _ _ (by simp;omega)];congr 2;simp;omega
theorem Yn(S W:Nat->V):∀(t:List bb) (k br:Nat),(ed S W k t).drop br=ed S W (k+br) (t.drop br)
 |[],k,br=>by cases br<;>rfl
 |n::t,k,0=>rfl
 |n::t,k,br+1=>by
  have:=Yn S W t (k+1) br;show(ed S W (k+1) t).drop br=ed S W (k+(br+1)) (t.drop br);rw[this,show k+1+br=k+(br+1) by omega]
theorem YN(S W:Nat->V):∀(t:List bb) (k m:Nat),(ed S W k t).take m=ed S W k (t.take m)
 |[],k,m=>by simp[ed]
 |n::t,k,0=>rfl
 |n::t,k,m+1=>by
  have:=YN S W t (k+1) m;show _::(ed S W (k+1) t).take m=_::ed S W (k+1) (t.take m);rw[this]
theorem Y6(S W:Nat->V):∀(t:List bb) (k br:Nat),ed S W (k+br) t=ed (fun i=>S (i+br)) (fun i=>W (i+br)) k t
 |[],k,br=>rfl
 |n::t,k,br=>by
  have:=Y6 S W t (k+1) br;show[V.int .i64 n.op,.str n.sort,.str n.name,S (k+br),W (k+br)]::ed S W (k+br+1) t=[V.int .i64 n.op,.str n.sort,.str n.name,S (k+br),W (k+br)]::ed (fun i=>S (i+br)) (fun i=>W (i+br)) (k+1) t;rw[<-this,show k+1+br=k+br+1 by omega]
theorem Xi(S W:Nat->V):∀(t:List bb) (k i:Nat),i<t.length->(ed S W k t).flatten[i*5+4]?=some (W (k+i))
 |[],_,_,h=>by simp at h
 |n::t,k,0,_=>rfl
 |n::t,k,i+1,h=>by
  have ih:=Xi S W t (k+1) i (by simpa using h);show([V.int .i64 n.op,.str n.sort,.str n.name,S k,W k]++(ed S W (k+1) t).flatten)[(i+1)*5+4]?=_;rw[oo (by simp;omega)];rw[show(i+1)*5+4-[V.int .i64 n.op,.str n.sort,.str n.name,S k,W k].length=i*5+4 by simp;omega,ih,show k+1+i=k+(i+1) by omega]
theorem akU(S W:Nat->V):∀(t:List bb) (k i:Nat),i<t.length->(ed S W k t).flatten[i*5+3]?=some (S (k+i))
 |[],_,_,h=>by simp at h
 |n::t,k,0,_=>rfl
 |n::t,k,i+1,h=>by
  have ih:=akU S W t (k+1) i (by simpa using h);show([V.int .i64 n.op,.str n.sort,.str n.name,S k,W k]++(ed S W (k+1) t).flatten)[(i+1)*5+3]?=_;rw[oo (by simp;omega)];rw[show(i+1)*5+3-[V.int .i64 n.op,.str n.sort,.str n.name,S k,W k].length=i*5+3 by simp;omega,ih,show k+1+i=k+(i+1) by omega]
theorem alR(S W:Nat->V)(k:Nat)(t:List bb):(ed S W k t).flatten.length=t.length*5:=by rw[(Ym S W k t).len,gj]
theorem Xj{xs:List V}{i:Nat}{x:V}(e:xs[i]?=some x)(ty:TypeId)(md:kN):ec (some (.cells xs 0 0 md ty)) false 1 0 i 1=some x:=by
 have:=vg e ty md;simpa only[eH,kz]using this
theorem zD(xs:List V)(ty:TypeId)(h:H)(f:P)(i:Nat)(ai:i<xs.length)(v:V)(ar:v.cells=[v]):fz (some (.cells xs 0 0 .rw ty)) h f 1 0 i 1 v=some (.bk [],h.set f (.cells (xs.set i v) 0 0 .rw ty)):=by
 have:=GQ xs ty h f i ai v ar;simpa only[eH,kz]using this
structure gH(T:TypeId)(R:H->Prop):Prop where
 kB:∀h aa,aK h->aj h aa->R h->R aa
 up:∀h aa g xs aZ dead,aK h->h.get g=some (.cells xs aZ dead .rw T) ->pw g h aa->R h->R aa
theorem gH.and {T:TypeId}{R Q:H->Prop}(r:gH T R)(q:gH T Q):gH T (fun h=>R h/\Q h):=⟨fun h aa k g p=>⟨r.kB h aa k g p.1,q.kB h aa k g p.2⟩,fun h aa g xs v d k e u p=>⟨r.up h aa g xs v d k e u p.1,q.up h aa g xs v d k e u p.2⟩⟩
theorem gH.all{T:TypeId}{α:Type}{R:α->H->Prop}(r:∀x,gH T (R x)):gH T (fun h=>∀x,R x h):=⟨fun h aa k g p x=>(r x).kB h aa k g (p x),fun h aa g xs v d k e u p x=>(r x).up h aa g xs v d k e u (p x)⟩
theorem gH.ex{T:TypeId}{α:Type}{R:α->H->Prop}(r:∀x,gH T (R x)):gH T (fun h=>∃ x,R x h):=⟨fun h aa k g ⟨x,p⟩=>⟨x,(r x).kB h aa k g p⟩,fun h aa g xs v d k e u ⟨x,p⟩=>⟨x,(r x).up h aa g xs v d k e u p⟩⟩
theorem gH.pure{T:TypeId}(p:Prop):gH T (fun _=>p):=⟨fun _ _ _ _ h=>h,fun _ _ _ _ _ _ _ _ _ h=>h⟩
theorem gH.imp{T:TypeId}{p:Prop}{R:H->Prop}(r: p->gH T R):gH T (fun h=>p->R h):=⟨fun h aa k g q bh=>(r bh).kB h aa k g (q bh),fun h aa g xs v d k e u q bh=>(r bh).up h aa g xs v d k e u (q bh)⟩
theorem bD.fR{T ty es b:Nat}{v:V}{l:List (List V)}(yD:ty≠T):gH T (fun h=>bD ty es b h v l):=by
 refine⟨fun h aa k g o=>o.aO g,fun h aa g xs aZ dead k e u o=>?_⟩;rcases o with a|⟨f,nK,off,cap,rfl,ah,o⟩
 ·exact .inl a
 ·have aE:f≠g:=by
   rintro rfl;obtain⟨_,nB,r1,h1,_⟩:=o;rw[h1]at e;cases e;exact yD rfl
  exact .inr ⟨f,nK,off,cap,rfl,ah,o.wi (u.get f (o.lt k.ok) aE)⟩
theorem aEh{T ty:Nat}{f:P}{cV:List V}{nK r1:Nat}{md:kN}(yD:ty≠T):gH T (fun h=>h.get f=some (.cells cV nK r1 md ty)):=by
 refine⟨fun h aa k g o=>g.at o,fun h aa g xs aZ dead k e u o=>?_⟩;have aE:f≠g:=by
  rintro rfl;rw[o]at e;cases e;exact yD rfl
 rw[u.get f (k.ok.lt o) aE];exact o
theorem ui{ty es bytes fb:Nat}{h:H}{a b:V}{l m:List (List V)}[k:aK h](bN:bD ty es fb h a l)(ah:bB h b es m)(rJ:fb<=aH h.next)(hz:l.length+m.length<=1099511627776)(j6:(l.length+m.length)*bytes<=1099511627776):
  ∃v aa,pt h ty es bytes a b=some (v,aa)/\bD ty es fb aa v (l++m)/\vz fb h aa/\∀R:H->Prop,gH ty R->R h->R aa:=by
 obtain⟨v,aa,e,o,ch,n,q⟩:=Pl bN ah k.ok rJ hz j6;refine⟨v,aa,e,o,⟨⟨ch⟩,n,fun f aE aq=>q f aq ?_⟩,fun R dP r=>?_⟩
 ·rintro⟨aZ,off,n,es,c,rfl⟩;rcases bN with⟨e,_⟩|⟨jw,nK,Du,Dv,e,mJ,_⟩
  ·cases e
  ·cases e;omega
 ·rcases bN with⟨rfl,_⟩|⟨jw,nK,Du,Dv,rfl,mJ,_,xs,dead,h1,_⟩
  ·exact dP.kB h aa k ⟨⟨ch,n,fun f aE=>q f aE (by rintro⟨_,_,_,_,_,e⟩;cases e)⟩⟩ r
  ·exact dP.up h aa jw xs nK dead k h1 ⟨ch,n,fun f aE bV=>q f aE (by rintro⟨_,_,_,_,_,e⟩;cases e;exact bV rfl)⟩ r
end
end Go.ao
