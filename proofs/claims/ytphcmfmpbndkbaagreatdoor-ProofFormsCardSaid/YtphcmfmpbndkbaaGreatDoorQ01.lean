/- A part of the proof that ProofForms holds for every input. -/
import Derived.Laws.BytesArg
import Derived.Lib.UnsafeStr
import Derived.Deep.AppendSrc
import Derived.Deep.Upon
import Derived.Lib.AppendZerosOnto
import Derived.Test.YtphcmfmpbndkbaaGreatDoorQ00
set_option maxRecDepth 100000
set_option maxHeartbeats 4000000
set_option linter.all false
noncomputable section
namespace Go.ao
abbrev nk:=@List.append_assoc
abbrev oo:=@List.getElem?_append_right
abbrev nl:=@Nat.min_eq_left
abbrev D4:=@List.foldl_cons
abbrev pG:=@Array.ext'
abbrev D5:=@List.ext_getElem?
abbrev c0:=@List.mem_of_getElem?
section
variable {p:Program}{M:aW}
theorem YR{v:V}{r:Value}(h:bm M v r)(aq:v.cells≠[]):dq M v.cells r.cells.toList/\∀c∈v.cells,c.leaf=true:=by
 cases h with
 |agg ar au=>exact⟨ar,au⟩
 |bk _=>exact absurd rfl aq
 |fO aI=>
  refine⟨?_,by simp[V.cells,V.leaf]⟩;have:r.cells=#[r]:=by cases r<;>first|rfl|(simp[DS]at aI)
  rw[this];exact .cons (.fO aI) .nil
 |_=>
  refine⟨.cons ?_ .nil,by simp[V.cells,V.leaf]⟩;constructor<;>assumption
theorem dq.put{z aF k5:List V}{da f2:List Value}{off:Nat}(aX:dq M z da)(ar:dq M aF f2)(h:mO z off aF=some k5)(bV:aF≠[]):
  ∃E6,dq M k5 E6/\E6.length=da.length/\(∀i,E6[i]?=if off<=i/\i<off+f2.length then f2[i-off]? else da[i]?)/\off+f2.length<=da.length:=by
 obtain⟨h1,ae,az⟩:=LU _ _ _ h;have ah:=ae bV;have jB:=aX.length;have nC:=ar.length;refine⟨da.take off++f2++da.drop (off+f2.length),?_,by simp;omega,fun i=>?_,by omega⟩
 ·refine dq.PA (by simp;omega) fun i x y ab ax=>?_;rw[az i]at ab;by_cases ai:off<=i/\i<off+aF.length
  ·rw[bl ai]at ab;obtain⟨jv,sE,aI⟩:=ar.get ab;have:(da.take off++f2++da.drop (off+f2.length))[i]?=f2[i-off]?:=by
    rw[nk,oo (by simp;omega),nP (by simp;omega)];simp[nl (show off<=da.length by omega)]
   rw[this,sE]at ax;cases ax;exact aI
  ·rw[bf ai]at ab;obtain⟨jv,sE,aI⟩:=aX.get ab;have:(da.take off++f2++da.drop (off+f2.length))[i]?=da[i]?:=by
    by_cases ay:i<off
    ·rw[nk,nP (by simp;omega),qp ay]
    ·rw[oo (by simp;omega),qq];congr 1;simp;omega
   rw[this,sE]at ax;cases ax;exact aI
 ·by_cases ai:off<=i/\i<off+f2.length
  ·rw[bl ai,nk,oo (by simp;omega),nP (by simp;omega)];simp[nl (show off<=da.length by omega)]
  ·rw[bf ai];by_cases ay:i<off
   ·rw[nk,nP (by simp;omega),qp ay]
   ·rw[oo (by simp;omega),qq];congr 1;simp;omega
theorem anw(off:Nat):∀(aF:List Value) (k:Nat) (cs:Array Value),off+k+aF.length<=cs.size->
  ((aF.zipIdx k).foldl (fun cs (x:Value×Nat)=>cs.setIfInBounds (off+x.2) x.1) cs).size=cs.size/\
  ∀i,((aF.zipIdx k).foldl (fun cs (x:Value×Nat)=>cs.setIfInBounds (off+x.2) x.1) cs)[i]?=if off+k<=i/\i<off+k+aF.length then aF[i-(off+k)]? else cs[i]?
 |[],k,cs,_=>⟨rfl,fun i=>by rw[bf (by simp)];rfl⟩
 |v::aF,k,cs,h=>by
  simp only[List.zipIdx_cons,D4];obtain⟨h1,ae⟩:=anw off aF (k+1) (cs.setIfInBounds (off+k) v) (by rw[Array.size_setIfInBounds];simp at h;omega);refine⟨by rw[h1];simp,fun i=>?_⟩;rw[ae i];simp at h;by_cases ai:i=off+k
  ·subst ai;rw[bf (by omega),bl (by simp),XE,bl rfl,bl (by omega)];simp
  ·by_cases m3:off+(k+1)<=i/\i<off+(k+1)+aF.length
   ·rw[bl m3,bl (by simp;omega),show i-(off+k)=(i-(off+(k+1)))+1 by omega];simp
   ·rw[bf m3,bf (by simp;omega),GF (by omega)]
theorem Qm{N:Nat}{I:Fr}{a:Act}(aE:iX M N I a.tmps)(aC:g0 p M){place:Nat->Option (Nat×Nat)}:∀(ps:List (Nat×Operand)) {hR:List (Nat×Nat×X)} {z cs:List V} {da:Array Value},
  eK (fun(a:Nat×Operand) (b:Nat×Nat×X)=>place a.1=some (b.1,b.2.1)/\di p N a.2=some b.2.2/\b.2.1≠0) ps hR->dq M z da.toList->(∀c∈z,c.leaf=true) ->fill I z hR=some cs->
  ∃n7,Instr.fill place da (ps.map fun x=>(x.1,a.eval x.2))=some n7/\dq M cs n7.toList/\(∀c∈cs,c.leaf=true)/\n7.size=da.size
 |[],_,z,cs,da,.nil,aX,au,h=>by
  simp only[fill,cN]at h;subst h;exact⟨da,rfl,aX,au,rfl⟩
 |x::ps,_,z,cs,da,.cons (b:=b) ⟨bh,ab,kn⟩ bp,aX,au,h=>by
  obtain⟨off,n,kA⟩:=b;simp only at bh ab kn;have ar:=wM aE aC ab;simp only[fill]at h;split at h
  ·rename_i ah;have hlen:=dI ah;split at h
   ·rename_i k5 aaL;have bV:(kA.a7 I).cells≠[]:=fun e=>by rw[e]at hlen;exact kn hlen.symm
    obtain⟨nD,tD⟩:=YR ar bV;obtain⟨E6,h1,ae,az,bo⟩:=aX.put nD aaL bV;have kp:=nD.length;have eN:(a.eval x.2).cells.size=n:=by rw[<-hlen,kp];simp
    have aAr:=anw off (a.eval x.2).cells.toList 0 da (by simpa using bo);have rT:(a.eval x.2).cells.zipIdx.foldl (fun cs (c,j)=>cs.setIfInBounds (off+j) c) da=E6.toArray:=by
     apply pG;rw[<-Array.foldl_toList];apply D5;intro i;have:=aAr.2 i;simp only[ud]at this;rw[Array.toList_zipIdx,D2];rw[this,az i];simp
    have aCZ:∀c∈k5,c.leaf=true:=fun c U=>by
     obtain⟨j,a5,e⟩:=List.getElem_of_mem U;have cb:=(LU _ _ _ aaL).2.2 j;rw[hN a5,e]at cb;split at cb
     ·exact tD c (c0 cb.symm)
     ·exact au c (c0 cb.symm)
    obtain⟨n7,dM,jf,fU,lA⟩:=Qm aE aC (place:=place) ps bp (da:=E6.toArray) (by simpa using h1) aCZ h;refine⟨n7,?_,jf,fU,by rw[lA];simp[ae]⟩;simp only[nQ,Instr.fill,bh];rw[bf (by simp at bo;simp[eN];omega),rT];exact dM
   ·cases h
  ·cases h
theorem Hr{t:TypeId}{z:List V}(h: pA p t=some z)(M:aW):∃da,dq M z da.cells.toList/\(∀c∈z,c.leaf=true)/\∀w,(zeroValue t).run p w=.ok da w:=by
 simp only[pA,df,bK]at h;obtain⟨jI,iR,da,m2,l,aX,h⟩:=h;split at h
 ·rename_i au;cases h;exact⟨da,Ey (LC M 20) _ aX,by simpa using au,fun w=>by simp[zeroValue,typeInfo,iR,m2]⟩
 ·cases h
theorem apd{α β:Type}{g:α->Sem β}{bR:α->β}(w:World):∀(l:List α),(∀x∈l,(g x).run p w=.ok (bR x) w) ->(l.mapM g).run p w=.ok (l.map bR) w
 |[],_=>rfl
 |x::l,h=>by
  simp only[r8,ja,h x (by simp),jb,apd w l (fun y ax=>h y (by simp[ax])),pF,nQ]
theorem aMi{α β:Type}{g:α->Sem β}{bR:α->β}(w:World)(l:Array α)(h:∀x∈l.toList,(g x).run p w=.ok (bR x) w):(l.mapM g).run p w=.ok (l.map bR) w:=by
 rw[Array.mapM_eq_mapM_toList,Sem.run_map,apd w _ h,jb];have e:(l.toList.map bR).toArray=l.map bR:=by apply pG;rw[Array.toList_map]
 rw[e]
theorem P2{α β:Type}{f:α->Option β}:∀(l:List α) {xs:List β},l.mapM f=some xs->eK (fun a b=>f a=some b) l xs
 |[],xs,h=>by simp at h;subst h;exact .nil
 |v::l,xs,h=>by
  simp only[r8,df,bK,ue,cN]at h;obtain⟨x,ab,cV,ax,rfl⟩:=h;exact .cons ab (P2 l ax)
theorem anx(a:Act)(ps:Array (Nat×Operand)):(ps.map fun(i,x)=>(i,a.eval x)).toList=ps.toList.map fun x=>(x.1,a.eval x.2):=by simp
theorem aMj{N:Nat}{I:Fr}{a:Act}(aE:iX M N I a.tmps)(aC:g0 p M){t:TypeId}{bt:Array Field}{ps:Array (Nat×Operand)}{z:List V}{hR:List (Nat×Nat×X)}{v:V}
  (hu: p.underlying t=some (.struct bt)) (aX: pA p t=some z) (u2:bt.all (fun f=>(gM p f.type).isSome)=true)
  (aM:(ps.toList.mapM fun(x:Nat×Operand)=>do let f<-bt[x.1]?;some (f.offset,<-gU p f.type,<-di p N x.2))=some hR) (h:zE z hR I=some v):
  kH p M v (Instr.build t (ps.map fun(i,x)=>(i,a.eval x))):=by
 unfold zE at h;split at h
 ·rename_i cs hK;cases h;obtain⟨da,h1,ae,az⟩:=Hr aX M;have aFx:∀w,(bt.mapM fun f=>do pure (f.offset,<-sizeOf f.type):Sem (Array (Nat×Nat))).run p w=.ok (bt.map fun f=>(f.offset,p.cellsOf f.type)) w:=fun w=>by
   refine aMi w bt fun f ll=>?_;have:=Array.all_eq_true'.1 u2 f (by simpa using ll);obtain⟨n,aq⟩:=Option.isSome_iff_exists.1 this;have U: p.cellsOf f.type=n:=by
    simp only[gM,vb]at aq;obtain⟨jI,iR,rfl⟩:=aq;simp[Program.cellsOf,iR]
   simp[mC aq,U]
  have dw:=P2 _ aM;have RL:eK (fun(a:Nat×Operand) (b:Nat×Nat×X)=>(bt.map fun f=>(f.offset,p.cellsOf f.type))[a.1]?=some (b.1,b.2.1)/\di p N a.2=some b.2.2/\b.2.1≠0) ps.toList hR:=dw.imp fun x b ah=>by
   simp only[df,bK,cN]at ah;obtain⟨f,aaM,n,aq,y,ax,rfl⟩:=ah;obtain⟨aA,av⟩:=nr aq;have U: p.cellsOf f.type=n:=by
    simp only[gM,vb]at aA;obtain⟨jI,iR,rfl⟩:=aA;simp[Program.cellsOf,iR]
   exact⟨by simp[aaM,U],ax,av⟩
  obtain⟨n7,bo,cb,dM,_⟩:=Qm aE aC ps.toList RL h1 ae hK;refine⟨.agg n7,.agg cb dM,fun w=>?_⟩;simp only[Instr.build,ja,az,jb,cW hu,aFx,anx,bo,pF]
 ·cases h
theorem aL4{N:Nat}{I:Fr}{a:Act}(aE:iX M N I a.tmps)(aC:g0 p M){t e:TypeId}{m n:Nat}{ps:Array (Nat×Operand)}{z:List V}{hR:List (Nat×Nat×X)}{v:V}
  (hu: p.underlying t=some (.array m e)) (aX: pA p t=some z) (aq:gU p e=some n)
  (aM:(ps.toList.mapM fun(x:Nat×Operand)=>do some (x.1*n,n,<-di p N x.2))=some hR) (h:zE z hR I=some v):
  kH p M v (Instr.build t (ps.map fun(i,x)=>(i,a.eval x))):=by
 unfold zE at h;split at h
 ·rename_i cs hK;cases h;obtain⟨da,h1,ae,az⟩:=Hr aX M;obtain⟨aA,av⟩:=nr aq;have RL:eK (fun(a:Nat×Operand) (b:Nat×Nat×X)=>some (a.1*n,n)=some (b.1,b.2.1)/\di p N a.2=some b.2.2/\b.2.1≠0) ps.toList hR:=(P2 _ aM).imp fun x b ah=>by
   simp only[df,bK,cN]at ah;obtain⟨y,ax,rfl⟩:=ah;exact⟨rfl,ax,av⟩
  obtain⟨n7,bo,cb,dM,_⟩:=Qm aE aC (place:=fun i=>some (i*n,n)) ps.toList RL h1 ae hK;refine⟨.agg n7,.agg cb dM,fun w=>?_⟩;simp only[Instr.build,ja,az,jb,cW hu,mC aA,anx,bo,pF]
 ·cases h
end
abbrev qt:=@if_true
abbrev zH:=@List.cons_append
abbrev D6:=@List.drop_eq_getElem_cons
abbrev x5:=@Nat.sub_zero
abbrev GH:=@Nat.add_sub_cancel
abbrev K9:=@Bool.not_true
abbrev qu:=@if_false
abbrev GI:=@Go.ByteArray.toList_eq
abbrev fp:=@List.drop_length
abbrev fi:=@List.length_append
abbrev zI:=@List.take_append_drop
abbrev pH:=@List.drop_drop
abbrev el:=@List.length_take
abbrev jG:=@List.length_drop
section
variable {p:Program}{M:aW}
def jo(p:Program)(t:TypeId)(x y:Value)(b:Bool):Prop:=∀d w,(Op.equalIn (d+1) t x y).run p w=.ok b w
theorem jo.run{t:TypeId}{x y:Value}{b:Bool}(h:jo p t x y b)(w:World):(Op.equal t x y).run p w=.ok b w:=h 9999 w
theorem aoh{t:TypeId}(hu: p.underlying t=some .bool)(a b:Bool):jo p t (.bool a) (.bool b) (a==b):=fun d w=>by
 simp[Op.equalIn,cW hu]
theorem anz{t e:TypeId}{n:Nat}(hu: p.underlying t=some (.pointer e))(aq:gM p e=some n)(av:n≠0){x y:V}{b:Bool}{rx ek:Value}(ab:bm M x rx)(ax:bm M y ek)(h:KH x y=some b):jo p t rx ek b:=by
 unfold KH at h;split at h
 ·cases h;cases ab;cases ax;intro d w;simp[Op.equalIn,cW hu]
 ·cases h;cases ab;cases ax;intro d w;simp[Op.equalIn,cW hu]
 ·cases h;cases ab;cases ax;intro d w;simp[Op.equalIn,cW hu]
 ·rename_i f k i r g l j q;split at h
  ·rename_i ah;simp only[dJ]at ah;have aN:=x8.1 ah.1;have bd:=dI ah.2;subst aN bd;cases h;cases ab with
   |ptr _ _ bT aI=>
    cases ax with
    |ptr _ _ Ix oJ=>
     rw[bT]at Ix;cases Ix;rename_i l;intro d w;simp only[Op.equalIn,ja,cW hu,jb,mC aq];rw[bl av];simp only[sameAddr,beq_self_eq_true,qt,pF];congr 1;rw[i9];simp[Nat.beq_eq]
  ·cases h
 ·cases h
theorem aHT{t e:TypeId}(hu: p.underlying t=some (.slice e)){x y:V}{b:Bool}{rx ek:Value}(ab:bm M x rx)(ax:bm M y ek)(h:N3 x y=some b):jo p t rx ek b:=by
 unfold N3 at h;split at h
 all_goals first|(cases h;cases ab;cases ax;intro d w;simp[Op.equalIn,cW hu];done)|(cases h;done)
theorem aJI{t k e:TypeId}(hu: p.underlying t=some (.map k e)){x y:V}{b:Bool}{rx ek:Value}(ab:bm M x rx)(ax:bm M y ek)(h:O0 x y=some b):jo p t rx ek b:=by
 unfold O0 at h;split at h
 all_goals first|(cases h;cases ab;cases ax;intro d w;simp[Op.equalIn,cW hu];done)|(cases h;done)
theorem aHU{t:TypeId}{ps aD:Array TypeId}{ZO:Bool}(hu: p.underlying t=some (.func ps aD ZO)){x y:V}{b:Bool}{rx ek:Value}(ab:bm M x rx)(ax:bm M y ek)(h:N4 x y=some b):jo p t rx ek b:=by
 unfold N4 at h;split at h
 all_goals first|(cases h;cases ab;cases ax;intro d w;simp[Op.equalIn,cW hu];done)|(cases h;done)
theorem aKG{t:TypeId}{ms:Array (String×TypeId)}(hu: p.underlying t=some (.interface ms)){x y:V}{b:Bool}{rx ek:Value}(ab:bm M x rx)(ax:bm M y ek)(h:Pt x y=some b):jo p t rx ek b:=by
 unfold Pt at h;split at h
 all_goals first|(cases h;cases ab;cases ax;intro d w;simp[Op.equalIn,cW hu];done)|(cases h;done)
theorem aJJ{t:TypeId}{ms:Array (String×TypeId)}(hu: p.underlying t=some (.interface ms)){x y:V}{b:Bool}{rx ek:Value}(ab:bm M x rx)(ax:bm M y ek)(h:O1 x y=some b):jo p t rx ek b:=by
 unfold O1 at h;split at h
 ·cases h;cases ab;cases ax;intro d w;simp[Op.equalIn,cW hu]
 ·cases h;cases ab;cases ax;intro d w;simp[Op.equalIn,cW hu]
 ·split at h
  ·cases h
  ·rename_i h0 _ apy _ b3 ah;have bV:h0≠apy:=fun e=>by subst e;simp at ah
   cases h;cases ab;cases ax;intro d w;simp[Op.equalIn,cW hu,bV]
 ·cases h
theorem ZM:∀{eR:List ho} {a b:List V} (Iy:List ho) (c d:List V),a.length=eR.length->b.length=eR.length->nn (eR++Iy) (a++c) (b++d)=match nn eR a b with|some true=>nn Iy c d|r=>r
 |[],[],[],Iy,c,d,_,_=>rfl
 |[],_::_,_,_,_,_,h,_=>by simp at h
 |[],[],_::_,_,_,_,_,h=>by simp at h
 |_::_,[],_,_,_,_,h,_=>by simp at h
 |_::_,_::_,[],_,_,_,_,h=>by simp at h
 |k::eR,x::a,y::b,Iy,c,d,h,aa=>by
  simp only[zH,nn];split
  ·rename_i he;rw[ZM Iy c d (by simpa using h) (by simpa using aa)]
  ·rename_i r aI;cases fJ:k.eq x y with
   |none=>simp
   |some q=>
    cases q with
    |true=>exact absurd fJ aI
    |false=>rfl
def XG(p:Program)(M:aW)(t:TypeId)(cs:List V)(X:Value):Prop:=
 (lj p t=some true/\∃aD,X=.agg aD/\dq M cs aD.toList)\/(lj p t=some false/\∃v,cs=[v]/\bm M v X)
theorem Qy{t:TypeId}{n off:Nat}{cs:List V}{aD:Array Value}(aA:gM p t=some n)(bN:(lj p t).isSome=true)(h1:lj p t=some false->n=1)(ar:dq M cs aD.toList)(hle:off+n<=cs.length):
  ∃X,XG p M t ((cs.drop off).take n) X/\∀w,(part t aD off).run p w=.ok X w:=by
 obtain⟨b,ah⟩:=Option.isSome_iff_exists.1 bN;have a3:=(ar.drop off).take n;cases b with
 |true=>
  exact⟨.agg (aD.extract off (off+n)),.inl ⟨ah,_,rfl,by simpa[List.take_drop,D3]using a3⟩,fun w=>by simp[part,Hu ah,mC aA]⟩
 |false=>
  have:=h1 ah;subst this;have ay:off<cs.length:=by omega
  have e:(cs.drop off).take 1=[cs[off]]:=by rw[D6 ay];rfl
  obtain⟨y,ax,aI⟩:=ar.get (i:=off) (x:=cs[off]) (by simp[ay]);exact⟨y,.inr ⟨ah,cs[off],e,aI⟩,fun w=>by simp at ax;simp[part,Hu ah,ax]⟩
def G1(d:Nat)(e:TypeId)(n:Nat)(xs cV:Array Value):List Nat->Sem Bool
 |[]=>pure true
 |i::is=>do
  let a<-part e xs (i*n)
  let b<-part e cV (i*n)
  if !(<-Op.equalIn d e a b)then pure false else G1 d e n xs cV is
theorem run_equalIn_array{t e:TypeId}{m n:Nat}(d:Nat)(xs cV:Array Value)(bp: p.underlying t=some (.array m e))(aq:gM p e=some n)(w:World):
  (Op.equalIn (d+1) t (.agg xs) (.agg cV)).run p w=(G1 d e n xs cV (List.range' 0 m)).run p w:=by
 simp only[Op.equalIn,ja,cW bp,jb,mC aq];rw[Std.Legacy.Range.forIn_eq_forIn_range'];simp only[Std.Legacy.Range.size,x5,GH,Nat.div_one];generalize List.range' 0 m 1=l
 induction l generalizing w with
 |nil=>simp[G1]
 |cons i is ih=>
  simp only[List.forIn_cons,G1,ja];generalize (part e xs (i*n)).run p w=je;cases je with
  |ok a b5=>
   simp only[jb];generalize (part e cV (i*n)).run p b5=dX;cases dX with
   |ok b d7=>
    simp only[jb];generalize (Op.equalIn d e a b).run p d7=e3;cases e3 with
    |ok r jW=>
     cases r
     ·simp
     ·simp only[jb,K9,iJ,qu,pF];exact ih jW
    |halt x jW=>simp[Result.andThen]
   |halt x d7=>simp[Result.andThen]
  |halt x b5=>simp[Result.andThen]
theorem amG{n:Nat}{t:TypeId}{k:List ho}(h:flat p n t=some k):gM p t=some k.length/\(lj p t).isSome=true/\(lj p t=some false->k.length=1):=by
 cases n with
 |zero=>simp[flat]at h
 |succ n=>
  unfold flat at h;split at h
  ·rename_i ch hk;split at h
   ·rename_i aA;cases h;refine⟨aA,?_,fun aE=>?_⟩
    ·unfold lj hd;split at hk<;>rename_i hu<;>first|(cases hk;done)|simp[hu]
    ·unfold lj hd at aE;split at hk<;>rename_i hu<;>first|(cases hk;rfl)|(simp[hu]at aE;done)|(cases hk;done)
   ·cases h
  ·cases h
theorem ho.rj{k:ho}{x y:V}{b:Bool}{rx ek:Value}(ab:bm M x rx)(ax:bm M y ek)(h:k.eq x y=some b):
  (k=.li/\∃j a c,rx=.int j a/\ek=.int j c/\b=(a==c))\/(k=.fL/\∃a c,rx=.bool a/\ek=.bool c/\b=(a==c))\/(k=.bF/\∃a c,rx=.string a/\ek=.string c/\b=(a.data.toList==c.data.toList)):=by
 unfold ho.eq at h;split at h
 ·split at h
  ·rename_i hk;have:=qC.1 hk;subst this;cases h;cases ab;cases ax;exact .inl ⟨rfl,_,_,_,rfl,rfl,Bw _ _⟩
  ·cases h
 ·cases h;cases ab;cases ax;exact .inr (.inl ⟨rfl,_,_,rfl,rfl,rfl⟩)
 ·cases h;cases ab;cases ax;exact .inr (.inr ⟨rfl,_,_,rfl,rfl,YA _ _⟩)
 ·cases h
theorem al4:∀(n:Nat) (t:TypeId) (k:List ho),flat p n t=some k->∀(d:Nat) (cs ds:List V) (X Y:Value) (b:Bool),XG p M t cs X->XG p M t ds Y->cs.length=k.length->ds.length=k.length->
  nn k cs ds=some b->∀w,(Op.equalIn (d+n+1) t X Y).run p w=.ok b w
 |0,t,k,h=>by simp[flat]at h
 |n+1,t,k,h=>by
  intro d cs ds X Y b qI jX U a3 ah w;have ih:=al4 n;unfold flat at h;split at h
  ·rename_i ch hk;split at h
   ·rename_i aA;cases h;have nN:∀gA pP,p.underlying t=some gA->k=[pP] ->(gA=.bool/\pP=.fL\/(∃q,gA=.int q/\pP=.li)\/gA=.string/\pP=.bF) ->(Op.equalIn (d+(n+1)+1) t X Y).run p w=.ok b w:=fun gA pP hu tB MB=>by
     subst tB;have aE:lj p t=some false:=by
      unfold lj hd;rw[hu];rcases MB with⟨rfl,_⟩|⟨q,rfl,_⟩|⟨rfl,_⟩<;>rfl
     rcases qI with⟨bp,_⟩|⟨_,x,rfl,ab⟩
     ·rw[aE]at bp;cases bp
     ·rcases jX with⟨bp,_⟩|⟨_,y,rfl,ax⟩
      ·rw[aE]at bp;cases bp
      ·have fJ: pP.eq x y=some b:=by
        simp only[nn]at ah;split at ah
        ·rename_i he;rw[he];exact ah
        ·exact ah
       rcases ho.rj ab ax fJ with⟨rfl,il,a,c,rfl,rfl,rfl⟩|⟨rfl,a,c,rfl,rfl,rfl⟩|⟨rfl,a,c,rfl,rfl,rfl⟩
       ·rcases MB with⟨_,h⟩|⟨q,rfl,_⟩|⟨_,h⟩
        ·cases h
        ·simp[Op.equalIn,cW hu]
        ·cases h
       ·rcases MB with⟨rfl,_⟩|⟨q,_,h⟩|⟨_,h⟩
        ·simp[Op.equalIn,cW hu]
        ·cases h
        ·cases h
       ·rcases MB with⟨_,h⟩|⟨q,_,h⟩|⟨rfl,_⟩
        ·cases h
        ·cases h
        ·simp[Op.equalIn,cW hu,beq_toListBytes,GI]
    split at hk
    ·rename_i hu;cases hk;exact nN _ _ hu rfl (.inl ⟨rfl,rfl⟩)
    ·rename_i q hu;cases hk;exact nN _ _ hu rfl (.inr (.inl ⟨q,rfl,rfl⟩))
    ·rename_i hu;cases hk;exact nN _ _ hu rfl (.inr (.inr ⟨rfl,rfl⟩))
    ·rename_i bt hu;split at hk
     ·cases hk
     ·rename_i mm;have bp:lj p t=some true:=by unfold lj hd;rw[hu]
      rcases qI with⟨_,aD,rfl,pd⟩|⟨aE,_⟩
      ·rcases jX with⟨_,hR,rfl,RM⟩|⟨aE,_⟩
       ·have aaN: p.fieldsOf t=bt:=by simp[Program.fieldsOf,hu]
        rw[run_equalIn_struct w _ t aD hR (by rw[aaN];exact hu) (by simpa using mm),aaN];have key:∀(l:List Field) (acc k:List ho),Bv (flat p n) l acc=some k->k.length=cs.length->k.length=ds.length->∀(F5:List ho),k=acc++F5->∀(b:Bool),
          nn F5 (cs.drop acc.length) (ds.drop acc.length)=some b->∀w,(Op.eqFields (d+(n+1)) aD hR l).run p w=.ok b w:=by
         intro l
         induction l with
         |nil=>
          intro acc k hk h1 ae F5 he b ah w;simp only[Bv,cN]at hk;subst hk;have:F5=[]:=by simpa using he
          subst this;rw[h1,fp,<-h1,ae,fp]at ah;simp only[nn,cN]at ah;subst ah;rfl
         |cons f l aqv=>
          intro acc k hk h1 ae F5 he b ah w;simp only[Bv]at hk;split at hk
          ·rename_i aq;split at hk
           ·rename_i o3 aaO;obtain⟨hz,j6,Cy⟩:=amG aaO;obtain⟨rest,zz⟩:∃rest,k=acc++o3++rest:=by
             have gen:∀(l:List Field) (acc k:List ho),Bv (flat p n) l acc=some k->∃r,k=acc++r:=by
              intro l
              induction l with
              |nil=>intro acc k h;simp[Bv]at h;exact⟨[],by simp[h]⟩
              |cons f l ih=>
               intro acc k h;simp only[Bv]at h;split at h
               ·split at h
                ·obtain⟨r,aI⟩:=ih _ _ h;rename_i il _;exact⟨il++r,by rw[aI,nk]⟩
                ·cases h
               ·cases h
             exact gen l _ k hk
            have bd:F5=o3++rest:=by
             rw[zz,nk]at he;exact(List.append_cancel_left he).symm
            subst bd;have jB:acc.length+o3.length<=cs.length:=by rw[<-h1,zz,fi,fi];omega
            have nC:acc.length+o3.length<=ds.length:=by rw[<-ae,zz,fi,fi];omega
            obtain⟨Q1,RN,rC⟩:=Qy (off:=acc.length) hz j6 Cy pd jB;obtain⟨EF,Iz,rD⟩:=Qy (off:=acc.length) hz j6 Cy RM nC;have d1:cs.drop acc.length=(cs.drop acc.length).take o3.length++cs.drop (acc++o3).length:=by
             conv=>lhs;rw[<-zI o3.length (cs.drop acc.length)]
             rw[pH,fi]
            have d2:ds.drop acc.length=(ds.drop acc.length).take o3.length++ds.drop (acc++o3).length:=by
             conv=>lhs;rw[<-zI o3.length (ds.drop acc.length)]
             rw[pH,fi]
            have fk:((cs.drop acc.length).take o3.length).length=o3.length:=by rw[el,jG];omega
            have k6:((ds.drop acc.length).take o3.length).length=o3.length:=by rw[el,jG];omega
            rw[d1,d2,ZM rest _ _ fk k6]at ah;simp only[Op.eqFields,ja,Sem.run_ite];rw[bl aq.1];have avO:f.offset=acc.length:=aq.2;rw[avO];simp only[rC,rD,jb];cases qP:nn o3 ((cs.drop acc.length).take o3.length) ((ds.drop acc.length).take o3.length)with
            |none=>rw[qP]at ah;cases ah
            |some q=>
             have:=ih f.type o3 aaO d _ _ Q1 EF q RN Iz fk k6 qP w;rw[show d+(n+1)=d+n+1 by omega,this];rw[qP]at ah;cases q with
             |false=>cases ah;simp
             |true=>
              simp only[jb,K9,iJ,qu];exact aqv _ k hk h1 ae rest zz b ah w
           ·cases hk
          ·cases hk
        exact key bt.toList [] k hk U.symm a3.symm k rfl b (by simpa using ah) w
       ·rw[bp]at aE;cases aE
      ·rw[bp]at aE;cases aE
    ·rename_i m e hu;split at hk
     ·rename_i jg MC;cases hk;have bp:lj p t=some true:=by unfold lj hd;rw[hu]
      obtain⟨hz,j6,Cy⟩:=amG MC;rcases qI with⟨_,aD,rfl,pd⟩|⟨aE,_⟩
      ·rcases jX with⟨_,hR,rfl,RM⟩|⟨aE,_⟩
       ·rw[run_equalIn_array _ aD hR hu hz];have rE:∀m,(e2 jg m).length=m*jg.length:=fun m=>by
         induction m with
         |zero=>simp[e2]
         |succ m IA=>simp[e2,IA,eP];omega
        rw[rE]at U a3;have key:∀(c8 i:Nat),i+c8=m->∀b,nn (e2 jg c8) (cs.drop (i*jg.length)) (ds.drop (i*jg.length))=some b->∀w,(G1 (d+(n+1)) e jg.length aD hR (List.range' i c8)).run p w=.ok b w:=by
         intro c8
         induction c8 with
         |zero=>
          intro i ai b hA w;simp only[ud]at ai;subst ai;rw[<-U,fp,U,<-a3,fp]at hA;simp only[e2,nn,cN]at hA;subst hA;rfl
         |succ c8 IA=>
          intro i ai b ah w;have hmul:(i+1)*jg.length<=m*jg.length:=i0 _ (by omega);rw[eP,r9]at hmul;obtain⟨Q1,RN,rC⟩:=Qy (off:=i*jg.length) hz j6 Cy pd (by omega);obtain⟨EF,Iz,rD⟩:=Qy (off:=i*jg.length) hz j6 Cy RM (by omega);have d1:cs.drop (i*jg.length)=(cs.drop (i*jg.length)).take jg.length++cs.drop ((i+1)*jg.length):=by
           conv=>lhs;rw[<-zI jg.length (cs.drop (i*jg.length))]
           rw[pH,eP,r9]
          have d2:ds.drop (i*jg.length)=(ds.drop (i*jg.length)).take jg.length++ds.drop ((i+1)*jg.length):=by
           conv=>lhs;rw[<-zI jg.length (ds.drop (i*jg.length))]
           rw[pH,eP,r9]
          have fk:((cs.drop (i*jg.length)).take jg.length).length=jg.length:=by rw[el,jG];omega
          have k6:((ds.drop (i*jg.length)).take jg.length).length=jg.length:=by rw[el,jG];omega
          rw[d1,d2,e2,ZM _ _ _ fk k6]at ah;rw[List.range'_succ];simp only[G1,ja,rC,rD,jb];cases qP:nn jg ((cs.drop (i*jg.length)).take jg.length) ((ds.drop (i*jg.length)).take jg.length)with
          |none=>rw[qP]at ah;cases ah
          |some q=>
           have:=ih e jg MC d _ _ Q1 EF q RN Iz fk k6 qP w;rw[show d+(n+1)=d+n+1 by omega,this];rw[qP]at ah;cases q with
           |false=>cases ah;simp
           |true=>
            simp only[jb,K9,iJ,qu];exact IA (i+1) (by omega) b ah w
        exact key m 0 (by omega) b (by simpa using ah) w
       ·rw[bp]at aE;cases aE
      ·rw[bp]at aE;cases aE
     ·cases hk
    ·cases hk
   ·cases h
  ·cases h
end
abbrev PC:=@Go.eqGuard_at_pointer
abbrev wQ:=@Bool.not_eq_true'
abbrev PD:=@decide_eq_false_iff_not
section
variable {p:Program}{M:aW}
theorem aL5(a b:ByteArray):gi (a++b)=gi a++gi b:=by simp[gi,ByteArray.data_append]
def akt(p:Program)(M:aW)(op:BinOp)(t:TypeId)(x y:Operand)(rx ek:Value)(v:V):Prop:=kH p M v (do eqGuard op t x y rx ek;binOp op t rx ek)
theorem ox{op:BinOp}{t:TypeId}{x y:Operand}{rx ek:Value}{v:V}{aL:Value}(aC:eqGuard op t x y rx ek=pure ())(ar:bm M v aL)(h:∀w,(binOp op t rx ek).run p w=.ok aL w):akt p M op t x y rx ek v:=
 ⟨aL,ar,fun w=>by rw[aC];simp[h w]⟩
theorem Hh{t:TypeId}{q:Q}(h:yJ p t=q):match q with
  |.bool=>p.underlying t=some .bool
  |.int=>∃k,p.underlying t=some (.int k)
  |.str=>p.underlying t=some .string
  |.ptr=>∃e n,p.underlying t=some (.pointer e)/\gM p e=some n/\n≠0
  |.ag=>∃e,p.underlying t=some (.slice e)
  |.map=>∃k e,p.underlying t=some (.map k e)
  |.fn=>∃a b c,p.underlying t=some (.func a b c)
  |.kD=>∃ms,p.underlying t=some (.interface ms)
  |.A7=>False
  |.agg eR=>flat p 20 t=some eR/\p.eqGuardType p.depth t=false/\lj p t=some true
  |.bad=>True:=by
 unfold yJ at h;split at h
 ·rename_i hu;subst h;exact hu
 ·rename_i k hu;subst h;exact⟨k,hu⟩
 ·rename_i hu;subst h;exact hu
 ·rename_i e hu;split at h
  ·subst h;trivial
  ·rename_i aq;subst h;cases aA:gM p e with
   |none=>rw[aA]at aq;exact absurd rfl aq
   |some n=>rw[aA]at aq;exact⟨e,n,hu,aA,aq⟩
 ·rename_i e hu;subst h;exact⟨e,hu⟩
 ·rename_i k e hu;subst h;exact⟨k,e,hu⟩
 ·rename_i a b c hu;subst h;exact⟨a,b,c,hu⟩
 ·rename_i ms hu;subst h;exact⟨ms,hu⟩
 ·rename_i bt hu;split at h
  ·rename_i eR xi;split at h
   ·subst h;trivial
   ·rename_i aC;subst h;exact⟨xi,by simpa using aC,by simp[lj,hd,hu]⟩
  ·subst h;trivial
 ·rename_i n e hu;split at h
  ·rename_i eR xi;split at h
   ·subst h;trivial
   ·rename_i aC;subst h;exact⟨xi,by simpa using aC,by simp[lj,hd,hu]⟩
  ·subst h;trivial
 ·subst h;trivial
theorem rj{t:TypeId}{q:Q}{x y:Operand}{HH HI:V}{b:Bool}{rx ek:Value}(aM:yJ p t=q\/(yJ p t=.kD/\q=.A7/\((∃c,x=.const c)\/∃c,y=.const c)))
  (ab:bm M HH rx) (ax:bm M HI ek) (h:q.eq HH HI=some b) (op:BinOp) (cw:op=.eql\/op=.neq):
  ∃gW,(gW=if op=.eql then b else !b)/\∀w,(do eqGuard op t x y rx ek;binOp op t rx ek:Sem Value).run p w=.ok (.bool gW) w:=by
 refine⟨_,rfl,fun w=>?_⟩;have fin:∀{tp:Bool},(∀w,(Op.equal t rx ek).run p w=.ok tp w) ->(∀w,(eqGuard op t x y rx ek).run p w=.ok () w) ->(binOp .eql t rx ek=(do pure (.bool (<-Op.equal t rx ek)))) ->(binOp .neq t rx ek=(do pure (.bool (!(<-Op.equal t rx ek))))) ->
   (do eqGuard op t x y rx ek;binOp op t rx ek:Sem Value).run p w=.ok (.bool (if op=.eql then tp else !tp)) w:=fun{tp} h1 ae az bo=>by
  rcases cw with rfl|rfl
  ·simp[ae w,az,h1 w]
  ·simp[ae w,bo,h1 w]
 rcases aM with aM|⟨aM,rfl,U⟩
 ·have aA:=Hh aM;cases q with
  |bool=>
   rcases ho.rj ab ax h with⟨e,_⟩|⟨_,a,c,rfl,rfl,rfl⟩|⟨e,_⟩
   ·cases e
   ·exact fin (jo.run (aoh aA _ _)) (fun w=>by rw[eqGuard_at_bool];rfl) rfl rfl
   ·cases e
  |int=>
   rcases ho.rj ab ax h with⟨_,k,a,c,rfl,rfl,rfl⟩|⟨e,_⟩|⟨e,_⟩
   ·rcases cw with rfl|rfl<;>simp[eqGuard_at_int,binOp,Op.intCmp,bne]
   ·cases e
   ·cases e
  |str=>
   rcases ho.rj ab ax h with⟨e,_⟩|⟨e,_⟩|⟨_,a,c,rfl,rfl,rfl⟩
   ·cases e
   ·cases e
   ·rcases cw with rfl|rfl<;>simp[eqGuard_at_string,binOp,Op.stringOp,GI]
  |ptr=>
   obtain⟨e,n,hu,aq,av⟩:=aA;have he:=anz hu aq av ab ax h;simp only[Q.eq,KH]at h;split at h
   ·cases ab;cases ax;exact fin (jo.run he) (fun w=>by rw[PC];rfl) rfl rfl
   ·cases ab;cases ax;exact fin (jo.run he) (fun w=>by rw[PC];rfl) rfl rfl
   ·cases ab;cases ax;exact fin (jo.run he) (fun w=>by rw[PC];rfl) rfl rfl
   ·cases ab;cases ax;exact fin (jo.run he) (fun w=>by rw[PC];rfl) rfl rfl
   ·cases h
  |ag=>
   obtain⟨e,hu⟩:=aA;have he:=aHT hu ab ax h;simp only[Q.eq,N3]at h;split at h
   ·cases ab;cases ax;exact fin (jo.run he) (fun w=>by rw[eqGuard_at_slice];rfl) rfl rfl
   ·cases ab;cases ax;exact fin (jo.run he) (fun w=>by rw[eqGuard_at_slice];rfl) rfl rfl
   ·cases ab;cases ax;exact fin (jo.run he) (fun w=>by rw[eqGuard_at_slice];rfl) rfl rfl
   ·cases h
  |map=>
   obtain⟨k,e,hu⟩:=aA;have he:=aJI hu ab ax h;simp only[Q.eq,O0]at h;split at h
   ·cases ab;cases ax;exact fin (jo.run he) (fun w=>by rw[eqGuard_at_map];rfl) rfl rfl
   ·cases ab;cases ax;exact fin (jo.run he) (fun w=>by rw[eqGuard_at_map];rfl) rfl rfl
   ·cases ab;cases ax;exact fin (jo.run he) (fun w=>by rw[eqGuard_at_map];rfl) rfl rfl
   ·cases h
  |fn=>
   obtain⟨a,e,c,hu⟩:=aA;have he:=aHU hu ab ax h;simp only[Q.eq,N4]at h;split at h
   ·cases ab;cases ax;exact fin (jo.run he) (fun w=>by rw[eqGuard_at_nilFunc];rfl) rfl rfl
   ·cases ab;cases ax;exact fin (jo.run he) (fun w=>by rw[eqGuard_at_nilFunc];rfl) rfl rfl
   ·cases ab;cases ax;exact fin (jo.run he) (fun w=>by rw[eqGuard_at_func];rfl) rfl rfl
   ·cases ab;cases ax;exact fin (jo.run he) (fun w=>by rw[eqGuard_at_nilFunc];rfl) rfl rfl
   ·cases ab;cases ax;exact fin (jo.run he) (fun w=>by rw[eqGuard_at_func];rfl) rfl rfl
   ·cases h
  |kD=>
   obtain⟨ms,hu⟩:=aA;have he:=aJJ hu ab ax h;simp only[Q.eq,O1]at h;split at h
   ·cases ab;cases ax;exact fin (jo.run he) (fun w=>by rw[eqGuard_nil_iface];rfl) rfl rfl
   ·cases ab;cases ax;exact fin (jo.run he) (fun w=>by rw[eqGuard_at_iface];rfl) rfl rfl
   ·cases ab;cases ax;exact fin (jo.run he) (fun w=>by rw[eqGuard_at_iface];rfl) rfl rfl
   ·cases h
  |A7=>exact aA.elim
  |agg eR=>
   obtain⟨yL,aC,gB⟩:=aA;simp only[Q.eq,ako]at h;split at h
   ·split at h
    ·rename_i ah;simp only[dJ]at ah;have cY:=dI ah.1;have k7:=dI ah.2;cases ab with
     |agg ar au=>
      cases ax with
      |agg kF eB=>
       have he:=al4 20 t eR yL 9979 _ _ _ _ b (.inl ⟨gB,_,rfl,ar⟩) (.inl ⟨gB,_,rfl,kF⟩) cY k7 h;exact fin he (fun w=>run_eqGuard_agg w op t x y _ _ aC) rfl rfl
    ·cases h
   ·cases h
  |bad=>simp only[Q.eq,akp]at h;cases h
 ·have aA:=Hh aM;obtain⟨ms,hu⟩:=aA;have he:=aKG hu ab ax h;simp only[Q.eq,Pt]at h;split at h
  ·cases ab;cases ax;refine fin (jo.run he) (fun w=>?_) rfl rfl;rcases U with⟨c,rfl⟩|⟨c,rfl⟩
   ·rw[eqGuard_nil_constL];rfl
   ·rw[eqGuard_nil_constR];rfl
  ·cases ab;cases ax;exact fin (jo.run he) (fun w=>by rw[eqGuard_nil_iface];rfl) rfl rfl
  ·cases ab;cases ax;exact fin (jo.run he) (fun w=>by rw[eqGuard_at_iface];rfl) rfl rfl
  ·cases h
theorem aku{op:BinOp}{t:TypeId}{q:Q}{x y:Operand}{HH HI v:V}{rx ek:Value}(aM:yJ p t=q\/(yJ p t=.kD/\q=.A7/\((∃c,x=.const c)\/∃c,y=.const c)))
  (ab:bm M HH rx) (ax:bm M HI ek) (h:V.bin op q HH HI=some v):akt p M op t x y rx ek v:=by
 have hint:∀{k ch:IntKind} {a b:Int} {pQ:Bool},(match me k ch with|true=>some pQ|false=>none)=some pQ->k=ch:=fun{k ch a b pQ} e=>by
  split at e
  ·rename_i hk;exact qC.1 hk
  ·cases e
 cases op with
 |add=>
  simp only[V.bin,afg]at h;split at h
  ·split at h
   ·rename_i hk;have:=qC.1 hk;subst this;cases h;cases ab;cases ax;exact ox rfl (.int _ _) fun w=>by rw[BV];simp[binOp,Op.intArith]
   ·cases h
  ·split at h
   ·rename_i ah;have hle:=iZ ah;cases h;cases ab with
    |str a=>
     cases ax with
     |str b=>
      refine ox rfl (aL:=.string (a++b)) (by rw[<-aL5];exact .str _) fun w=>?_;simp only[vq]at hle;simp only[binOp,Op.stringOp,IntKind.max_i64];rw[bf (by omega)];rfl
   ·cases h
  ·cases h
 |sub=>
  simp only[V.bin,afh]at h;split at h
  ·split at h
   ·rename_i hk;have:=qC.1 hk;subst this;cases h;cases ab;cases ax;exact ox rfl (.int _ _) fun w=>by rw[BV];simp[binOp,Op.intArith]
   ·cases h
  ·cases h
 |mul=>
  simp only[V.bin,afi]at h;split at h
  ·split at h
   ·rename_i hk;have:=qC.1 hk;subst this;cases h;cases ab;cases ax;exact ox rfl (.int _ _) fun w=>by rw[BV];simp[binOp,Op.intArith]
   ·cases h
  ·cases h
 |quo=>
  simp only[V.bin,afj]at h;split at h
  ·split at h
   ·rename_i hk;simp only[dJ,wQ,Bw,beq_eq_false_iff_ne]at hk;obtain⟨hk,av⟩:=hk;have:=qC.1 hk;subst this;cases h;cases ab;cases ax;exact ox rfl (.int _ _) fun w=>by rw[BV];simp[binOp,Op.intDiv,av]
   ·cases h
  ·cases h
 |rem=>
  simp only[V.bin,afk]at h;split at h
  ·split at h
   ·rename_i hk;simp only[dJ,wQ,Bw,beq_eq_false_iff_ne]at hk;obtain⟨hk,av⟩:=hk;have:=qC.1 hk;subst this;cases h;cases ab;cases ax;exact ox rfl (.int _ _) fun w=>by simp[binOp,Op.intDiv,av]
   ·cases h
  ·cases h
 |and=>
  simp only[V.bin,afl,A9]at h;split at h
  ·split at h
   ·rename_i hk;have:=qC.1 hk;subst this;cases h;cases ab;cases ax;exact ox rfl (.int _ _) fun w=>by rw[binOp_and];rfl
   ·cases h
  ·cases h
 |or=>
  simp only[V.bin,aaG,A9]at h;split at h
  ·split at h
   ·rename_i hk;have:=qC.1 hk;subst this;cases h;cases ab;cases ax;exact ox rfl (.int _ _) fun w=>by rw[binOp_or];rfl
   ·cases h
  ·cases h
 |xor=>
  simp only[V.bin,afm,A9]at h;split at h
  ·split at h
   ·rename_i hk;have:=qC.1 hk;subst this;cases h;cases ab;cases ax;exact ox rfl (.int _ _) fun w=>by rw[binOp_xor];rfl
   ·cases h
  ·cases h
 |andNot=>
  simp only[V.bin,al1,A9]at h;split at h
  ·split at h
   ·rename_i hk;have:=qC.1 hk;subst this;cases h;cases ab;cases ax;exact ox rfl (.int _ _) fun w=>by rw[binOp_andNot];rfl
   ·cases h
  ·cases h
 |shl=>
  simp only[V.bin,afn]at h;split at h
  ·split at h
   ·cases h
   ·rename_i ah;rw[pE,PD]at ah;cases h;cases ab;cases ax;exact ox rfl (.int _ _) fun w=>by simp[binOp,Op.shift,ah]
  ·cases h
 |shr=>
  simp only[V.bin,afo]at h;split at h
  ·split at h
   ·cases h
   ·rename_i ah;rw[pE,PD]at ah;cases h;cases ab;cases ax;exact ox rfl (.int _ _) fun w=>by simp[binOp,Op.shift,ah]
  ·cases h
 |eql=>
  simp only[V.bin,afp]at h;split at h
  ·rename_i b ah;cases h;obtain⟨gW,e,aI⟩:=rj (x:=x) (y:=y) aM ab ax ah .eql (.inl rfl);simp only[qt]at e;subst e;exact⟨_,.bool _,aI⟩
  ·cases h
 |neq=>
  simp only[V.bin,afq]at h;split at h
  ·rename_i b ah;cases h;obtain⟨gW,e,aI⟩:=rj (x:=x) (y:=y) aM ab ax ah .neq (.inr rfl);simp only[reduceCtorEq,qu]at e;subst e;exact⟨_,.bool _,aI⟩
  ·cases h
 |lss=>
  simp only[V.bin,afr]at h;split at h
  ·split at h
   ·rename_i hk;have:=qC.1 hk;subst this;cases h;cases ab;cases ax;exact ox rfl (.bool _) fun w=>by rw[pE];simp[binOp,Op.intCmp]
   ·cases h
  ·cases h;cases ab;cases ax;exact ox rfl (.bool _) fun w=>by simp[binOp,Op.stringOp,gi,L1,GI]
  ·cases h
 |leq=>
  simp only[V.bin,afs]at h;split at h
  ·split at h
   ·rename_i hk;have:=qC.1 hk;subst this;cases h;cases ab;cases ax;exact ox rfl (.bool _) fun w=>by rw[pE];simp[binOp,Op.intCmp,<-Int.not_lt]
   ·cases h
  ·cases h;cases ab;cases ax;exact ox rfl (.bool _) fun w=>by simp[binOp,Op.stringOp,gi,L1,YA,GI]
  ·cases h
 |gtr=>
  simp only[V.bin,aft]at h;split at h
  ·split at h
   ·rename_i hk;have:=qC.1 hk;subst this;cases h;cases ab;cases ax;exact ox rfl (.bool _) fun w=>by rw[pE];simp[binOp,Op.intCmp]
   ·cases h
  ·cases h;cases ab;cases ax;exact ox rfl (.bool _) fun w=>by simp[binOp,Op.stringOp,gi,L1,YA,GI]
  ·cases h
 |geq=>
  simp only[V.bin,afu]at h;split at h
  ·split at h
   ·rename_i hk;have:=qC.1 hk;subst this;cases h;cases ab;cases ax;exact ox rfl (.bool _) fun w=>by rw[pE];simp[binOp,Op.intCmp,<-Int.not_lt]
   ·cases h
  ·cases h;cases ab;cases ax;exact ox rfl (.bool _) fun w=>by simp[binOp,Op.stringOp,gi,L1,GI]
  ·cases h
theorem kH.value{v:V}{s:Sem Value}(h:kH p M v s):∃aL,bm M v aL/\∀w,(do pure (.value (<-s)):Sem Next).run p w=.ok (.value aL) w:=
 let⟨aL,a,b⟩:=h;⟨aL,a,fun w=>by simp[b w]⟩
theorem BZ{N:Nat}{I:Fr}{a:Act}(aE:iX M N I a.tmps)(aC:g0 p M){x:Option Operand}{kA:Option X}(h:x.mapM (di p N)=some kA):vc M I kA (x.map a.eval):=by
 cases x with
 |none=>simp at h;subst h;trivial
 |some x=>
  simp only[Option.mapM_some,Option.map_eq_map,vb]at h;obtain⟨y,ax,rfl⟩:=h;exact wM aE aC ax
theorem aLd{N:Nat}{x:Option Operand}{kA:Option X}(h:x.mapM (di p N)=some kA):kA.isSome=x.isSome:=by
 cases x with
 |none=>simp at h;subst h;rfl
 |some x=>
  simp only[Option.mapM_some,Option.map_eq_map,vb]at h;obtain⟨y,ax,rfl⟩:=h;rfl
theorem YB{N:Nat}{l:List Operand}{a b:X}(h:l.mapM (di p N)=some [a,b]):∃ x y,l=[x,y]/\di p N x=some a/\di p N y=some b:=by
 cases l with
 |nil=>simp at h
 |cons x l=>
  cases l with
  |nil=>
   simp only[r8,List.mapM_nil,df,bK,ue,cN]at h;obtain⟨_,_,_,rfl,he⟩:=h;cases he
  |cons y l=>
   cases l with
   |nil=>
    simp only[r8,List.mapM_nil,df,bK,ue,cN]at h;obtain⟨fG,bN,cr,⟨b3,ah,aaP,rfl,rfl⟩,he⟩:=h;cases he;exact⟨x,y,rfl,bN,ah⟩
   |cons z l=>
    simp only[r8,df,bK,ue,cN]at h;obtain⟨fG,bN,cr,⟨b3,ah,aaP,⟨c,U,im,_,rfl⟩,rfl⟩,he⟩:=h;cases he
theorem LD{N:Nat}{l:List Operand}{a:X}(h:l.mapM (di p N)=some [a]):∃ x,l=[x]/\di p N x=some a:=by
 cases l with
 |nil=>simp at h
 |cons x l=>
  cases l with
  |nil=>
   simp only[r8,List.mapM_nil,df,bK,ue,cN]at h;obtain⟨fG,bN,cr,rfl,he⟩:=h;cases he;exact⟨x,rfl,bN⟩
  |cons y l=>
   simp only[r8,df,bK,ue,cN]at h;obtain⟨fG,bN,cr,⟨b3,ah,aaP,_,rfl⟩,he⟩:=h;cases he
theorem ZG(ρ:Operand->Value)(b:Builtin)(cT:Array Operand)(dZ:Array TypeId)(o:Oper)(h1:o.op=.call ⟨.builtin b,cT,dZ⟩):
  ∃La,execOp ρ o=builtin b dZ o.type La (cT.map ρ):=by
 unfold execOp;rw[h1];exact⟨_,rfl⟩
theorem B5{ρ:Operand->Value}{o:Oper}{b:Builtin}{cT:Array Operand}{dZ:Array TypeId}{s:Array Value->Sem Value}(h1:o.op=.call ⟨.builtin b,cT,dZ⟩)
  (ae:∀La args,builtin b dZ o.type La args=(do pure (.value (<-s args)))) {aD:Array Value} (pd:cT.map ρ=aD) {v:V} (h:kH p M v (s aD)):
  ∃aL,bm M v aL/\∀w,(execOp ρ o).run p w=.ok (.value aL) w:=by
 subst pd;obtain⟨c,e⟩:=ZG ρ b cT dZ o h1;rw[e,ae];exact h.value
theorem ale{N:Nat}{I:Fr}{a:Act}(aE:iX M N I a.tmps)(aC:g0 p M){o:Oper}{i:d5}(U:An p N o=some i){v:V}(ar:i.f I=some v):
  ∃aL,bm M v aL/\∀w,(execOp a.eval o).run p w=.ok (.value aL) w:=by
 have X:=fun{x kA} (h:di p N x=some kA)=>wM aE aC h;obtain⟨dst,op,type,pos,after,guard⟩:=o;cases op<;>simp only[An]at U
 case move x=>
  simp only[df,bK,cN]at U;obtain⟨y,ax,rfl⟩:=U;cases ar;exact⟨_,X ax,fun w=>rfl⟩
 case assign x=>
  simp only[df,bK,cN]at U;obtain⟨y,ax,rfl⟩:=U;cases ar;exact⟨_,X ax,fun w=>rfl⟩
 case pick c x y=>
  simp only[df,bK,cN]at U;obtain⟨fT,iw,fM,jN,jv,sE,rfl⟩:=U;simp only[d5.f,WZ]at ar;have aaQ:=X iw;split at ar
  ·rename_i ah;cases ar;have:=aoG ah aaQ;exact⟨_,X jN,fun w=>by simp[execOp,this,asBool]⟩
  ·rename_i ah;cases ar;have:=aoG ah aaQ;exact⟨_,X sE,fun w=>by simp[execOp,this,asBool]⟩
  ·cases ar
 case build t ps=>
  simp only[df,bK]at U;obtain⟨z,aX,gA,hu,U⟩:=U;split at U
  ·rename_i bt;split at U
   ·cases U
   ·rename_i u2;simp only[bK,cN]at U;obtain⟨hR,aM,rfl⟩:=U;exact(aMj aE aC hu aX (by simpa[Option.isSome_iff_ne_none]using u2) aM ar).value
  ·rename_i m e;simp only[bK,cN]at U;obtain⟨n,aq,hR,aM,rfl⟩:=U;exact(aL4 aE aC hu aX aq aM ar).value
  ·cases U
 case nilCheck x=>
  simp only[df,bK,cN]at U;obtain⟨y,ax,rfl⟩:=U;simp only[d5.f,JU]at ar;have aI:=X ax;split at ar
  ·cases ar
  ·cases ar
  ·cases ar
  ·cases ar
  ·cases ar
  ·rename_i h1 ae az cb bo;cases ar;refine⟨_,aI,fun w=>?_⟩;generalize aM:y.a7 I=q at*;generalize he:a.eval x=r at*;cases aI with
   |kt=>exact absurd rfl h1
   |og=>exact absurd rfl ae
   |lK=>exact absurd rfl az
   |fn bN ah=>
    rename_i g apz tp hq gW;cases g with
    |method n=>exact absurd rfl (bo n apz tp)
    |_=>simp[execOp,he]
   |fO au=>exact absurd rfl cb
   |_=>simp[execOp,he]
 case binOp op t x y apA=>
  simp only[df,bK,cN]at U;obtain⟨fM,jN,jv,sE,rfl⟩:=U;simp only[d5.f,rR]at ar;refine(aku (x:=x) (y:=y) (t:=t) ?_ (X jN) (X sE) ar).value;split
  ·rename_i c aM;exact .inr ⟨aM,rfl,.inl ⟨c,rfl⟩⟩
  ·rename_i c aM _;exact .inr ⟨aM,rfl,.inr ⟨c,rfl⟩⟩
  ·exact .inl rfl
 case unOp op t x=>
  simp only[df,bK,cN]at U;obtain⟨y,ax,rfl⟩:=U;exact(avN (X ax) ar).value
 case convert s d x=>
  simp only[df,bK]at U;obtain⟨y,ax,ds,aA,jJ,a3,U⟩:=U;split at U
  ·cases U;exact(aAq aA a3 (X ax) ar).value
  ·cases U;exact(aCW aA a3 (X ax) ar).value
  ·cases U;exact(aCX aA a3 (X ax) ar).value
  ·cases U
 case makeInterface t x=>
  simp only[df,bK]at U;obtain⟨d,hu,U⟩:=U;split at U
  ·cases U
  ·rename_i a3;simp only[bK,cN]at U;obtain⟨y,ax,rfl⟩:=U;exact(aAl hu (fun ms e=>a3 ms e) (X ax) ar).value
 case makeFunc g first cap=>
  simp only[df,bK,cN]at U;obtain⟨xs,ln,cV,tF,rfl⟩:=U;cases ar;exact⟨.func g (first.map a.eval) (cap.map a.eval),.fn (by simpa using Ll aE aC _ ln) (by simpa using Ll aE aC _ tF),fun w=>rfl⟩
 case slice t x br ai eo=>
  simp only[df,bK]at U;obtain⟨fM,jN,aqw,kG,ck,vJ,aaR,IB,U⟩:=U;split at U
  ·cases U
  ·rename_i az;have Cx:aaR.isSome=true->ck.isSome=true:=fun e=>by
    cases ck with
    |some _=>rfl
    |none=>simp[e]at az
   simp only[bK]at U;obtain⟨gA,hu,U⟩:=U;split at U
   ·split at U
    ·cases U;have:eo=none:=by
      have:=aLd IB;cases eo with
      |none=>rfl
      |some _=>simp at this
     subst this;exact(aFv hu (X jN) (BZ aE aC kG) (BZ aE aC vJ) ar).value
    ·cases U
   ·simp only[bK,cN]at U;obtain⟨n,aq,rfl⟩:=U;exact(aCY hu aq (X jN) (BZ aE aC kG) (BZ aE aC vJ) (BZ aE aC IB) Cx ar).value
   ·simp only[bK,cN]at U;obtain⟨n,aq,rfl⟩:=U;exact(aFw hu aq (X jN) (BZ aE aC kG) (BZ aE aC vJ) (BZ aE aC IB) Cx ar).value
   ·cases U
 case fieldAddr t x f=>
  simp only[df,bK]at U;obtain⟨gA,hu,U⟩:=U;split at U
  ·simp only[bK,cN]at U;obtain⟨fd,IC,n,aq,y,ax,rfl⟩:=U;exact(aFq hu IC aq (X ax) ar).value
  ·cases U
 case field t x f=>
  simp only[df,bK]at U;obtain⟨gA,hu,U⟩:=U;split at U
  ·simp only[bK,cN]at U;obtain⟨fd,IC,b,ah,n,aq,y,ax,rfl⟩:=U;exact(aAj hu IC ah aq (X ax) ar).value
  ·cases U
 case indexAddr t x rr=>
  simp only[df,bK]at U;obtain⟨gA,hu,U⟩:=U;split at U
  ·simp only[bK,cN]at U;obtain⟨n,aq,y,ax,z,aX,rfl⟩:=U;exact(aCS hu aq (X ax) (X aX) ar).value
  ·simp only[bK,cN]at U;obtain⟨n,aq,y,ax,z,aX,rfl⟩:=U;exact(aFr hu aq (X ax) (X aX) ar).value
  ·cases U
 case index t x rr=>
  simp only[df,bK]at U;obtain⟨gA,hu,U⟩:=U;split at U
  ·simp only[bK,cN]at U;obtain⟨y,ax,z,aX,rfl⟩:=U;exact(aFs hu (X ax) (X aX) ar).value
  ·simp only[bK,cN]at U;obtain⟨b,ah,n,aq,y,ax,z,aX,rfl⟩:=U;exact(aFt hu ah aq (X ax) (X aX) ar).value
  ·cases U
 case typeAssert x QZ t ok=>
  simp only[df,bK]at U;obtain⟨d,hu,U⟩:=U;split at U
  ·cases U
  ·rename_i a3;simp only[bK,cN]at U;obtain⟨z,aX,y,ax,rfl⟩:=U;exact(aJH hu (fun ms e=>a3 ms e) aX (X ax) ar).value
 case extract x rr=>
  simp only[df,bK,cN]at U;obtain⟨y,ax,rfl⟩:=U;exact(aCT (X ax) ar).value
 case call c=>
  simp only[df,bK]at U;obtain⟨xs,ln,U⟩:=U;obtain⟨callee,xZ,dZ⟩:=c;split at U
  ·rename_i x jq;obtain⟨y,ax,ab⟩:=LD ln;have t8:xZ=#[y]:=pG (by simpa using ax)
   subst t8;simp only at jq;subst jq;simp only[bK]at U;obtain⟨yM,dU,gA,hu,U⟩:=U;split at U
   ·cases U;cases ar;exact B5 rfl (fun _ _=>rfl) (by simp;rfl) ⟨_,.int _ _,fun w=>by simp[Builtin.len_,dU,cW hu,goInt]⟩
   ·simp only[bK]at U;obtain⟨aqx,aaS,U⟩:=U;split at U
    ·cases U;cases ar;exact B5 rfl (fun _ _=>rfl) (by simp;rfl) ⟨_,.int _ _,fun w=>by simp[Builtin.len_,dU,cW hu,cW aaS,goInt]⟩
    ·cases U
   ·cases U;exact B5 rfl (fun _ _=>rfl) (by simp) (aCU dU hu (X ab) ar)
   ·cases U;exact B5 rfl (fun _ _=>rfl) (by simp) (aCV dU hu (X ab) ar)
   ·cases U
  ·rename_i x jq;obtain⟨y,ax,ab⟩:=LD ln;have t8:xZ=#[y]:=pG (by simpa using ax)
   subst t8;simp only at jq;subst jq;simp only[bK]at U;obtain⟨yM,dU,gA,hu,U⟩:=U;split at U
   ·cases U;exact B5 rfl (fun _ _=>rfl) (by simp) (aAm dU hu (X ab) ar)
   ·cases U
  ·rename_i x y jq;obtain⟨fM,jv,ax,rF,yN⟩:=YB ln;have t8:xZ=#[fM,jv]:=pG (by simpa using ax)
   subst t8;simp only at jq;subst jq;cases U;exact B5 rfl (fun _ _=>rfl) (by simp) (aAn (X rF) (X yN) ar)
  ·rename_i x y jq;obtain⟨fM,jv,ax,rF,yN⟩:=YB ln;have t8:xZ=#[fM,jv]:=pG (by simpa using ax)
   subst t8;simp only at jq;subst jq;cases U;exact B5 rfl (fun _ _=>rfl) (by simp) (aAo (X rF) (X yN) ar)
  ·rename_i x jq;obtain⟨y,ax,ab⟩:=LD ln;have t8:xZ=#[y]:=pG (by simpa using ax)
   subst t8;simp only at jq;subst jq;cases U;exact B5 rfl (fun _ _=>rfl) (by simp) (aAp (X ab) ar)
  ·cases U
 all_goals cases U
end
abbrev D7:=@List.map_map
abbrev By:=@List.map_congr_left
section
variable {p:Program}{M:aW}
theorem al5{w:World}{b o:Nat}{c:Array Value}{ty:TypeId}{lW:Nat×Nat}(ah:w.heap[b]?=some (.cells c ty lW)){v:Value}(ar:c[o]?=some v):w.cell? ⟨b,o,none⟩=some v:=by
 simp[World.cell?,ah,ar]
theorem L2{w:World}{h:H}(r:Rel p M h w.heap){f:P}{k off n:Nat}{cs:List V}{l:Loc}(bT:M f k=some l)(ah:off+n<=l.ext)
  (aI:lu (live h f k) off n=some cs):∃aD:List Value,dq M cs aD/\aD.length=n/\(loadCells ⟨l.bS,l.base+off,none⟩ n).run p w=.ok aD.toArray w/\(∀v∈cs,v.leaf=true)/\
   (∀j v,aD[j]?=some v->w.cell? ⟨l.bS,l.base+off+j,none⟩=some v):=by
 cases au:live h f k with
 |none=>rw[au]at aI;cases aI
 |some xs=>
  rw[au]at aI;obtain⟨c,ty,du,aD,U,g3,hlen,jn,eN,nN⟩:=aof r au bT ah aI;have pB:∀j v,aD[j]?=some v->w.cell? ⟨l.bS,l.base+off+j,none⟩=some v:=fun j v a5=>al5 U (jn j v a5);refine⟨aD,g3,hlen,?_,nN,pB⟩;have:=run_loadCells_list (P:=p) w ⟨l.bS,l.base+off,none⟩ aD (fun j v a5=>by
   have:(⟨l.bS,l.base+off,none⟩:Addr).add j=⟨l.bS,l.base+off+j,none⟩:=by
    unfold Addr.add;split<;>simp_all
   rw[this];exact pB j v a5)
  rw[hlen]at this;exact this
def zh(p:Program)(M:aW)(w:World)(v:V)(s:Sem Value):Prop:=∃aL,bm M v aL/\s.run p w=.ok aL w
theorem alf{w:World}{h:H}(r:Rel p M h w.heap){t:TypeId}{agg:Bool}{n:Nat}{v:V}{I:Fr}{x:X}{rx:Value}(N7:lj p t=some agg)(aq:gU p t=some n)
  (ab:bm M (x.a7 I) rx) (h1:DR agg n x I h=some v):zh p M w v (Instr.loadAt t rx):=by
 simp only[DR]at h1;generalize x.a7 I=q at*;split at h1
 ·rename_i f k off room;split at h1
  ·rename_i hle;have hle:=iZ hle;cases ab with
   |ptr _ _ bT aI=>
    rename_i l;have ah:off+n<=l.ext:=by omega
    obtain⟨aA,av⟩:=nr aq;cases pc:lu (live h f k) off n with
    |none=>rw[pc]at h1;cases h1
    |some cs=>
     rw[pc]at h1;obtain⟨aD,g3,hlen,xj,nN,pB⟩:=L2 r bT ah pc;cases agg with
     |true=>
      cases h1;exact⟨.agg aD.toArray,.agg (by simpa using g3) nN,by simp[Instr.loadAt,Instr.sureAddr,loadVar,Hu N7,mC aA,xj]⟩
     |false=>
      simp only[one]at h1;split at h1
      ·rename_i bG;cases h1;cases g3 with
       |cons ab bp=>
        rename_i aL f2;refine⟨aL,ab,?_⟩;have:=pB 0 aL (by simp);simp only[ud]at this;simp[Instr.loadAt,Instr.sureAddr,loadVar,Hu N7,this]
      ·cases h1
  ·cases h1
 ·cases h1
theorem ZH:∀{cs:List V} {s:List Nat} {aD:List Value},zL cs=some s->dq M cs aD->∃ly:List Int,aD=ly.map (Value.int .u8)/\ly=s.map Int.ofNat/\∀x∈s,x<256
 |[],s,aD,h,aI=>by
  cases h;cases aI;exact⟨[],rfl,rfl,fun _ h=>by cases h⟩
 |c::cs,s,aD,h,aI=>by
  unfold zL at h;split at h
  ·rename_i heq;cases heq
  ·rename_i n aF heq;cases heq;split at h
   ·rename_i ay;split at h
    ·rename_i gk oK;cases h;cases aI with
     |cons ab bp=>
      obtain⟨ly,aN,bd,bO⟩:=ZH oK bp;cases ab;subst aN;exact⟨Int.ofNat n::ly,rfl,by simp[bd],fun x ab=>by
       rcases List.mem_cons.1 ab with rfl|ab
       ·exact Nat.blt_eq.mp ay
       ·exact bO x ab⟩
    ·cases h
   ·cases h
  ·cases h
theorem aLe(s:List Nat)(aA:∀x∈s,x<256):gi ⟨((s.map Int.ofNat).map fun n=>UInt8.ofNat n.toNat).toArray⟩=s:=by
 simp only[gi,D7]
 conv=>rhs;rw[<-List.map_id s]
 apply By;intro a bN;have:=aA a bN;simp;omega
theorem aC0{w:World}{h:H}(r:Rel p M h w.heap){s d e:TypeId}{v:V}{I:Fr}{x:X}{rx:Value}(aA: p.underlying s=some (.slice e))(a3: p.underlying d=some .string)(he: p.underlying e=some (.int .u8))
  (ab:bm M (x.a7 I) rx) (h1:KJ x I h=some v):zh p M w v (convert s d rx):=by
 simp only[KJ]at h1;generalize x.a7 I=q at*;split at h1
 ·cases h1;cases ab;exact⟨_,.str .empty,run_convert_bytes_nil w s e aA he 0 0 d a3⟩
 ·rename_i f k off len es cap;split at h1
  ·rename_i m4;have m4:=dI m4;subst m4;split at h1
   ·rename_i cs hK;split at h1
    ·rename_i st mm;cases h1;cases ab with
     |ag bT au bN hlen hk hu=>
      rename_i l rc a;obtain⟨aD,g3,rE,xj,-,pB⟩:=L2 r bT (by omega) hK;obtain⟨ly,aN,bd,bO⟩:=ZH mm g3;subst aN;have key:∀fG,(loadCells fG len).run p w=.ok (ly.map (Value.int .u8)).toArray w->zh p M w (.str st) (convert s d (.slice (some fG) len rc)):=fun fG eB=>by
       refine⟨.string ⟨((st.map Int.ofNat).map fun n=>UInt8.ofNat n.toNat).toArray⟩,?_,?_⟩
       ·have:=aLe st bO
        conv=>lhs;rw[<-this]
        exact .str _
       ·rw[run_convert_bytes_string w s d e _ len rc aA he a3,run_bytesToString w _ len rc ly eB,foldl_push_bytes,bd];simp[ByteArray.empty,ByteArray.emptyWithCapacity];rfl
      rcases bN with bN|bN
      ·subst bN;have mK:len=0:=by omega
       subst mK;simp at rE;subst rE;exact key a (by simp[loadCells,loadCellsFrom])
      ·subst bN;exact key _ xj
    ·cases h1
   ·cases h1
  ·cases h1
 ·cases h1
theorem XH(a c:ByteArray):(a==c)=(a.data==c.data):=by
 cases a;cases c;rfl
theorem LF{t:TypeId}{q:Q}(h: pY p t=some q):(q=.bool/\p.underlying t=some .bool)\/(q=.int/\∃k,p.underlying t=some (.int k))\/(q=.str/\p.underlying t=some .string)\/
  (q=.ptr/\∃e n,p.underlying t=some (.pointer e)/\gM p e=some n/\n≠0):=by
 unfold pY at h;split at h
 ·rename_i aM;cases h;exact .inl ⟨rfl,Hh aM⟩
 ·rename_i aM;cases h;exact .inr (.inl ⟨rfl,Hh aM⟩)
 ·rename_i aM;cases h;exact .inr (.inr (.inl ⟨rfl,Hh aM⟩))
 ·rename_i aM;cases h;exact .inr (.inr (.inr ⟨rfl,Hh aM⟩))
 ·cases h
theorem aLG{t:TypeId}{q:Q}(h: pY p t=some q)(empty:Bool)(v:Value)(w:World)(n:Nat):(Instr.checkKey empty (n+1) t v).run p w=.ok () w:=by
 rcases LF h with⟨_,hu⟩|⟨_,k,hu⟩|⟨_,hu⟩|⟨_,e,n,hu,_⟩<;>
  simp[Instr.checkKey,cW hu]
theorem zY{t:TypeId}{q:Q}(h: pY p t=some q)(empty:Bool)(v:Value)(w:World):(Instr.checkKey empty 10000 t v).run p w=.ok () w:=aLG h empty v w 9999
def P3(M:aW)(res:Option (Nat×V))(hV:Option (Nat×Value)):Prop:=match res,hV with
 |none,none=>True
 |some (j,v),some (yo,aL)=>j=yo/\bm M v aL
 |_,_=>False
theorem anA{t:TypeId}{q:Q}(h: pY p t=some q){k ch:V}{hr As:Value}(hk:bm M k hr)(lE:bm M ch As){b:Bool}(he:q.eq k ch=some b):jo p t hr As b:=by
 rcases LF h with⟨rfl,hu⟩|⟨rfl,k,hu⟩|⟨rfl,hu⟩|⟨rfl,e,n,hu,aq,av⟩
 ·rcases ho.rj hk lE he with⟨e,_⟩|⟨_,a,c,rfl,rfl,rfl⟩|⟨e,_⟩
  ·cases e
  ·exact aoh hu a c
  ·cases e
 ·rcases ho.rj hk lE he with⟨_,j,a,c,rfl,rfl,rfl⟩|⟨e,_⟩|⟨e,_⟩
  ·intro d w;simp[Op.equalIn,cW hu]
  ·cases e
  ·cases e
 ·rcases ho.rj hk lE he with⟨e,_⟩|⟨e,_⟩|⟨_,a,c,rfl,rfl,rfl⟩
  ·cases e
  ·cases e
  ·intro d w;simp[Op.equalIn,cW hu];exact XH a c
 ·exact anz hu aq av hk lE he
theorem aoH{t:TypeId}{q:Q}(h: pY p t=some q)(aM:q≠.ptr){k ch:V}{hr As:Value}(hk:bm M k hr)(lE:bm M ch As){b:Bool}(he:q.eq k ch=some b):
  ∃d,p.underlying t=some d/\Instr.sameNow d hr As=some b:=by
 rcases LF h with⟨rfl,hu⟩|⟨rfl,k,hu⟩|⟨rfl,hu⟩|⟨rfl,e,n,hu,aq,av⟩
 ·rcases ho.rj hk lE he with⟨e,_⟩|⟨_,a,c,rfl,rfl,rfl⟩|⟨e,_⟩
  ·cases e
  ·exact⟨_,hu,rfl⟩
  ·cases e
 ·rcases ho.rj hk lE he with⟨_,j,a,c,rfl,rfl,rfl⟩|⟨e,_⟩|⟨e,_⟩
  ·exact⟨_,hu,by simp[Instr.sameNow]⟩
  ·cases e
  ·cases e
 ·rcases ho.rj hk lE he with⟨e,_⟩|⟨e,_⟩|⟨_,a,c,rfl,rfl,rfl⟩
  ·cases e
  ·cases e
  ·exact⟨_,hu,by simp[Instr.sameNow];exact XH a c⟩
 ·exact absurd rfl aM
theorem aoI{t:TypeId}{q:Q}{d:TypeDesc}(h: pY p t=some q)(aM:q≠.ptr)(hu: p.underlying t=some d){k:V}{hr:Value}(hk:bm M k hr):∀{es:List (V×V×Nat)} {aD:List MapEntry},eK (s7 M) es aD->
  ∀{i:Nat} {res:Option (Nat×V)},findKey q k es i=some res->∃hV,Instr.findNow d hr aD i=some hV/\P3 M res hV
 |_,_,.nil,i,res,h1=>by cases h1;exact⟨none,rfl,trivial⟩
 |(ch,v,b)::es,r::aD,.cons ⟨ab,ar,_⟩ bp,i,res,h1=>by
  unfold findKey at h1;split at h1
  ·rename_i he;obtain⟨o4,sD,aA⟩:=aoH h aM hk ab he;rw[hu]at sD;cases sD;cases h1;exact⟨some (i,r.val),by simp[Instr.findNow,aA],rfl,ar⟩
  ·rename_i he;obtain⟨o4,sD,aA⟩:=aoH h aM hk ab he;rw[hu]at sD;cases sD;obtain⟨hV,a,b⟩:=aoI h aM hu hk bp h1;exact⟨hV,by simp[Instr.findNow,aA,a],b⟩
  ·cases h1
theorem apn{t:TypeId}{q:Q}(h: pY p t=some q){k:V}{hr:Value}(hk:bm M k hr):∀{es:List (V×V×Nat)} {aD:List MapEntry},eK (s7 M) es aD->
  ∀{i:Nat} {res:Option (Nat×V)},findKey q k es i=some res->∃hV,(∀w,(Instr.findAsking t hr aD i).run p w=.ok hV w)/\P3 M res hV
 |_,_,.nil,i,res,h1=>by cases h1;exact⟨none,fun w=>rfl,trivial⟩
 |(ch,v,b)::es,r::aD,.cons ⟨ab,ar,_⟩ bp,i,res,h1=>by
  unfold findKey at h1;split at h1
  ·rename_i he;have aA:=jo.run (anA h hk ab he);cases h1;exact⟨some (i,r.val),fun w=>by simp[Instr.findAsking,aA w],rfl,ar⟩
  ·rename_i he;have aA:=jo.run (anA h hk ab he);obtain⟨hV,a,b⟩:=apn h hk bp h1;exact⟨hV,fun w=>by simp[Instr.findAsking,aA w,a w],b⟩
  ·cases h1
theorem aLf{e:TypeId}(hr:Value):∀(aD:List MapEntry) (i:Nat),aD≠[] ->Instr.findNow (.pointer e) hr aD i=none
 |[],_,h=>absurd rfl h
 |r::aD,i,_=>by simp[Instr.findNow,Instr.sameNow]
theorem Hi{t:TypeId}{q:Q}(h: pY p t=some q){k:V}{hr:Value}(hk:bm M k hr){es:List (V×V×Nat)}{aD:List MapEntry}(m4:eK (s7 M) es aD)
  {res:Option (Nat×V)} (h1:findKey q k es 0=some res):∃hV,(∀w,(Instr.findKey t hr aD).run p w=.ok hV w)/\P3 M res hV:=by
 have now:∀{d:TypeDesc},p.underlying t=some d->q≠.ptr->∃hV,(∀w,(Instr.findKey t hr aD).run p w=.ok hV w)/\P3 M res hV:=fun{d} hu aM=>by
  obtain⟨hV,a,b⟩:=aoI h aM hu hk m4 h1;exact⟨hV,fun w=>by simp[Instr.findKey,cW hu,a],b⟩
 rcases LF h with⟨rfl,hu⟩|⟨rfl,k,hu⟩|⟨rfl,hu⟩|⟨rfl,e,n,hu,aq,av⟩
 ·exact now hu (by simp)
 ·exact now hu (by simp)
 ·exact now hu (by simp)
 ·obtain⟨hV,a,b⟩:=apn h hk m4 h1;cases pd:aD with
  |nil=>
   subst pd;exact⟨hV,fun w=>by
    have:=a w;simp[Instr.findAsking]at this;simp[Instr.findKey,cW hu,Instr.findNow,this],b⟩
  |cons r ID=>
   rw[<-pd];exact⟨hV,fun w=>by simp[Instr.findKey,cW hu,aLf hr aD 0 (by simp[pd]),a w],b⟩
theorem anB{w:World}{h:H}(r:Rel p M h w.heap){v:V}{aL:Value}(ar:bm M v aL){es:List (V×V×Nat)}(h1:zx h v=some es):
  (aL=.map none/\es=[])\/∃b aD gE,aL=.map (some b)/\w.heap[b]?=some (.map aD gE)/\eK (s7 M) es aD.toList:=by
 unfold zx at h1;split at h1
 ·cases h1;cases ar;exact .inl ⟨rfl,rfl⟩
 ·rename_i f;split at h1
  ·rename_i jA gE aC;cases h1;cases ar with
   |map bT=>
    rename_i l;obtain⟨_,cL,ae,az⟩:=r.oh f _ l aC rfl bT;cases az with
    |map aE=>exact .inr ⟨l.bS,_,_,rfl,ae,aE⟩
  ·cases h1
 ·cases h1
theorem ns{w:World}{b:Nat}{o:Obj}(ah:w.heap[b]?=some o)(U:Lk o=false):(getObj b).run p w=.ok o w:=by
 cases o<;>first|(simp[Lk]at U;done)|simp[getObj,Sem.run,ah]
theorem aHV{w:World}{h:H}(r:Rel p M h w.heap){t nu e:TypeId}{q:Q}{z v:V}{ok:Bool}{I:Fr}{x k:X}{rx hr:Value}(hu: p.underlying t=some (.map nu e))(aM: pY p nu=some q)(aX:zeroV p e=some z)
  (ab:bm M (x.a7 I) rx) (hk:bm M (k.a7 I) hr) (h1:Lh q z ok x k I h=some v):zh p M w v (Instr.lookup t rx hr ok):=by
 obtain⟨da,m2,uI⟩:=anv aX M;simp only[Lh]at h1;split at h1
 ·rename_i es m4;have main:∀{aD:List MapEntry},eK (s7 M) es aD->∃hV aL,bm M v aL/\(∀w,(Instr.findKey nu hr aD).run p w=.ok hV w)/\
    ((∃j dg,hV=some (j,dg)/\aL=if ok then .tuple #[dg,.bool true]else dg)\/(hV=none/\aL=if ok then .tuple #[da,.bool false]else da)):=fun{aD} pd=>by
   split at h1
   ·rename_i j dg aE;obtain⟨hV,d0,g3⟩:=Hi aM hk pd aE;cases h1;cases hV with
    |none=>exact g3.elim
    |some fl=>
     obtain⟨yo,aL⟩:=fl;refine⟨_,_,?_,d0,.inl ⟨yo,aL,rfl,rfl⟩⟩;cases ok
     ·exact g3.2
     ·exact .bk (.cons g3.2 (.cons (.bool _) .nil))
   ·rename_i aE;obtain⟨hV,d0,g3⟩:=Hi aM hk pd aE;cases h1;cases hV with
    |some fl=>exact g3.elim
    |none=>
     refine⟨_,_,?_,d0,.inr ⟨rfl,rfl⟩⟩;cases ok
     ·exact m2
     ·exact .bk (.cons m2 (.cons (.bool _) .nil))
   ·cases h1
  rcases anB r ab m4 with⟨rfl,rfl⟩|⟨b,aD,gE,rfl,ah,aE⟩
  ·obtain⟨hV,aL,n8,d0,U⟩:=main (aD:=[]) .nil;refine⟨aL,n8,?_⟩;rcases U with⟨j,dg,rfl,rfl⟩|⟨rfl,rfl⟩
   ·simp[Instr.lookup,cW hu,zY aM,d0 w]
   ·simp[Instr.lookup,cW hu,zY aM,d0 w,uI w]
  ·obtain⟨hV,aL,n8,d0,U⟩:=main aE;refine⟨aL,n8,?_⟩;rcases U with⟨j,dg,rfl,rfl⟩|⟨rfl,rfl⟩
   ·simp[Instr.lookup,cW hu,ns ah rfl,zY aM,d0 w]
   ·simp[Instr.lookup,cW hu,ns ah rfl,zY aM,d0 w,uI w]
 ·cases h1
theorem eK.length{α β:Type}{R:α->β->Prop}:∀{cT:List α} {bs:List β},eK R cT bs->cT.length=bs.length
 |_,_,.nil=>rfl
 |_,_,.cons _ t=>by simp[t.length]
theorem aC1{w:World}{h:H}(r:Rel p M h w.heap){t nu e ty:TypeId}{v:V}{I:Fr}{x:X}{rx:Value}{dZ:Array TypeId}(dU:dZ[0]?=some t)(hu: p.underlying t=some (.map nu e))
  (ab:bm M (x.a7 I) rx) (h1:KK x I h=some v):zh p M w v (Builtin.len_ dZ ty #[rx]):=by
 simp only[KK]at h1;split at h1
 ·rename_i es m4;cases h1;rcases anB r ab m4 with⟨rfl,rfl⟩|⟨b,aD,gE,rfl,ah,aE⟩
  ·exact⟨_,.int _ _,by simp[Builtin.len_,dU,cW hu,goInt]⟩
  ·refine⟨_,.int _ _,?_⟩;have:=aE.length;simp at this;simp[Builtin.len_,dU,cW hu,goInt,ns ah rfl,this]
 ·cases h1
end
abbrev uf:=@Bool.or_eq_true
abbrev Lb:=@Nat.div_add_mod
abbrev js:=@Nat.mul_comm
section
variable {p:Program}{M:aW}
theorem aMm{w:World}{b:Nat}{c:Array Value}{ty:TypeId}{lW:Nat×Nat}(ah:w.heap[b]?=some (.cells c ty lW)):(viewAt b).run p w=.ok none w:=by
 simp[viewAt,World.shape?,ah]
theorem apr{w:World}{b o:Nat}{c:Array Value}{ty:TypeId}{lW:Nat×Nat}(ah:w.heap[b]?=some (.cells c ty lW)):(Conv.seenAt ⟨b,o,none⟩).run p w=.ok ⟨b,o,none⟩ w:=by
 simp[Conv.seenAt,aMm ah]
theorem aMn{w:World}{b:Nat}{c:Array Value}{ty:TypeId}{lW:Nat×Nat}(ah:w.heap[b]?=some (.cells c ty lW)):(cellsIn b).run p w=.ok (some c.size) w:=by
 simp[cellsIn,World.shape?,ah]
theorem aC2{w:World}{h:H}(r:Rel p M h w.heap){s d e:TypeId}{n:Nat}{v:V}{I:Fr}{x:X}{rx:Value}(aA: p.underlying s=some (.pointer e))(a3: p.underlying d=some .unsafePointer)(aq:gU p e=some n)
  (ab:bm M (x.a7 I) rx) (h1:KL x I h=some v):zh p M w v (convert s d rx):=by
 simp only[KL]at h1;generalize x.a7 I=q at*;split at h1
 ·cases h1;cases ab;exact⟨_,.kt,by simp[convert,cW aA,cW a3,Conv.unsafePointer]⟩
 ·rename_i f k off room;split at h1
  ·rename_i xs au;split at h1
   ·cases h1
   ·rename_i gN;cases h1;cases ab with
    |ptr _ _ bT aI=>
     rename_i l;obtain⟨aZ,dead,md,ty,aC,h1,ae⟩:=ant au;obtain⟨dO,av⟩:=(r.i5 f k l bT).2.2.2;obtain⟨cr,eB,_,a6,sV,c,du,U,eN,r7,aX⟩:=r.cells f xs aZ dead md ty dO aC av k h1 ae;rw[bT]at eB;cases eB;have xQ:=(r.i5 f k l bT).2.2.1;refine⟨_,.ptr off (gN+1) bT aI,?_⟩;obtain⟨oK,kn⟩:=nr aq;have ay:¬(c.size<=l.base+off):=by omega
     simp[convert,cW aA,cW a3,Conv.unsafePointer,apr U,aMn U,mC oK,kn,ay]
  ·cases h1
 ·cases h1
theorem aLg{e:TypeId}{s:Nat}(aA: p.cellsOf e=s)(av:s≠0)(count off n:Nat)(nb:off%s=0)(aq:off/s+n<=count):liesAt p p.depth e count off e n=true:=by
 have a3: p.depth=(2*(p.types.size+Made.depth)+1)+1:=rfl;rw[a3];simp only[liesAt,uf];left;rw[a3];simp[rowAt,aA,av,nb,aq,sameLayout]
theorem aoi{e:TypeId}{s:Nat}(h:gM p e=some s): p.cellsOf e=s:=by
 unfold gM at h;simp[Program.cellsOf,h]
theorem apu{w:World}{b o:Nat}{c:Array Value}{e:TypeId}{lW:Nat×Nat}(ah:w.heap[b]?=some (.cells c e lW)){s:Nat}(aA:gM p e=some s)(av:s≠0)(n:Nat)(nb:o%s=0)(aq:o/s+n<=c.size/s):
  (variablesAt ⟨b,o,none⟩ e n).run p w=.ok true w:=by
 simp[variablesAt,World.shape?,ah,aoi aA,aLg (aoi aA) av _ _ _ nb aq]
theorem aC3{w:World}{h:H}(r:Rel p M h w.heap){s d e:TypeId}{n:Nat}{v:V}{I:Fr}{x:X}{rx:Value}(aA: p.underlying s=some .unsafePointer)(a3: p.underlying d=some (.pointer e))(aq:gU p e=some n)
  (ab:bm M (x.a7 I) rx) (h1:KM e n x I h=some v):zh p M w v (convert s d rx):=by
 simp only[KM]at h1;generalize x.a7 I=q at*;split at h1
 ·cases h1;cases ab;exact⟨_,.kt,by simp[convert,cW aA,cW a3,Conv.unsafePointer]⟩
 ·rename_i f k off room;split at h1
  ·rename_i xs aZ dead md ty aC;split at h1
   ·rename_i ah;simp only[dJ]at ah;obtain⟨⟨⟨⟨⟨h5,hA⟩,nE⟩,vK⟩,E7⟩,RO⟩:=ah;have RO:md≠.ro:=by rintro rfl;cases RO
    have h5:=iZ h5;have hA:=iZ hA;have nE:=dI nE;have vK:=dI vK;have E7:=iZ E7;subst nE;cases h1;cases ab with
    |ptr _ _ bT aI=>
     rename_i l;obtain⟨dO,av⟩:=(r.i5 f k l bT).2.2.2;obtain⟨cr,eB,nb,a6,sV,c,du,U,eN,r7,aX⟩:=r.cells f xs aZ dead md e dO aC av k h5 hA;rw[bT]at eB;cases eB;have xQ:=(r.i5 f k l bT).2.2.1;obtain⟨oK,kn⟩:=nr aq;have hm:=(nb RO).1 n oK;refine⟨_,.ptr off room bT aI,?_⟩;have akv:(l.base+off)%n=0:=by rw[Nat.add_mod,hm,vK];simp
     have hdiv:(l.base+off)/n+1<=c.size/n:=by
      rw[Nat.le_div_iff_mul_le (by omega)];have:=Lb (l.base+off) n;rw[akv]at this;rw[eP,js];omega
     simp[convert,cW aA,cW a3,Conv.unsafePointer,apr U,mC oK,kn,apu U oK kn 1 akv hdiv]
   ·cases h1
  ·cases h1
 ·cases h1
theorem zh.value{w:World}{v:V}{s:Sem Value}(h:zh p M w v s):∃aL,bm M v aL/\(do pure (.value (<-s)):Sem Next).run p w=.ok (.value aL) w:=
 let⟨aL,a,b⟩:=h;⟨aL,a,by simp[b]⟩
theorem alg{N:Nat}{I:Fr}{a:Act}(aE:iX M N I a.tmps)(aC:g0 p M){w:World}{h:H}(r:Rel p M h w.heap){o:Oper}{i:IR}(U:Ao p N o=some i){v:V}(ar:i.f I h=some v):
  ∃aL,bm M v aL/\(execOp a.eval o).run p w=.ok (.value aL) w:=by
 have X:=fun{x kA} (h:di p N x=some kA)=>wM aE aC h;obtain⟨dst,op,type,pos,after,guard⟩:=o;cases op<;>simp only[Ao]at U
 case load t x=>
  simp only[df,bK,cN]at U;obtain⟨b,ah,n,aq,y,ax,rfl⟩:=U;exact(alf r ah aq (X ax) ar).value
 case convert s d x=>
  simp only[df,bK]at U;obtain⟨y,ax,ds,aA,jJ,a3,U⟩:=U;split at U
  ·simp only[bK]at U;obtain⟨Q2,he,U⟩:=U;split at U
   ·cases U;exact(aC0 r aA a3 he (X ax) ar).value
   ·cases U
  ·simp only[bK,cN]at U;obtain⟨n,aq,rfl⟩:=U;exact(aC2 r aA a3 aq (X ax) ar).value
  ·simp only[bK,cN]at U;obtain⟨n,aq,rfl⟩:=U;exact(aC3 r aA a3 aq (X ax) ar).value
  ·cases U
 case lookup t x rr ok=>
  simp only[df,bK]at U;obtain⟨gA,hu,U⟩:=U;split at U
  ·simp only[bK,cN]at U;obtain⟨q,aM,z,aX,y,ax,k,hk,rfl⟩:=U;exact(aHV r hu aM aX (X ax) (X hk) ar).value
  ·cases U
 case call c=>
  simp only[df,bK]at U;obtain⟨xs,ln,U⟩:=U;obtain⟨callee,xZ,dZ⟩:=c;split at U
  ·rename_i x jq;obtain⟨y,ax,ab⟩:=LD ln;have t8:xZ=#[y]:=pG (by simpa using ax)
   subst t8;simp only at jq;subst jq;simp only[bK]at U;obtain⟨yM,dU,gA,hu,U⟩:=U;split at U
   ·cases U;obtain⟨cs,e⟩:=ZG a.eval .len #[y] dZ ⟨dst,.call ⟨.builtin .len,#[y],dZ⟩,type,pos,after,guard⟩ rfl
    rw[e];have:=(aC1 (ty:=type) r dU hu (X ab) ar).value;simpa[builtin]using this
   ·cases U
  ·cases U
 all_goals cases U
end
abbrev Bz:=@Array.getElem?_eq_getElem
abbrev vd:=@Array.getElem?_eq_none
abbrev BA:=@Nat.le_of_not_lt
abbrev kL:=@decide_eq_true_eq
abbrev D8:=@Nat.mod_eq_of_lt
abbrev qv:=@Nat.mod_lt
abbrev PE:=@Array.getElem?_append_left
abbrev ve:=@List.drop_eq_nil_of_le
abbrev iL:=@List.drop_zero
abbrev nR:=@List.nil_append
abbrev D9:=@Int.natCast_mul
abbrev qw:=@decide_false
abbrev Lc:=@Bool.or_false
abbrev Ld:=@Int.toNat_natCast
section
variable {p:Program}{M:aW}
theorem aC4(s:ByteArray)(pos k:Nat):(kX ((gi s).drop pos) k).getD 0=(s.get! (pos+k)).toNat:=by
 rw[BH,qq];simp only[gi,ij];rw[D2];by_cases h: pos+k<s.data.size
 ·have:s.get! (pos+k)=s.data[pos+k]:=by
   show s.data[pos+k]! =_;rw[getElem!_pos s.data (pos+k) h]
  rw[this,Bz h];rfl
 ·have:s.get! (pos+k)=0:=by
   show s.data[pos+k]! =_;rw[getElem!_neg s.data (pos+k) h];rfl
  rw[this,vd (BA h)];rfl
theorem aoj(s:ByteArray)(pos:Nat)(h: pos<s.size):lS ((gi s).drop pos)=Utf8.decode s pos:=by
 have ah:∀k,Nat.blt k ((gi s).drop pos).length=decide (pos+k<s.size):=fun k=>by
  have au:((gi s).drop pos).length=s.size-pos:=by
   rw[jG,vq]
  rw[au,i9,lv];simp;omega
 have aM:∀a b:Nat,Nat.beq a b=(a==b):=fun a b=>by rw[i9,Nat.beq_eq];simp
 have az:∀a b c:Nat,Utf8.valid (((a%16)*4096+(b%64)*64+c%64:Nat):Int)=(Nat.blt ((a%16)*4096+(b%64)*64+c%64) 0xD800||Nat.ble 0xE000 ((a%16)*4096+(b%64)*64+c%64)):=fun a b c=>by
  rw[i9];simp only[Utf8.valid,uf,dJ,kL,lv,Nat.ble_eq];omega
 have bo:∀c:Nat,0x10000<=c->Utf8.valid (c:Int)=Nat.ble c 0x10FFFF:=fun c U=>by
  rw[i9];simp only[Utf8.valid,uf,dJ,kL,Nat.ble_eq];omega
 have avP:∀a b:Nat,(Nat.blt a b=true)=(a<b):=fun a b=>by rw[lv]
 have avQ:∀a b:Nat,(Nat.ble a b=true)=(a<=b):=fun a b=>by rw[Nat.ble_eq]
 unfold lS Utf8.decode;simp only[aC4,ah,aM,avP,avQ,Utf8.runeError,dJ,uf,kL,ge_iff_le,az];split
 ·rfl
 ·split
  ·rfl
  ·split
   ·rfl
   ·split
    ·generalize ((s.get! (pos+0)).toNat%8*262144+(s.get! (pos+1)).toNat%64*4096+(s.get! (pos+2)).toNat%64*64+(s.get! (pos+3)).toNat%64)=c
     by_cases U:65536<=c
     ·simp[U,bo c U]
     ·simp[U]
    ·rfl
def t2(p:Program)(M:aW)(o:O)(g:P->V)(s:Sem Value):Prop:=
 ∀w:World,∃(cL:Obj) (ext lim:Nat) (aL:Value) (w':World),s.run p w=.ok aL w'/\w'.heap=w.heap.push cL/\w'.os=w.os/\w'.output=w.output/\w'.tape=w.tape/\
  ∀(f:P) (aT:aW),M.le aT->aT f 0=some ⟨w.heap.size,0,ext,lim⟩ ->bm aT (g f) aL/\re p aT ⟨w.heap.size,0,ext,lim⟩ o cL
theorem bm.eF{aT:aW}{f:P}{b ext lim len es rc:Nat}{cap:Option Nat}(h:aT f 0=some ⟨b,0,ext,lim⟩)(h1:len*es<=ext)(ae:len<=rc)(az:∀c,cap=some c->rc=c/\c*es<=ext)
  (bo:cap=none->rc*es<=lim):bm aT (.ag f 0 0 len es cap) (.slice (some ⟨b,0,none⟩) len rc):=
 .ag (off:=0) (l:=⟨b,0,ext,lim⟩) h (by simpa using h1) (.inr rfl) ae (fun c e=>by simpa using az c e) (fun e=>by simpa using bo e)
theorem Es{aT:aW}{xs:List V}{aD:List Value}{c:Array Value}{ty:TypeId}{du:Nat×Nat}{b lim:Nat}(aI:dq aT xs aD)(au:∀x∈xs,x.leaf=true)(U:∀i,i<xs.length->c[i]?=aD[i]?)
  (h1:xs.length<=lim) (ae:lim<=c.size) (aX:du=(0,0)\/du.1=c.size):re p aT ⟨b,0,xs.length,lim⟩ (.cells xs 0 0 .rw ty) (.cells c ty du):=by
 refine .cells (.zero _ _) rfl h1 (by simpa using ae) (fun i v ar=>?_) (fun i ai=>?_)
 ·have ai:i<xs.length:=by
   rcases dz i xs.length with h|h
   ·exact h
   ·rw[ei h]at ar;cases ar
  obtain⟨aL,a,b⟩:=aI.get ar;exact⟨aL,by simpa[U i ai]using a,b,au v (c0 ar)⟩
 ·rcases aX with rfl|aX
  ·simp
  ·simp only at ai ae⊢;omega
theorem t2.value{o:O}{g:P->V}{s:Sem Value}(h:t2 p M o g s)(w:World):∃(cL:Obj) (ext lim:Nat) (aL:Value) (w':World),(do pure (.value (<-s)):Sem Next).run p w=.ok (.value aL) w'/\
  w'.heap=w.heap.push cL/\w'.os=w.os/\w'.output=w.output/\w'.tape=w.tape/\
  ∀(f:P) (aT:aW),M.le aT->aT f 0=some ⟨w.heap.size,0,ext,lim⟩ ->bm aT (g f) aL/\re p aT ⟨w.heap.size,0,ext,lim⟩ o cL:=
 let⟨cL,ext,lim,aL,w',h1,ae⟩:=h w
 ⟨cL,ext,lim,aL,w',by simp[h1],ae⟩
theorem aFy{t:TypeId}{z:List V}(aX: pA p t=some z){I:Fr}{o:O}{g:P->V}(h:alb t z I=some (o,g)):
  t2 p M o g (Instr.alloc t true (.tuple #[])):=fun w=>by
 cases h;obtain⟨da,aI,au,d0⟩:=Hr aX M;have hlen:=aI.length;refine⟨.cells da.cells t,z.length,z.length,.pointer (some ⟨w.heap.size,0,none⟩),w.alloc (.cells da.cells t),by simp[Instr.alloc,d0 w,newVar,newRow],rfl,rfl,rfl,rfl,fun f aT bT aE=>⟨?_,?_⟩⟩
 ·have:=bm.ptr (M:=aT) 0 z.length aE (by simp);simpa using this
 ·exact Es (aI.mono bT) au (fun i _=>by simp) (a1 _) (by rw[hlen];simp) (.inl rfl)
theorem aAs{t:TypeId}{n:Nat}(aq:gU p t=some n){I:Fr}{x:X}{rx:Value}(ab:bm M (x.a7 I) rx){o:O}{g:P->V}(h:N5 t n x I=some (o,g)):
  t2 p M o g (Instr.box t rx):=fun w=>by
 unfold N5 at h;split at h
 ·rename_i ah;have ah:=dI ah;cases h;have bV:(x.a7 I).cells≠[]:=fun e=>by rw[e]at ah;exact(nr aq).2 ah.symm
  obtain⟨aI,au⟩:=YR ab bV;have hlen:=aI.length;subst ah;refine⟨.cells rx.cells t,(x.a7 I).cells.length,(x.a7 I).cells.length,.pointer (some ⟨w.heap.size,0,none⟩),w.alloc (.cells rx.cells t),by simp[Instr.box,newVar,newRow],rfl,rfl,rfl,rfl,fun f aT bT aE=>⟨?_,?_⟩⟩
  ·have:=bm.ptr (M:=aT) 0 (x.a7 I).cells.length aE (by simp);simpa using this
  ·exact Es (aI.mono bT) au (fun i _=>by simp) (a1 _) (by rw[hlen];simp) (.inl rfl)
 ·cases h
theorem Lm{z:List V}{da:List Value}(h:dq M z da):∀n,dq M (e2 z n) (e2 da n)
 |0=>.nil
 |n+1=>h.append (Lm h n)
theorem zW{α:Type}(z:List α):∀n,(e2 z n).length=n*z.length
 |0=>by simp[e2]
 |n+1=>by simp[e2,zW z n,eP,D3]
theorem Ya{α:Type}(z:List α)(aX:z.length≠0):∀(n i:Nat),i<n*z.length->(e2 z n)[i]?=z[i%z.length]?
 |0,i,h=>by simp at h
 |n+1,i,h=>by
  simp only[e2];by_cases ai:i<z.length
  ·rw[nP ai,D8 ai]
  ·rw[oo (by omega),Ya z aX n (i-z.length) (by rw[eP]at h;omega),<-Nat.mod_eq_sub_mod (by omega)]
theorem LG{z:List V}(h:∀c∈z,c.leaf=true):∀n,∀c∈e2 z n,c.leaf=true
 |0,c,U=>by cases U
 |n+1,c,U=>by
  rcases List.mem_append.1 U with aa|aa
  ·exact h c aa
  ·exact LG h n c aa
theorem YS(da:Array Value)(n:Nat)(aX:da.size≠0):(Array.range (n*da.size)).map (fun i=>da[i%da.size]!)=(e2 da.toList n).toArray:=by
 apply pG;apply D5;intro i;by_cases ai:i<n*da.size
 ·rw[List.toList_toArray,Ya da.toList (by simpa using aX) n i (by simpa using ai)];have hm:i%da.size<da.size:=qv _ (by omega);simp[ai,hm]
 ·have h1:(e2 da.toList n).length=n*da.size:=by rw[zW];simp
  rw[ei (by simp;omega),ei (by simp[h1];omega)]
theorem aHW{N:Nat}{I:Fr}{a:Act}(aE:iX M N I a.tmps)(aC:g0 p M){t e:TypeId}{n len:Nat}{z:List V}{ps:Array (Nat×Operand)}{hR:List (Nat×Nat×X)}
  (hu: p.underlying t=some (.slice e)) (aq:gU p e=some n) (aX: pA p e=some z) (l0:z.length=n) (Ve:len*n<=2^24)
  (aM:(ps.toList.mapM fun(x:Nat×Operand)=>do some (x.1*n,n,<-di p N x.2))=some hR) {o:O} {g:P->V} (h:GZ e n len z hR I=some (o,g)):
  t2 p M o g (Instr.buildSlice t len (ps.map fun(i,x)=>(i,a.eval x))):=fun w=>by
 unfold GZ at h;split at h
 ·rename_i cs hK;cases h;obtain⟨aA,kn⟩:=nr aq;obtain⟨da,aI,au,d0⟩:=Hr aX M;have hlen:=aI.length;have m2:da.cells.size=n:=by rw[<-l0,hlen];simp
  have dw:eK (fun(a:Nat×Operand) (b:Nat×Nat×X)=>(fun i=>some (i*n,n)) a.1=some (b.1,b.2.1)/\di p N a.2=some b.2.2/\b.2.1≠0) ps.toList hR:=by
   refine(P2 _ aM).imp fun a b h=>?_;simp only[df,bK,cN]at h;obtain⟨kA,qI,rfl⟩:=h;exact⟨rfl,qI,kn⟩
  obtain⟨n7,h1,ae,az,bo⟩:=Qm aE aC (place:=fun i=>some (i*n,n)) ps.toList dw (da:=(e2 da.cells.toList len).toArray) (by simpa using Lm aI len) (LG au len) hK;have eN:n7.size=len*n:=by rw[bo];simp[zW,m2]
  have kp:=ae.length;have Au:(Instr.buildSlice t len (ps.map fun(i,x)=>(i,a.eval x))).run p w=.ok (.slice (some ⟨w.heap.size,0,none⟩) len len) (w.alloc (.cells n7 e)):=by
   have rT:(Array.range (len*n)).map (fun i=>(if len*n=0 then(#[]:Array Value)else da.cells)[i%(if len*n=0 then(#[]:Array Value)else da.cells).size]!)=(e2 da.cells.toList len).toArray:=by
    by_cases av:len*n=0
    ·have:len=0:=by
      rcases Nat.mul_eq_zero.1 av with h|h
      ·exact h
      ·exact absurd h kn
     subst this;simp[e2]
    ·simp only[av,qu];have:=YS da.cells len (by omega);rw[m2]at this;rw[<-this,m2]
   have hle:¬(len*n>2^24):=by omega
   simp only[Instr.buildSlice,ja,cW hu,jb,mC aA,bf hle];by_cases av:len*n=0
   ·rw[bl av];simp only[av,qt]at rT;simp only[av,ja,pF,jb,rT,Array.toList_map,h1];simp[newRow]
   ·rw[bf av];simp only[av,qu]at rT;simp only[ja,d0 w,pF,jb,rT,Array.toList_map,h1];simp[newRow]
  refine⟨.cells n7 e,cs.length,cs.length,_,_,Au,rfl,rfl,rfl,rfl,fun f aT bT ll=>⟨?_,?_⟩⟩
  ·have U:cs.length=len*n:=by rw[kp];simpa using eN
   exact bm.eF (cap:=some len) ll (by simp[U]) (a1 _) (fun c e=>by cases e;exact⟨rfl,by simp[U]⟩) (fun e=>by cases e)
  ·exact Es (ae.mono bT) az (fun i _=>by simp) (a1 _) (by rw[kp];simp) (.inl rfl)
 ·cases h
theorem apo(mP old:Nat)(e:TypeId)(w:World):∃c,mP<=c/\(choose (.appendCap mP old e)).run p w=.ok c {w with drawn:=w.drawn+1}:=
 ⟨mP+w.tape w.drawn (.appendCap mP old e)%(2^63-mP),Nat.le_add_right mP _,by simp[Question.forced,Question.cut]⟩
theorem Zw(M:aW):∀(b:List UInt8),dq M (bytesOf (b.map UInt8.toNat)) (b.map fun x=>Value.int .u8 x.toNat)
 |[]=>.nil
 |_::b=>.cons (.int _ _) (Zw M b)
theorem L9:∀(b:List Nat),(bytesOf b).length=b.length
 |[]=>rfl
 |_::b=>by simp[bytesOf,L9 b]
theorem ZI:∀(b:List Nat),∀c∈bytesOf b,c.leaf=true
 |[],_,h=>by cases h
 |x::b,c,h=>by
  rcases List.mem_cons.1 h with rfl|h
  ·rfl
  ·exact ZI b c h
theorem aLh{α:Type}(a:Array α)(x:α)(f:α->α):(a.push x).modify a.size f=a.push (f x):=by
 apply Array.ext_getElem?;intro i;rw[K8,wL,wL];by_cases h:a.size=i
 ·subst h;simp
 ·simp[h,kv h]
theorem aMo{w:World}{b o:Nat}{c:Array Value}{e:TypeId}{lW:Nat×Nat}(ah:w.heap[b]?=some (.cells c e lW)):(markStringish ⟨b,o,none⟩).run p w=.ok () (w.freeze ⟨b,c.size,none⟩ 1):=by
 simp[markStringish,World.shape?,ah]
theorem aC5{s d e:TypeId}(aA: p.underlying s=some .string)(a3: p.underlying d=some (.slice e))(he: p.underlying e=some (.int .u8)){I:Fr}{x:X}{rx:Value}(ab:bm M (x.a7 I) rx){o:O}{g:P->V}
  (h:O2 e x I=some (o,g)):t2 p M o g (convert s d rx):=fun w=>by
 unfold O2 at h;generalize x.a7 I=q at*;split at h
 ·cases h;cases ab with
  |str b=>
   obtain⟨c,U,Cz⟩:=apo (p:=p) b.size 0 e w;have uJ:(gi b).length=b.size:=vq b
   let cells:Array Value:=b.data.map (fun(y:UInt8)=>Value.int .u8 y.toNat)++Array.replicate (c-b.size) (Value.int .u8 0)
   have hK:cells.size=c:=by
    show(b.data.map (fun(y:UInt8)=>Value.int .u8 y.toNat)++Array.replicate (c-b.size) (Value.int .u8 0)).size=c;have:b.data.size=b.size:=rfl;simp;omega
   let b5:World:={w with drawn:=w.drawn+1}
   let d7:=b5.alloc (.cells cells e)
   have ae:d7.heap[w.heap.size]?=some (.cells cells e (0,0)):=by
    show(w.heap.push (.cells cells e (0,0)))[w.heap.size]?=_;simp
   have az:(d7.freeze ⟨w.heap.size,cells.size,none⟩ 1).heap=w.heap.push (.cells cells e (cells.size,cells.size+1)):=by
    simp only[World.freeze,bf Nat.one_ne_zero];exact(aLh w.heap (.cells cells e (0,0)) _).trans (by simp)
   refine⟨.cells cells e (cells.size,cells.size+1),(bytesOf (gi b)).length,c,.slice (some ⟨w.heap.size,0,none⟩) b.size c,d7.freeze ⟨w.heap.size,cells.size,none⟩ 1,?_,az,?_,?_,?_,fun f aT bT aE=>⟨?_,?_⟩⟩
   ·simp only[convert,ja,cW aA,cW a3,cW he,jb,Conv.stringToBytes,Cz,newRow,run_newObj,pF];exact(lP (fun r=>Result.andThen r fun _ w'=>Result.ok (Value.slice (some ⟨w.heap.size,0,none⟩) b.size c) w') (aMo (p:=p) (o:=0) ae))
   ·simp[World.freeze];rfl
   ·simp[World.freeze];rfl
   ·simp[World.freeze];rfl
   ·have:=bm.eF (len:=(gi b).length) (es:=1) (rc:=c) (cap:=none) aE (by simp[L9]) (by omega) (fun c e=>by cases e) (fun _=>by simp);rw[uJ]at this⊢;exact this
   ·refine Es (aD:=b.data.toList.map fun x=>Value.int .u8 x.toNat) ?_ (ZI _) (fun i ai=>?_) (by rw[L9,uJ];exact U) (by omega) (.inr rfl)
    ·exact Zw aT b.data.toList
    ·rw[L9,uJ]at ai;have:b.data.size=b.size:=rfl;show(b.data.map (fun(y:UInt8)=>Value.int .u8 y.toNat)++Array.replicate (c-b.size) (Value.int .u8 0))[i]?=_;rw[PE (by simp;omega)];simp
 ·cases h
theorem aKH(n:Nat){s:List Nat}(h:s≠[]):zw (n+1) s=(lS s).1::zw n (zv s (lS s).2):=by
 cases s with
 |nil=>exact absurd rfl h
 |cons _ _=>rfl
theorem aJK(n:Nat):zw n []=[]:=by cases n<;>rfl
theorem ao0(s:ByteArray):∀(bound i:Nat) (acc:Array Value),(Conv.runesFrom s bound i acc).toList=acc.toList++(zw bound ((gi s).drop i)).map fun n=>Value.int .i32 (Int.ofNat n)
 |0,_,acc=>by simp[Conv.runesFrom,zw]
 |bound+1,i,acc=>by
  unfold Conv.runesFrom;have au:(gi s).length=s.size:=vq s;split
  ·rename_i h;have he:(gi s).drop i≠[]:=fun he=>by
    have:=lP List.length he;simp[au]at this;omega
   rw[aKH bound he,aoj s i h,si,pH];simp only[ao0 s bound];simp
  ·rename_i h;have:(gi s).drop i=[]:=ve (by omega);rw[this,aJK];simp
theorem amH(M:aW)(k:IntKind):∀(b:List Nat),dq M (b.map fun n=>V.int k (.ofNat n)) (b.map fun n=>Value.int k (Int.ofNat n))
 |[]=>.nil
 |_::b=>.cons (.int _ _) (amH M k b)
theorem aC6{s d e:TypeId}(aA: p.underlying s=some .string)(a3: p.underlying d=some (.slice e))(he: p.underlying e=some (.int .i32)){I:Fr}{x:X}{rx:Value}(ab:bm M (x.a7 I) rx){o:O}{g:P->V}
  (h:O3 e x I=some (o,g)):t2 p M o g (convert s d rx):=fun w=>by
 unfold O3 at h;generalize x.a7 I=q at*;split at h
 ·cases h;cases ab with
  |str b=>
   have uJ:(gi b).length=b.size:=vq b;have aI:=ao0 b b.size 0 #[]
   simp only[iL,nR]at aI;generalize Cv:zw b.size (gi b)=ly at*;have eN:(Conv.runesFrom b b.size 0 #[]).size=ly.length:=by rw[<-Array.length_toList,aI];simp
   obtain⟨c,U,Cz⟩:=apo (p:=p) (Conv.runesFrom b b.size 0 #[]).size 0 e w
   let cells:Array Value:=Conv.runesFrom b b.size 0 #[]++Array.replicate (c-(Conv.runesFrom b b.size 0 #[]).size) (Value.int .i32 0)
   have hK:cells.size=c:=by
    show(Conv.runesFrom b b.size 0 #[]++Array.replicate (c-(Conv.runesFrom b b.size 0 #[]).size) (Value.int .i32 0)).size=c
    simp;omega
   rw[uJ,Cv];refine⟨.cells cells e,(ly.map fun b=>V.int .i32 (.ofNat b)).length,c,.slice (some ⟨w.heap.size,0,none⟩) ly.length c,{w with drawn:=w.drawn+1,heap:=w.heap.push (.cells cells e)},?_,rfl,rfl,rfl,rfl,fun f aT bT aE=>⟨?_,?_⟩⟩
   ·simp only[convert,ja,cW aA,cW a3,cW he,jb,Conv.stringToRunes,Cz];simp[newRow,cells,eN];exact⟨rfl,rfl,rfl⟩
   ·exact bm.eF (len:=ly.length) (es:=1) (rc:=c) (cap:=none) aE (by simp) (by omega) (fun c e=>by cases e) (fun _=>by simp)
   ·refine Es (aD:=ly.map fun n=>Value.int .i32 (Int.ofNat n)) (amH aT .i32 ly) (fun x ab=>?_) (fun i ai=>?_) (by simp;omega) (by omega) (.inl rfl)
    ·obtain⟨n,_,rfl⟩:=List.mem_map.1 ab;rfl
    ·simp at ai;show(Conv.runesFrom b b.size 0 #[]++Array.replicate (c-(Conv.runesFrom b b.size 0 #[]).size) (Value.int .i32 0))[i]?=_
     rw[PE (by omega),<-D2,aI]
 ·cases h
theorem aFz{t:TypeId}{I:Fr}{o:O}{g:P->V}(h:afx I=some (o,g)):t2 p M o g (Instr.makeMap t none):=fun w=>by
 cases h;exact⟨.map #[] 0,0,0,.map (some w.heap.size),w.alloc (.map #[] 0),by simp[Instr.makeMap],rfl,rfl,rfl,rfl,fun f aT bT aE=>⟨.map aE,.obj rfl (a1 _) (.map .nil)⟩⟩
theorem aC7{t:TypeId}(hu: p.underlying t=some .string){I:Fr}{x:X}{rx:Value}(ab:bm M (x.a7 I) rx){o:O}{g:P->V}(h:O5 x I=some (o,g)):t2 p M o g (Instr.range t rx):=fun w=>by
 unfold O5 at h;generalize x.a7 I=q at*;split at h
 ·cases h;cases ab with
  |str b=>
   refine⟨.stringIter b 0,0,0,.pointer (some ⟨w.heap.size,0,none⟩),w.alloc (.stringIter b 0),by simp[Instr.range,cW hu],rfl,rfl,rfl,rfl,fun f aT bT aE=>⟨?_,?_⟩⟩
   ·have:=bm.ptr (M:=aT) 0 0 aE (by simp);simpa using this
   ·have:=nJ.mz (p:=p) (M:=aT) b 0;exact .obj rfl (a1 _) (by simpa using this)
 ·cases h
theorem wrap_small(k:IntKind)(hk:k=.i64)(n:Nat)(h:n<=1099511627776):k.wrap (n:Int)=n:=by
 subst hk;have:=BV .i64 (.ofNat n);simp only[b8]at this;have ah:Nat.blt n 9223372036854775808=true:=by rw[lv];omega
 rw[ah]at this;exact this.symm
theorem aC8{t e:TypeId}{n:Nat}{z:List V}{jI:TypeInfo}(hu: p.underlying t=some (.slice e))(aX: pA p e=some z)(aq:gU p e=some n)(l0:z.length=n)(iR: p.info? e=some jI){I:Fr}{x y:X}{rx ek:Value}
  (ab:bm M (x.a7 I) rx) (ax:bm M (y.a7 I) ek) {o:O} {g:P->V} (h:O4 e n jI.bytes z x y I=some (o,g)):t2 p M o g (Instr.makeSlice t rx ek):=fun w=>by
 unfold O4 at h;split at h
 ·rename_i l au;split at h
  ·rename_i c U;split at h
   ·rename_i ah;simp only[dJ]at ah;obtain⟨⟨h5,hA⟩,nE⟩:=ah;have h5:=iZ h5;have hA:=iZ hA;have nE:=iZ nE;cases h;obtain⟨bW,rfl⟩:=yf au ab;obtain⟨c3,rfl⟩:=yf U ax;obtain⟨aA,kn⟩:=nr aq;obtain⟨da,aI,avR,d0⟩:=Hr aX M;have hlen:=aI.length;have m2:da.cells.size=n:=by rw[<-l0,hlen];simp
    have aqy:=wrap_small .i64 rfl l (by omega);have CA:=wrap_small .i64 rfl c hA;have Au:(Instr.makeSlice t (.int bW l) (.int c3 c)).run p w=.ok (.slice (some ⟨w.heap.size,0,none⟩) l c) (w.alloc (.cells (e2 da.cells.toList c).toArray e)):=by
     have rT:¬(c*n=0) ->(Array.range (c*n)).map (fun i=>da.cells[i%da.cells.size]!)=(e2 da.cells.toList c).toArray:=fun av=>by
      have:=YS da.cells c (by omega);rw[m2]at this⊢;exact this
     have aN:¬((jI.bytes:Int)*(c:Int)>2^48):=by
      have:((jI.bytes*c:Nat):Int)<=((140737488355328:Nat):Int):=Int.ofNat_le.2 nE
      rw[D9]at this;omega
     have bd:¬((l:Int)>(c:Int)):=by omega
     have bO:¬((c:Int)<0):=by omega
     have fY:¬((l:Int)<0):=by omega
     have et:∀(k:IntKind) (m:Int),(asInt (.int k m)).run p w=.ok m w:=fun k m=>by simp[asInt,asIntOf]
     have RP:(typeInfo e).run p w=.ok jI w:=by simp[typeInfo,iR]
     simp only[Instr.makeSlice,ja,cW hu,jb,et,RP,aqy,CA,aN,bd,bO,fY,qw,Lc,iJ,qu,run_askRoom,mC aA,Ld];by_cases av:c*n=0
     ·have sF:c=0:=by
       rcases Nat.mul_eq_zero.1 av with h|h
       ·exact h
       ·exact absurd h kn
      subst sF;simp[newRow,e2];congr 2;apply Array.ext<;>simp
     ·simp only[av,qu,ja,d0 w,pF,jb,rT av];simp[newRow]
    have rE:(e2 da.cells.toList c).length=c*n:=by rw[zW];simp[m2]
    refine⟨.cells (e2 da.cells.toList c).toArray e,(e2 z c).length,(e2 z c).length,_,_,Au,rfl,rfl,rfl,rfl,fun f aT bT aE=>⟨?_,?_⟩⟩
    ·have U:(e2 z c).length=c*n:=by rw[zW,l0]
     exact bm.eF (cap:=some c) aE (by simp[U];exact i0 _ h5) h5 (fun fT e=>by cases e;exact⟨rfl,by simp[U]⟩) (fun e=>by cases e)
    ·exact Es ((Lm aI c).mono bT) (LG avR c) (fun i _=>by simp) (a1 _) (by rw[zW,l0];simp[rE]) (.inl rfl)
   ·cases h
  ·cases h
 ·cases h
theorem alh{N:Nat}{I:Fr}{a:Act}(aE:iX M N I a.tmps)(aC:g0 p M){o:Oper}{i:kg}(U:Ap p N o=some i){cL:O}{g:P->V}(ar:i.f I=some (cL,g)):
  ∃s:Sem Value,t2 p M cL g s/\execOp a.eval o=(do pure (.value (<-s))):=by
 have X:=fun{x kA} (h:di p N x=some kA)=>wM aE aC h;obtain⟨dst,op,type,pos,after,guard⟩:=o;cases op<;>simp only[Ap]at U
 case alloc t=>
  simp only[df,bK]at U;obtain⟨z,aX,n,aq,U⟩:=U;split at U
  ·cases U;exact⟨_,aFy (I:=I) aX ar,rfl⟩
  ·cases U
 case box t x=>
  simp only[df,bK,cN]at U;obtain⟨n,aq,y,ax,rfl⟩:=U;exact⟨_,aAs aq (X ax) ar,rfl⟩
 case buildSlice t len ps=>
  simp only[df,bK]at U;obtain⟨gA,hu,U⟩:=U;split at U
  ·simp only[bK]at U;obtain⟨n,aq,z,aX,hR,aM,U⟩:=U;split at U
   ·rename_i ah;cases U;exact⟨_,aHW aE aC hu aq aX ah.1 ah.2 aM ar,rfl⟩
   ·cases U
  ·cases U
 case convert s d x=>
  simp only[df,bK]at U;obtain⟨y,ax,ds,aA,jJ,a3,U⟩:=U;split at U
  ·simp only[bK]at U;obtain⟨Q2,he,U⟩:=U;split at U
   ·cases U;exact⟨_,aC5 aA a3 he (X ax) ar,rfl⟩
   ·cases U;exact⟨_,aC6 aA a3 he (X ax) ar,rfl⟩
   ·cases U
  ·cases U
 case makeMap t r=>
  cases r with
  |none=>cases U;exact⟨_,aFz (I:=I) ar,rfl⟩
  |some _=>cases U
 case makeSlice t l c=>
  simp only[df,bK]at U;obtain⟨gA,hu,U⟩:=U;split at U
  ·simp only[bK]at U;obtain⟨z,aX,n,aq,U⟩:=U;split at U
   ·rename_i l0;simp only[bK,cN]at U;obtain⟨jI,iR,x,ab,y,ax,rfl⟩:=U;exact⟨_,aC8 hu aX aq l0 iR (X ab) (X ax) ar,rfl⟩
   ·cases U
  ·cases U
 case range t x=>
  simp only[df,bK]at U;obtain⟨gA,hu,U⟩:=U;split at U
  ·simp only[bK,cN]at U;obtain⟨y,ax,rfl⟩:=U;exact⟨_,aC7 hu (X ax) ar,rfl⟩
  ·cases U
 all_goals cases U
theorem aLi{h aa:H}{f:P}{k off:Nat}{aF:List V}(hw:nj h f k off aF=some aa):∃ xs dead ty nB,h.get f=some (.cells xs k dead .rw ty)/\dead<=k/\mO xs off aF=some nB/\aa=h.set f (.cells nB k k .rw ty):=by
 unfold nj at hw;split at hw
 ·rename_i xs aZ dead md ty aC;split at hw
  ·rename_i ah;simp only[dJ]at ah;obtain⟨⟨h5,hA⟩,nE⟩:=ah;have h5:=dI h5;subst h5;have CB:md=.rw:=by cases md<;>first|rfl|(simp[kN.sT]at hA)
   subst CB;split at hw
   ·rename_i nB ab;cases hw;exact⟨xs,dead,ty,nB,aC,iZ nE,ab,rfl⟩
   ·cases hw
  ·cases hw
 ·cases hw
theorem bm.aFA{v:V}{r:Value}(h:bm M v r)(au:v.leaf=true):r.oneCell'=true:=by rw[aLF,h.aHR,au]
theorem dq.Qn:∀{aF:List V} {aD:List Value},dq M aF aD->(∀v∈aF,v.leaf=true) ->∀r∈aD,r.oneCell'=true
 |_,_,.nil,_,_,h=>by cases h
 |_,_,.cons ab bp,au,r,h=>by
  rcases List.mem_cons.1 h with rfl|h
  ·exact ab.aFA (au _ (by simp))
  ·exact bp.Qn (fun v ar=>au v (by simp[ar])) r h
theorem Qz{w:World}{h:H}(r:Rel p M h w.heap){f:P}{k dead:Nat}{xs:List V}{ty:TypeId}{l:Loc}(bT:M f k=some l)(aC:h.get f=some (.cells xs k dead .rw ty))(a3:dead<=k){off n:Nat}(aq:off+n<=l.lim):
  (∀j,j<n->(w.cell? ⟨l.bS,l.base+off+j,none⟩).isSome=true)/\(∀j,j<n->w.frozen? ⟨l.bS,l.base+off+j,none⟩=false):=by
 obtain⟨dO,av⟩:=(r.i5 f k l bT).2.2.2;obtain⟨cr,eB,nb,a6,sV,c,du,U,eN,r7,aX⟩:=r.cells f xs k dead .rw ty dO aC av k a3 (a1 _);rw[bT]at eB;cases eB;refine⟨fun j a5=>?_,fun j a5=>?_⟩
 ·have ay:l.base+off+j<c.size:=by omega
  rw[al5 U (Bz ay)];rfl
 ·have:=aX rfl (off+j) (by omega);simp only[World.frozen?,U];rw[Bool.and_eq_false_iff];simp only[PD];by_cases kG:du.1<=l.base+(off+j)
  ·right;intro ae;exact this ⟨kG,by omega⟩
  ·left;omega
theorem Zx{w:World}{h aa:H}(r:Rel p M h w.heap){f:P}{k off:Nat}{aF:List V}{f2:List Value}{l:Loc}(bT:M f k=some l)(hw:nj h f k off aF=some aa)(ar:dq M aF f2)
  (au:∀v∈aF,v.leaf=true):Step p M h w M aa (w.setCells l.bS (l.base+off) f2)/\(∀j,j<f2.length->(w.cell? ⟨l.bS,l.base+off+j,none⟩).isSome=true)/\
   (∀j,j<f2.length->w.frozen? ⟨l.bS,l.base+off+j,none⟩=false)/\(aF≠[] ->off+aF.length<=l.ext):=by
 obtain⟨xs,dead,ty,nB,aC,a3,ab,rfl⟩:=aLi hw;obtain⟨dO,av⟩:=(r.i5 f k l bT).2.2.2;obtain⟨cr,eB,nb,a6,sV,c,du,U,eN,r7,aX⟩:=r.cells f xs k dead .rw ty dO aC av k a3 (a1 _);rw[bT]at eB;cases eB;have xQ:=(r.i5 f k l bT).2.2.1;have JZ:l.ext=xs.length:=sV (by simp);obtain⟨s1,s2,n0⟩:=LU _ _ _ ab;have aaT:=ar.length;have ev:∀j,j<f2.length->off+f2.length<=xs.length:=fun j a5=>by
  have:aF≠[]:=fun e=>by rw[e]at aaT;simp at aaT;omega
  have:=s2 this;omega
 refine⟨?_,fun j a5=>(Qz r bT aC a3 (by have:=ev j a5;omega)).1 j a5,fun j a5=>(Qz r bT aC a3 (by have:=ev j a5;omega)).2 j a5,fun bV=>by have:=s2 bV;omega⟩;obtain⟨fT,aB,aY,b4,eE⟩:=QR l.bS f2 (l.base+off) w c U;refine step_cells r aC a3 av bT (by simp) ?_ (HA _ _ _ _) (fun b ah=>QW _ _ _ _ ah) (yl _ _ _ _).1 (yl _ _ _ _).2.1 (yl _ _ _ _).2.2;refine⟨nb,by omega,fun _=>by omega,fT,du,aB,by omega,fun i v ai kF=>?_,fun _=>aX rfl⟩;rw[n0 i]at kF;split at kF
 ·rename_i Vf;obtain⟨aL,a,b⟩:=ar.get kF;have Av:i-off<f2.length:=by omega
  have:=eE (i-off) Av (by have:=ev (i-off) Av;omega);refine⟨aL,?_,b,au v (c0 kF)⟩;rw[show l.base+i=l.base+off+(i-off) by omega,this];exact a
 ·rename_i aP3;obtain⟨aL,a,b,d⟩:=r7 i v ai kF;exact⟨aL,by rw[b4 (l.base+i) (by omega)];exact a,b,d⟩
theorem Zf{w:World}{h aa:H}(r:Rel p M h w.heap){f:P}{k off:Nat}{aF:List V}{f2:List Value}{l:Loc}(bT:M f k=some l)(hw:nj h f k off aF=some aa)(ar:dq M aF f2)
  (au:∀v∈aF,v.leaf=true):∃w',(storeCells ⟨l.bS,l.base+off,none⟩ f2).run p w=.ok () w'/\Step p M h w M aa w':=by
 obtain⟨h1,ae,az,_⟩:=Zx r bT hw ar au;have:=run_storeCells_cells (P:=p) l.bS (l.base+off) f2 0 w (by simpa using ae) (by simpa using az) (ar.Qn au);exact⟨_,this,h1⟩
def q7(p:Program)(M:aW)(h:H)(w:World)(v:V)(aa:H)(s:Sem Value):Prop:=
 ∃aT aL w',s.run p w=.ok aL w'/\bm aT v aL/\Step p M h w aT aa w'
def N8(p:Program)(M:aW)(h:H)(w:World)(v:V)(aa:H)(s:Sem Unit):Prop:=
 v=.bk []/\∃aT w',s.run p w=.ok () w'/\Step p M h w aT aa w'
section
variable {w:World}{h aa:H}(r:Rel p M h w.heap){I:Fr}{v:V}
include r
theorem aFB{t:TypeId}{n:Nat}(aq:gU p t=some n){a x:X}{hq rx:Value}(bN:bm M (a.a7 I) hq)(ab:bm M (x.a7 I) rx)(h1:Pv n a x I h=some (v,aa)):
  N8 p M h w v aa (Instr.storeAt t hq rx):=by
 unfold Pv at h1;generalize a.a7 I=apB at*;split at h1
 ·rename_i f k off room;split at h1
  ·rename_i ah;simp only[dJ]at ah;have h5:=dI ah.1;have hA:=iZ ah.2;split at h1
   ·rename_i ae hw;cases h1;obtain⟨aA,kn⟩:=nr aq;have bV:(x.a7 I).cells≠[]:=fun e=>by rw[e]at h5;exact kn h5.symm
    obtain⟨ar,au⟩:=YR ab bV;cases bN with
    |ptr _ _ bT aI=>
     obtain⟨w',aN,bd⟩:=Zf r bT hw ar au;refine⟨rfl,M,w',?_,bd⟩;have eN:rx.cells.size=n:=by rw[<-h5,ar.length];simp
     simp[Instr.storeAt,Instr.sureAddr,storeVar,mC aA,eN,aN]
   ·cases h1
  ·cases h1
 ·cases h1
end
end
abbrev eH:=@Nat.zero_add
section
variable {p:Program}{M:aW}
theorem run_setObj_at{w:World}{b:Nat}{o cu:Obj}(ah:w.heap[b]?=some o)(U:Lk o=false):(setObj b cu).run p w=.ok () {w with heap:=w.heap.setIfInBounds b cu}:=by
 cases o<;>first|(simp[Lk]at U;done)|simp[setObj,Sem.run,ah]
theorem aHX{t:TypeId}{q:Q}(h: pY p t=some q){k ch:V}{hr As:Value}(hk:bm M k hr)(lE:bm M ch As)(he:q.eq k ch=some true):hr=As/\Instr.sameBits 10000 hr hr=true:=by
 rcases LF h with⟨rfl,hu⟩|⟨rfl,k,hu⟩|⟨rfl,hu⟩|⟨rfl,e,n,hu,aq,av⟩
 ·rcases ho.rj hk lE he with⟨e,_⟩|⟨_,a,c,rfl,rfl,ah⟩|⟨e,_⟩
  ·cases e
  ·have:a=c:=by simpa using ah.symm
   subst this;exact⟨rfl,by cases a<;>rfl⟩
  ·cases e
 ·rcases ho.rj hk lE he with⟨_,j,a,c,rfl,rfl,ah⟩|⟨e,_⟩|⟨e,_⟩
  ·have:a=c:=by simpa using ah.symm
   subst this;exact⟨rfl,by simp[Instr.sameBits]⟩
  ·cases e
  ·cases e
 ·rcases ho.rj hk lE he with⟨e,_⟩|⟨e,_⟩|⟨_,a,c,rfl,rfl,ah⟩
  ·cases e
  ·cases e
  ·have:a=c:=by
    have:a.data.toList=c.data.toList:=by simpa using ah.symm
    exact ByteArray.ext (pG this)
   subst this;exact⟨rfl,by simp[Instr.sameBits,XH]⟩
 ·simp only[Q.eq]at he;unfold KH at he;split at he
  ·cases hk;cases lE;exact⟨rfl,by simp[Instr.sameBits]⟩
  ·cases he
  ·cases he
  ·rename_i f k i r g l j s;split at he
   ·rename_i ah;simp only[dJ]at ah;have aN:=x8.1 ah.1;have bd:=dI ah.2;subst aN bd;cases hf:Nat.beq i j with
    |false=>rw[hf]at he;cases he
    |true=>
     have bO:=dI hf;subst bO;cases hk with
     |ptr _ _ bT aI=>cases lE with
      |ptr _ _ Ix oJ=>
       rw[bT]at Ix;cases Ix;exact⟨rfl,by simp[Instr.sameBits]⟩
   ·cases he
  ·cases he
theorem ao1{q:Q}{k:V}:∀{es:List (V×V×Nat)} {i j:Nat} {v:V},findKey q k es i=some (some (j,v)) ->∃d ch b,j=i+d/\es[d]?=some (ch,v,b)/\q.eq k ch=some true
 |[],i,j,v,h=>by cases h
 |(ch,dg,b)::es,i,j,v,h=>by
  unfold findKey at h;split at h
  ·rename_i he;cases h;exact⟨0,ch,b,rfl,rfl,he⟩
  ·obtain⟨d,c3,bU,h1,ae,az⟩:=ao1 h;exact⟨d+1,c3,bU,by omega,by simpa using ae,az⟩
  ·cases h
theorem eK.get{α β:Type}{R:α->β->Prop}:∀{cT:List α} {bs:List β},eK R cT bs->∀{i:Nat} {a:α},cT[i]?=some a->∃b,bs[i]?=some b/\R a b
 |_,_,.nil,_,_,h=>by simp at h
 |_,_,.cons ab t,i,a,h=>by
  cases i with
  |zero=>simp at h;subst h;exact⟨_,by simp,ab⟩
  |succ i=>simp at h;obtain⟨b,h1,ae⟩:=t.get h;exact⟨b,by simpa using h1,ae⟩
theorem eK.modify{α β:Type}{R:α->β->Prop}{f:β->β}{fG:α}:∀{cT:List α} {bs:List β},eK R cT bs->∀{i:Nat},(∀b,bs[i]?=some b->R fG (f b)) ->eK R (cT.set i fG) (bs.modify i f)
 |_,_,.nil,i,_=>by simp;exact .nil
 |_,_,.cons ab t,i,h=>by
  cases i with
  |zero=>simp at h⊢;exact .cons h t
  |succ i=>simp at h⊢;exact .cons ab (t.modify h)
theorem eK.erase{α β:Type}{R:α->β->Prop}:∀{cT:List α} {bs:List β},eK R cT bs->∀(i:Nat),eK R (cT.eraseIdx i) (bs.eraseIdx i)
 |_,_,.nil,i=>by simp;exact .nil
 |_,_,.cons ab t,i=>by
  cases i with
  |zero=>simpa using t
  |succ i=>simp;exact .cons ab (t.erase i)
theorem eK.append{α β:Type}{R:α->β->Prop}:∀{cT:List α} {bs:List β},eK R cT bs->∀{RQ:List α} {aaU:List β},eK R RQ aaU->eK R (cT++RQ) (bs++aaU)
 |_,_,.nil,_,_,h=>h
 |_,_,.cons ab t,_,_,h=>.cons ab (t.append h)
section
variable {w:World}{h aa:H}(r:Rel p M h w.heap){I:Fr}{v:V}
include r
theorem BB{f:P}{es:List (V×V×Nat)}{gE:Nat}(aC:h.get f=some (.map es gE)){l:Loc}(bT:M f 0=some l):∃aD,w.heap[l.bS]?=some (.map aD gE)/\eK (s7 M) es aD.toList:=by
 obtain⟨_,cL,ae,az⟩:=r.oh f _ l aC rfl bT;cases az with
 |map aE=>exact⟨_,ae,aE⟩
theorem amI{t nu e:TypeId}{q:Q}(hu: p.underlying t=some (.map nu e))(aM: pY p nu=some q){m k x:X}{gw hr rx:Value}(hm:bm M (m.a7 I) gw)(hk:bm M (k.a7 I) hr)(ab:bm M (x.a7 I) rx)
  (h1:P1 q m k x I h=some (v,aa)):N8 p M h w v aa (Instr.mapUpdate t gw hr rx):=by
 unfold P1 at h1;generalize m.a7 I=z2 at*;split at h1
 ·rename_i f;split at h1
  ·rename_i es gE aC;cases hm with
   |map bT=>
    rename_i l;obtain⟨aD,ah,dw⟩:=BB r aC bT;split at h1
    ·rename_i i v0 aE;obtain⟨hV,d0,g3⟩:=Hi aM hk dw aE;obtain⟨d,ch,b,a3,he,heq⟩:=ao1 aE;simp only[eH]at a3;subst a3;rw[BH,he]at h1;cases h1;cases hV with
     |none=>exact g3.elim
     |some fl=>
      obtain⟨yo,aL⟩:=fl;obtain⟨rfl,-⟩:=g3;obtain⟨rs,aaV,lE,kF,mJ⟩:=dw.get he;obtain⟨aN,bd⟩:=aHX aM hk lE heq;have avS:aD[i]?=some rs:=by rw[<-D2];exact aaV
      refine⟨rfl,M,{w with heap:=w.heap.setIfInBounds l.bS (.map (aD.modify i fun e=>{e with key:=hr,val:=rx}) gE)},?_,BU r bT aC rfl ?_ rfl rfl rfl rfl⟩
      ·have aAt:(Instr.keyThatStays rs.key hr).run p w=.ok hr w:=by
        rw[<-aN];simp[Instr.keyThatStays,bd]
       simp[Instr.mapUpdate,cW hu,ns ah rfl,zY aM,d0 w,avS,aAt,run_setObj_at ah rfl]
      ·refine .map ?_;rw[al3,Array.toList_modify];refine dw.modify fun b2 tG=>?_;rw[aaV]at tG;cases tG;exact⟨aN▸lE,ab,mJ⟩
    ·rename_i aE;obtain⟨hV,d0,g3⟩:=Hi aM hk dw aE;cases h1;cases hV with
     |some fl=>exact g3.elim
     |none=>
      refine⟨rfl,M,{w with heap:=w.heap.setIfInBounds l.bS (.map (aD.push {key:=hr,val:=rx,born:=gE}) (gE+1))},?_,BU r bT aC rfl ?_ rfl rfl rfl rfl⟩
      ·simp[Instr.mapUpdate,cW hu,ns ah rfl,zY aM,d0 w,run_setObj_at ah rfl]
      ·refine .map ?_;rw[Array.toList_push];exact dw.append (.cons ⟨hk,ab,rfl⟩ .nil)
    ·cases h1
  ·cases h1
 ·cases h1
theorem aAu{t nu e ty:TypeId}{q:Q}{dZ:Array TypeId}(dU:dZ[0]?=some t)(hu: p.underlying t=some (.map nu e))(aM: pY p nu=some q){m k:X}{gw hr:Value}(hm:bm M (m.a7 I) gw)(hk:bm M (k.a7 I) hr)
  (h1:JX q m k I h=some (v,aa)):q7 p M h w v aa (Builtin.delete_ dZ ty #[gw,hr]):=by
 unfold JX at h1;generalize m.a7 I=z2 at*;split at h1
 ·cases h1;cases hm;exact⟨M,_,w,by simp[Builtin.delete_,dU,cW hu,zY aM],.bk .nil,.refl r rfl rfl rfl rfl⟩
 ·rename_i f;split at h1
  ·rename_i es gE aC;cases hm with
   |map bT=>
    rename_i l;obtain⟨aD,ah,dw⟩:=BB r aC bT;split at h1
    ·rename_i i v0 aE;obtain⟨hV,d0,g3⟩:=Hi aM hk dw aE;cases h1;cases hV with
     |none=>exact g3.elim
     |some fl=>
      obtain⟨yo,aL⟩:=fl;obtain⟨rfl,-⟩:=g3;refine⟨M,.tuple #[],{w with heap:=w.heap.setIfInBounds l.bS (.map (aD.eraseIdxIfInBounds i) gE)},?_,.bk .nil,BU r bT aC rfl ?_ rfl rfl rfl rfl⟩
      ·simp[Builtin.delete_,dU,cW hu,ns ah rfl,zY aM,d0 w,run_setObj_at ah rfl]
      ·refine .map ?_;rw[Array.toList_eraseIdxIfInBounds];exact dw.erase i
    ·rename_i aE;obtain⟨hV,d0,g3⟩:=Hi aM hk dw aE;cases h1;cases hV with
     |some fl=>exact g3.elim
     |none=>
      refine⟨M,.tuple #[],{w with heap:=w.heap.setIfInBounds l.bS (.map aD gE)},?_,.bk .nil,.refl r ?_ rfl rfl rfl⟩
      ·simp[Builtin.delete_,dU,cW hu,ns ah rfl,zY aM,d0 w,run_setObj_at ah rfl]
      ·show w.heap.setIfInBounds l.bS (.map aD gE)=w.heap;apply Array.ext_getElem?;intro i;rw[XE];split
       ·rename_i e;subst e;rw[ah];have:=r.lt bT;simp[this]
       ·rfl
    ·cases h1
  ·cases h1
 ·cases h1
theorem aC9{t nu e ty:TypeId}{dZ:Array TypeId}(dU:dZ[0]?=some t)(hu: p.underlying t=some (.map nu e)){m:X}{gw:Value}(hm:bm M (m.a7 I) gw)
  (h1:O9 m I h=some (v,aa)):q7 p M h w v aa (Builtin.clear_ dZ ty #[gw]):=by
 unfold O9 at h1;generalize m.a7 I=z2 at*;split at h1
 ·cases h1;cases hm;exact⟨M,_,w,by simp[Builtin.clear_,dU,cW hu],.bk .nil,.refl r rfl rfl rfl rfl⟩
 ·rename_i f;split at h1
  ·rename_i es gE aC;cases hm with
   |map bT=>
    rename_i l;obtain⟨aD,ah,dw⟩:=BB r aC bT;cases h1;refine⟨M,.tuple #[],{w with heap:=w.heap.setIfInBounds l.bS (.map #[] gE)},?_,.bk .nil,BU r bT aC rfl (.map .nil) rfl rfl rfl rfl⟩
    simp[Builtin.clear_,dU,cW hu,ns ah rfl,run_setObj_at ah rfl]
  ·cases h1
 ·cases h1
end
end
abbrev nS:=@Nat.eq_zero_or_pos
abbrev GJ:=@List.any_eq_true
abbrev BC:=@Nat.beq_refl
abbrev PF:=@Array.toList_filter
section
variable {p:Program}{M:aW}{w:World}{h aa:H}(r:Rel p M h w.heap){I:Fr}{v:V}
include r
theorem aDa{t nu e:TypeId}(hu: p.underlying t=some (.map nu e)){x:X}{rx:Value}(ab:bm M (x.a7 I) rx)(h1:KN x I h=some (v,aa)):q7 p M h w v aa (Instr.range t rx):=by
 unfold KN at h1;generalize x.a7 I=q at*;have fin:∀{o:O} {cL:Obj},nJ p (M.add h.next 0 ⟨w.heap.size,0,0,0⟩) o cL->(Instr.range t rx).run p w=.ok (.pointer (some ⟨w.heap.size,0,none⟩)) (w.alloc cL) ->
   q7 p M h w (.ptr h.next 0 0 0) (h.new o) (Instr.range t rx):=fun{o cL} a6 d0=>by
  refine⟨M.add h.next 0 ⟨w.heap.size,0,0,0⟩,_,w.alloc cL,d0,?_,Hg r rfl (.obj rfl (a1 _) a6) rfl rfl rfl rfl⟩;have:=bm.ptr (M:=M.add h.next 0 ⟨w.heap.size,0,0,0⟩) 0 0 (aW.add_same M h.next 0 ⟨w.heap.size,0,0,0⟩) (by simp);simpa using this
 split at h1
 ·cases h1;cases ab;exact fin (.PB (seen:=#[])) (by simp[Instr.range,cW hu])
 ·rename_i m;split at h1
  ·rename_i es gE aC;cases h1;cases ab with
   |map bT=>
    rename_i l;obtain⟨aD,ah,dw⟩:=BB r aC bT;refine fin (.kI (seen:=#[]) (aW.qo (r.sk 0) _ _ _ bT)) (by simp[Instr.range,cW hu,ns ah rfl])
  ·cases h1
 ·cases h1
omit r in
theorem eK.filter{α β:Type}{R:α->β->Prop}{g:α->Bool}{bR:β->Bool}(aC:∀a b,R a b->g a=bR b):∀{cT:List α} {bs:List β},eK R cT bs->eK R (cT.filter g) (bs.filter bR)
 |_,_,.nil=>.nil
 |a::cT,b::bs,.cons ab t=>by
  simp only[List.filter_cons,aC a b ab];split
  ·exact .cons ab (t.filter aC)
  ·exact t.filter aC
omit r in
theorem eK.all{α β:Type}{R:α->β->Prop}{g:α->Bool}{bR:β->Bool}(aC:∀a b,R a b->g a=bR b):∀{cT:List α} {bs:List β},eK R cT bs->cT.all g=bs.all bR
 |_,_,.nil=>rfl
 |a::cT,b::bs,.cons ab t=>by simp[aC a b ab,t.all aC]
omit r in
theorem eK.find{α β:Type}{R:α->β->Prop}{g:α->Bool}{bR:β->Bool}(aC:∀a b,R a b->g a=bR b):∀{cT:List α} {bs:List β},eK R cT bs->∀{a:α},cT.find? g=some a->∃b,bs.find? bR=some b/\R a b
 |_,_,.nil,_,h=>by cases h
 |a::cT,b::bs,.cons ab t,x,h=>by
  simp only[List.find?_cons,<-aC a b ab]at h⊢;split at h
  ·cases h;exact⟨b,rfl,ab⟩
  ·exact t.find aC h
omit r in
theorem LH{f:P}{k room:Nat}{rx:Value}{o:O}(r:Rel p M h w.heap)(ab:bm M (.ptr f k 0 room) rx)(aC:h.get f=some o)(U:o.k2=false):
  ∃l cL,M f 0=some l/\rx=.pointer (some ⟨l.bS,0,none⟩)/\w.heap[l.bS]?=some cL/\nJ p M o cL:=by
 cases ab with
 |ptr _ _ bT aI=>
  rename_i l;have hk:k=0:=by
   rcases nS k with h|h
   ·exact h
   ·rw[r.po f o k aC U h]at bT;cases bT
  subst hk;obtain⟨ah,cL,ae,az⟩:=r.oh f o l aC U bT;exact⟨l,cL,bT,by rw[ah],ae,az⟩
theorem aAv{ty:TypeId}{s:Bool}{x:X}{rx:Value}(ab:bm M (x.a7 I) rx)(h1:F0 s x I h=some (v,aa)):q7 p M h w v aa (Instr.next rx s ty):=by
 unfold F0 at h1;generalize x.a7 I=q at*;split at h1
 ·rename_i f k room;split at h1
  ·rename_i str pos aC;obtain⟨l,cL,bT,rfl,ah,a6⟩:=LH r ab aC rfl;cases a6 with
   |mz b=>
    have uJ:(gi b).length=b.size:=vq b;cases s with
    |false=>cases h1
    |true=>
     simp only[FZ]at h1;split at h1
     ·rename_i he;cases h1;have:b.size<=pos:=by
       have:=lP List.length he;simp[uJ]at this;omega
      exact⟨M,_,w,by simp[Instr.next,ns ah rfl,Nat.not_lt.2 this],.bk (.cons (.bool _) .nil),.refl r rfl rfl rfl rfl⟩
     ·rename_i he;cases h1;have ay: pos<b.size:=by
       rcases dz pos b.size with h|h
       ·exact h
       ·exact absurd (ve (by omega)) he
      rw[aoj b pos ay,si,pH];exact⟨M,_,{w with heap:=w.heap.setIfInBounds l.bS (.stringIter b (pos+(Utf8.decode b pos).2))},by simp[Instr.next,ns ah rfl,ay,run_setObj_at ah rfl,goInt],
       .bk (.cons (.bool _) (.cons (.int _ _) (.cons (.int _ _) .nil))),BU r bT aC rfl (.mz b _) rfl rfl rfl rfl⟩
  ·rename_i aC;obtain⟨l,cL,bT,rfl,ah,a6⟩:=LH r ab aC rfl;cases a6 with
   |PB=>
    cases s with
    |true=>cases h1
    |false=>
     cases h1;exact⟨M,_,w,by simp[Instr.next,ns ah rfl],.bk (.cons (.bool _) .nil),.refl r rfl rfl rfl rfl⟩
  ·rename_i m since seen last aC;obtain⟨l,cL,bT,rfl,ah,a6⟩:=LH r ab aC rfl;cases a6 with
   |kI yO=>
    rename_i lm seen;cases s with
    |true=>cases h1
    |false=>
     simp only[afy]at h1;split at h1
     ·rename_i es gE tH;obtain⟨aD,CC,dw⟩:=BB r tH yO;split at h1
      ·cases h1
      ·rename_i wg;have u2:es.all (fun e=>Nat.ble last e.2.2)=aD.all (fun e=>decide (e.born>=last)):=by
        rw[<-Array.all_toList];refine dw.all fun a b ⟨_,_,e⟩=>?_;rw[e,i9,Nat.ble_eq];simp
       have Vg:es.isEmpty=aD.isEmpty:=by
        rw[show aD.isEmpty=aD.toList.isEmpty by simp];generalize aD.toList=cr at dw;cases dw<;>rfl
       have aAw:seen.toList.isEmpty=seen.isEmpty:=by simp
       rw[u2,Vg,aAw]at wg;have Vh:∀n,seen.toList.any (Nat.beq n)=seen.contains n:=fun n=>by
        rw[i9,GJ,Array.contains_iff_mem];constructor
        ·rintro⟨x,ab,e⟩;have:=dI e;subst this;simpa using ab
        ·intro h;exact⟨n,by simpa using h,BC n⟩
       have Gt:eK (s7 M) (es.filter fun e=>!seen.toList.any (Nat.beq e.2.2)) (aD.filter fun e=>!seen.contains e.born).toList:=by
        rw[PF];refine dw.filter fun a b ⟨_,_,e⟩=>?_;rw[e,Vh]
       have hold:eK (s7 M) ((es.filter fun e=>!seen.toList.any (Nat.beq e.2.2)).filter (fun e=>Nat.blt e.2.2 since)) ((aD.filter fun e=>!seen.contains e.born).filter fun e=>decide (e.born<since)).toList:=by
        rw[PF];refine Gt.filter fun a b ⟨_,_,e⟩=>?_;rw[e,i9,lv];simp
       have hh:eK (s7 M) ((es.filter fun e=>!seen.toList.any (Nat.beq e.2.2)).filter (fun e=>Nat.ble since e.2.2)) ((aD.filter fun e=>!seen.contains e.born).filter fun e=>decide (e.born>=since)).toList:=by
        rw[PF];refine Gt.filter fun a b ⟨_,_,e⟩=>?_;rw[e,i9,Nat.ble_eq];simp
       split at h1
       ·rename_i aN bd;rw[aN]at hold;rw[bd]at hh;cases h1;have f1:((aD.filter fun e=>!seen.contains e.born).filter fun e=>decide (e.born<since))=#[]:=by
         have:=hold.length;simpa using this.symm
        have cq:((aD.filter fun e=>!seen.contains e.born).filter fun e=>decide (e.born>=since))=#[]:=by
         have:=hh.length;simpa using this.symm
        refine⟨M,_,w,?_,.bk (.cons (.bool false) .nil),.refl r rfl rfl rfl rfl⟩;simp only[Instr.next,ja,ns ah rfl,jb,ns CC rfl,f1,cq,wg,iJ,qu];simp[Question.forced]
       ·rename_i fa v0 b2 aN bd;rw[aN]at hold;rw[bd]at hh;cases h1;obtain⟨rs,f1,az,bo,cb⟩:∃rs,((aD.filter fun e=>!seen.contains e.born).filter fun e=>decide (e.born<since))=#[rs]/\s7 M (fa,v0,b2) rs:=by
         generalize ((aD.filter fun e=>!seen.contains e.born).filter fun e=>decide (e.born<since))=A at hold
         cases gB:A.toList with
         |nil=>rw[gB]at hold;cases hold
         |cons y cV=>
          rw[gB]at hold;cases hold with
          |cons ab bp=>
           cases bp;exact⟨y,pG (by simpa using gB),ab⟩
        have cq:((aD.filter fun e=>!seen.contains e.born).filter fun e=>decide (e.born>=since))=#[]:=by
         have:=hh.length;simpa using this.symm
        refine⟨M,.tuple #[.bool true,rs.key,rs.val],{w with heap:=w.heap.setIfInBounds l.bS (.mapIter (some lm.bS) since (seen.push rs.born) gE)},?_,
         .bk (.cons (.bool true) (.cons az (.cons bo .nil))),BU r bT aC rfl ?_ rfl rfl rfl rfl⟩
        ·simp only[Instr.next,ja,ns ah rfl,jb,ns CC rfl,f1,cq,wg,iJ,qu];simp[Question.forced,run_setObj_at ah rfl]
        ·have:=nJ.kI (p:=p) (since:=since) (st:=gE) (seen:=seen.push rs.born) yO;have aqz:rs.born=b2:=cb.symm;rw[Array.toList_push]at this;rw[<-aqz];exact this
       ·cases h1
     ·cases h1
  ·cases h1
 ·cases h1
theorem aFC{x:X}{rx:Value}(ab:bm M (x.a7 I) rx)(h1:K5 x I h=some (v,aa)):q7 p M h w v aa (Instr.entry rx):=by
 unfold K5 at h1;generalize x.a7 I=q at*;split at h1
 ·rename_i f k room;split at h1
  ·rename_i m since seen X4 aC;obtain⟨l,cL,bT,rfl,ah,a6⟩:=LH r ab aC rfl;cases a6 with
   |kI yO=>
    rename_i lm seen;split at h1
    ·rename_i es gE tH;obtain⟨aD,CC,dw⟩:=BB r tH yO;split at h1
     ·rename_i b nO;split at h1
      ·rename_i Vi;have Vi:=dI Vi;split at h1
       ·rename_i fa v0 b2 W9;cases h1;obtain⟨rs,ae,az,bo,cb⟩:=dw.find (bR:=fun e=>e.born==b) (fun a c ⟨_,_,e⟩=>by rw[e,i9,Nat.beq_eq];simp) W9;refine⟨M,.tuple #[rs.key,rs.val],w,?_,.bk (.cons az (.cons bo .nil)),.refl r rfl rfl rfl rfl⟩
        have KS:seen.back?=some b:=by rw[<-Array.getLast?_toList];exact nO
        have aqA:aD.find? (fun e=>e.born==b)=some rs:=by rw[<-Array.find?_toList];exact ae
        simp[Instr.entry,ns ah rfl,KS,ns CC rfl,Vi,aqA]
       ·cases h1
      ·cases h1
     ·cases h1
    ·cases h1
  ·cases h1
 ·cases h1
end
abbrev oq:=@Nat.mul_assoc
section
variable {p:Program}{M:aW}
structure Dq(p:Program)(e:TypeId)(es bytes:Nat)(z:Value)(dZ:Array TypeId)(ty:TypeId)(x:Value)(n:Nat)(news:List Value)(w:World):Prop where
 nothing:n=0->∀(base:Option Addr) (jE mw:Nat),jE<=mw->(Builtin.append_ dZ ty #[.slice base jE mw,x]).run p w=.ok (.slice base jE mw) w
 room:∀(b off jE mw:Nat),jE+n<=mw->(∀j,j<news.length->(w.cell? ⟨b,off+jE*es+j,none⟩).isSome=true) ->(∀j,j<news.length->w.frozen? ⟨b,off+jE*es+j,none⟩=false) ->
  (Builtin.append_ dZ ty #[.slice (some ⟨b,off,none⟩) jE mw,x]).run p w=.ok (.slice (some ⟨b,off,none⟩) (jE+n) mw) (w.setCells b (off+jE*es) news)
 grow:∀(base:Option Addr) (jE mw:Nat) (olds:List Value),(Builtin.firstCells es jE (.slice base jE mw)).run p w.drew=.ok olds.toArray w.drew->mw<jE+n->n≠0->jE+n<=1099511627776->
  (jE+n)*bytes<=1099511627776->(Builtin.append_ dZ ty #[.slice base jE mw,x]).run p w=.ok (.slice (some ⟨w.heap.size,0,none⟩) (jE+n) (grownCap w (jE+n) mw e))
   (w.drew.alloc (.cells ((olds++news).toArray++Builtin.zeroCells z.cells (grownCap w (jE+n) mw e-(jE+n))) e))
theorem aKI{mP old:Nat}(h:old<mP):Builtin.nextslicecap mP old<=2*mP+192:=by
 unfold Builtin.nextslicecap;split
 ·omega
 ·split
  ·omega
  ·rw[growBy_four]
   repeat' split
   all_goals omega
theorem anC{mP old bytes:Nat}(h:old<mP)(h1:mP<=1099511627776)(ae:mP*bytes<=1099511627776):Builtin.nextslicecap mP old*bytes<=281474976710656:=by
 have:=aKI h;have az:Builtin.nextslicecap mP old*bytes<=(2*mP+192)*bytes:=i0 _ this;have bo:(2*mP+192)*bytes=2*(mP*bytes)+192*bytes:=by rw[eP,oq]
 have cb:bytes<=mP*bytes:=Nat.le_mul_of_pos_left _ (by omega);omega
theorem Dq.aAx{e t yp ty:TypeId}{i:TypeInfo}{z:Value}(bp: p.underlying t=some (.slice e))(ai: p.info? e=some i)(aX:i.zero=some z){x:Value}{n:Nat}{news:List Value}{w:World}(aA:Src p i.size yp x n news w):
  Dq p e i.size i.bytes z #[t,yp] ty x n news w where
 nothing:=fun av base jE mw hle=>by
  subst av;have j8:news=[]:=List.length_eq_zero_iff.1 (by have:=aA.newsLen;omega);subst j8;exact run_append_nothing w t yp ty e i bp ai base jE mw hle x aA
 room:=fun b off jE mw aI U aE=>run_append_room_src w t yp ty e i bp ai b off jE mw x n news aA aI U aE
 grow:=fun base jE mw olds hold aC _ h1 ae=>run_append_grow_src w t yp ty e i z bp ai aX base jE mw olds hold x n news aA aC (by omega) (anC aC h1 ae)
theorem QS(z:Value)(aX:z.cells.size≠0)(n:Nat):Builtin.zeroCells z.cells n=(e2 z.cells.toList n).toArray:=YS z.cells n aX
theorem al6{z:List Value}(h:∀u∈z,u.oneCell'=true):∀n,∀u∈e2 z n,u.oneCell'=true
 |0,_,hu=>by cases hu
 |n+1,u,hu=>by
  rcases List.mem_append.1 hu with aa|aa
  ·exact h u aa
  ·exact al6 h n u aa
theorem Dq.aFD{e t yp ty:TypeId}{i:TypeInfo}{z:Value}{k HJ:IntKind}(bp: p.underlying t=some (.slice e))(MD: p.underlying yp=some (.int k))(ai: p.info? e=some i)(aX:i.zero=some z)(aM3:z.cells.size=i.size)(qT:i.size≠0)
  (avT:∀u∈z.cells.toList,u.oneCell'=true) {n:Nat} {w:World} (aq:n<=1099511627776) (aaW:n*i.bytes<=1099511627776):Dq p e i.size i.bytes z #[t,yp] ty (.int HJ n) n (e2 z.cells.toList n) w:=by
 have hw:IntKind.i64.wrap (n:Int)=n:=wrap_small .i64 rfl n aq;have xR:¬((n:Int)<0):=by omega
 have avU:¬(281474976710656<(n:Int)*(i.bytes:Int)):=by
  rw[<-D9];omega
 refine⟨fun av base jE mw hle=>?_,fun b off jE mw aI U aE=>?_,fun base jE mw olds hold aC av h1 ae=>?_⟩
 ·subst av;have RR:IntKind.i64.wrap 0=0:=hw;cases base<;>simp[Builtin.append_,cW bp,cW MD,sizeOf,typeInfo,zeroValue,ai,aX,asInt,asIntOf,RR,hle,storeCells]
 ·have mm:=run_storeCells_cells (P:=p) b (off+jE*i.size) (e2 z.cells.toList n) 0 w (by simpa using U) (by simpa using aE) (al6 avT n);simp only[ud]at mm;have xk:¬(n*i.size=0) ->Builtin.zeroCells z.cells n=(e2 z.cells.toList n).toArray:=fun _=>QS z (by omega) n;by_cases Cv:n*i.size=0
  ·have kn:n=0:=by
    rcases Nat.mul_eq_zero.1 Cv with h|h
    ·exact h
    ·exact absurd h qT
   subst kn;have RR:IntKind.i64.wrap 0=0:=hw;have hle:jE<=mw:=by omega
   simp[Builtin.append_,cW bp,cW MD,sizeOf,typeInfo,zeroValue,ai,aX,asInt,asIntOf,RR,hle,storeCells,e2,World.setCells]
  ·simp[Builtin.append_,cW bp,cW MD,sizeOf,typeInfo,zeroValue,ai,aX,asInt,asIntOf,hw,xR,avU,aI,Cv,xk Cv,wP,mm]
 ·have Cv:¬(n*i.size=0):=Nat.mul_ne_zero av qT;have:=Go.Lib.run_append_grow_zeros (P:=p) w t yp ty e i z HJ k bp MD ai aX base jE mw olds hold n (by omega) (by omega) aC (by omega) (by omega) (anC aC h1 ae);rw[this,QS z (by omega) n];simp
end
abbrev GK:=@Nat.ble_eq_true_of_le
abbrev nT:=@Bool.and_self
abbrev g5:=@List.take_length
section
variable {p:Program}{M:aW}
theorem grownCap_ge(w:World)(mP old:Nat)(e:TypeId):mP<=grownCap w mP old e:=by
 simp[grownCap,Question.cut]
theorem YT{w w':World}{h:H}(r:Rel p M h w.heap)(hw:w'.heap=w.heap){f:P}{k off len es rc:Nat}{cap:Option Nat}{a:Addr}(ab:bm M (.ag f k off len es cap) (.slice (some a) len rc)){old:List V}
  (a6:lu (live h f k) off (len*es)=some old):
  ∃olds,dq M old olds/\(∀c∈old,c.leaf=true)/\old.length=len*es/\(Builtin.firstCells es len (.slice (some a) len rc)).run p w'=.ok olds.toArray w'/\
   (rc≠0->∀j v,olds[j]?=some v->w'.cell? (a.add j)=some v):=by
 cases ab with
 |ag bT au bN hlen hk hu=>
  rename_i l;rw[<-hw]at r;obtain⟨aD,g3,rE,xj,nN,pB⟩:=L2 r bT au a6;have aaX:=g3.length;refine⟨aD,g3,nN,by omega,?_,fun av=>?_⟩
  ·rcases bN with bN|bN
   ·subst bN;have mK:len=0:=by omega
    subst mK;have:aD=[]:=List.length_eq_zero_iff.1 (by omega);subst this;simp[Builtin.firstCells,loadCells,loadCellsFrom]
   ·subst bN;simp only[Builtin.firstCells];exact xj
  ·have rB:=bN.resolve_left av;subst rB;intro j v a5;rw[wP];exact pB j v a5
theorem re.aFE{l:Loc}{xs:List V}{ty:TypeId}{cL:Obj}{bh:Array Obj}(h:re p M l (.cells xs 0 0 .rw ty) cL)(ah:bh[l.bS]?=some cL):ou p M xs .rw ty true l bh:=by
 cases h with
 |cells nb he au mJ U aX=>exact⟨fun _=>nb,by omega,fun _=>he,_,_,ah,mJ,fun i v _ ab=>U i v ab,fun _=>aX⟩
 |obj _ _ aI=>have:=aI.X9.1;simp[O.k2]at this
section
variable {w:World}{h aa:H}(r:Rel p M h w.heap){e es n bytes:Nat}{new:List V}{sZ:List Value}{z:Value}{dZ:Array TypeId}{ty:TypeId}{x:Value}
theorem PG{old:List V}{olds:List Value}(hold:dq M old olds)(aaX:∀c∈old,c.leaf=true)(hh:dq M new sZ)(qU:∀c∈new,c.leaf=true){len G:Nat}(kG:old.length=len*es)(pe:new.length=n*es)
  (mD:len+n<=G) (aX:z.cells.size=es) (av:es≠0) (b:Nat):
  re p M ⟨b,0,(old++new).length,G*es⟩ (.cells (old++new) 0 0 .rw e) (.cells ((olds++sZ).toArray++Builtin.zeroCells z.cells (G-(len+n))) e):=by
 have h1:=hold.length;have ae:=hh.length;have RS:Builtin.zeroCells z.cells (G-(len+n))=(e2 z.cells.toList (G-(len+n))).toArray:=QS z (by omega) _;have eN:((olds++sZ).toArray++Builtin.zeroCells z.cells (G-(len+n))).size=G*es:=by
  rw[RS];have:(e2 z.cells.toList (G-(len+n))).length=(G-(len+n))*es:=by rw[zW];simp[aX]
  simp[this];rw[<-h1,<-ae,kG,pe,<-eP,<-eP];congr 1;omega
 refine Es (aD:=olds++sZ) (hold.append hh) (fun c U=>?_) (fun i ai=>?_) ?_ (by omega) (.inl rfl)
 ·rcases List.mem_append.1 U with U|U
  ·exact aaX c U
  ·exact qU c U
 ·rw[PE (by simp at ai⊢;omega)];simp
 ·rw[fi,kG,pe,<-eP];exact i0 _ mD
include r
theorem al7(iS:D1 p e=false)(J0:es≠0)(aX:z.cells.size=es)(eN:gM p e=some es)(gB:Dq p e es bytes z dZ ty x n sZ w)(hh:dq M new sZ)(qU:∀c∈new,c.leaf=true)(pe:new.length=n*es){bg v:V}{hq:Value}
  (bN:bm M bg hq) (h1:append h e es bytes n new bg=some (v,aa)):q7 p M h w v aa (Builtin.append_ dZ ty #[hq,x]):=by
 have rE:=hh.length;unfold append at h1;split at h1
 ·
  cases bN;split at h1
  ·rename_i av;have av:=dI av;cases h1;exact⟨M,_,w,gB.nothing av none 0 0 (a1 _),.al,.refl r rfl rfl rfl rfl⟩
  ·rename_i av;have av:n≠0:=fun e=>by subst e;cases av
   split at h1
   ·rename_i ah;simp only[dJ]at ah;have h5:=iZ ah.1;have hA:=iZ ah.2;cases h1;have d0:=gB.grow none 0 0 [] (by simp[Builtin.firstCells]) (by omega) av (by omega) (by simpa using hA);have mD:=grownCap_ge w (0+n) 0 e;have rU:=PG (p:=p) (M:=M) (e:=e) (old:=[]) (olds:=[]) .nil (fun _ h=>by cases h) hh qU (len:=0) (by simp) pe mD aX J0 w.heap.size;simp only[nR]at rU d0;refine⟨_,_,_,d0,?_,Hg r (l:=⟨w.heap.size,0,new.length,grownCap w (0+n) 0 e*es⟩) rfl (rU.mono (aW.qo (r.sk 0))) rfl rfl rfl rfl⟩;have:=bm.eF (len:=n) (es:=es) (rc:=grownCap w (0+n) 0 e) (cap:=none) (aW.add_same M h.next 0 ⟨w.heap.size,0,new.length,grownCap w (0+n) 0 e*es⟩) (by omega) (by omega) (fun c e=>by cases e) (fun _=>a1 _);simpa using this
   ·cases h1
 ·rename_i f k off len jA cap;split at h1
  ·rename_i ah;simp only[dJ]at ah;obtain⟨⟨h5,hA⟩,nE⟩:=ah;have h5:=dI h5;have hA:=iZ hA;have nE:=iZ nE;subst h5;have rG:=bN;cases bN with
   |ag bT au Dr hlen hk hu=>
    rename_i l rc a;split at h1
    ·rename_i av;have av:=dI av;cases h1;exact⟨M,_,w,gB.nothing av _ _ _ hlen,rG,.refl r rfl rfl rfl rfl⟩
    ·rename_i av;have av:n≠0:=fun e=>by subst e;cases av
     have bV:new≠[]:=fun e=>by
      subst e;rcases Nat.mul_eq_zero.1 pe.symm with h|h
      ·exact av h
      ·exact J0 h
     have room:len+n<=rc->a=⟨l.bS,l.base+off,none⟩:=fun h=>Dr.resolve_left (by omega);split at h1
     ·
      rename_i c;obtain⟨MA,JZ⟩:=hk c rfl;subst MA;unfold FY at h1;split at h1
      ·rename_i kY;have kY:=iZ kY;have wD:=room kY;subst wD;split at h1
       ·rename_i ae hw;cases h1;obtain⟨mm,nD,tD,RI⟩:=Zx r bT hw hh qU;have ev:=RI bV;have aN:l.base+(off+len*es)=l.base+off+len*es:=by omega
        rw[aN]at mm nD tD;refine⟨M,_,_,gB.room _ _ _ _ kY nD tD,?_,mm⟩;refine .ag bT ?_ (.inr rfl) kY hk (fun e=>by cases e);rw[eP];omega
       ·cases h1
      ·rename_i kY;have kY:rc<len+n:=by
        rcases dz rc (len+n)with h|h
        ·exact h
        ·have:=GK h;rw[this]at kY;cases kY
       split at h1
       ·rename_i old hold;cases h1;obtain⟨olds,IE,yP,tI,IF,_⟩:=YT (w':=w.drew) r rfl rG hold;have d0:=gB.grow (some a) len rc olds IF kY av hA nE;have mD:=grownCap_ge w (len+n) rc e;have rU:=PG (p:=p) (M:=M) (e:=e) IE yP hh qU tI pe mD aX J0 w.heap.size;refine⟨_,_,_,d0,?_,Hg r (l:=⟨w.heap.size,0,(old++new).length,grownCap w (len+n) rc e*es⟩) rfl (rU.mono (aW.qo (r.sk 0))) rfl rfl rfl rfl⟩;exact bm.eF (cap:=none) (aW.add_same M h.next 0 ⟨w.heap.size,0,(old++new).length,grownCap w (len+n) rc e*es⟩) (by rw[fi,tI,pe,eP];exact a1 _) mD (fun c e=>by cases e) (fun _=>a1 _)
       ·cases h1
     ·
      have xQ:=hu rfl;unfold FX at h1;split at h1
      ·rename_i xs aZ dead md gF aC;split at h1
       ·rename_i ah;simp only[dJ]at ah;obtain⟨⟨⟨i6,km⟩,ME⟩,xl⟩:=ah;have i6:=dI i6;have ME:=dI ME;have xl:=iZ xl;have CB:md=.rw:=by cases md<;>first|rfl|(simp[kN.sT]at km)
        subst i6 ME CB;obtain⟨dO,h4⟩:=(r.i5 f k l bT).2.2.2;have aRm:=(r.i5 f k l bT).2.2.1;obtain⟨cr,eB,nb,a6,sV,c,du,U,aP4,r7,RT⟩:=r.cells f xs k dead .rw e dO aC h4 k xl (a1 _);rw[bT]at eB;cases eB;have JZ:l.ext=xs.length:=sV (by simp);have kJ:live h f k=some xs:=by
         unfold live;rw[aC];simp only[O.live,GK xl,GK (a1 k),nT]
        split at h1
        ·rename_i ah;simp only[dJ]at ah;have h5:=dI ah.1;have avV:=dI ah.2;subst avV;cases h1;have ln:len*es=xs.length:=by omega
         by_cases kY:len+n<=rc
         ·have wD:=room kY;subst wD;have hmul:(len+n)*es<=rc*es:=i0 _ kY;have aAy:=hmul;rw[eP]at hmul;obtain⟨nD,tD⟩:=Qz r bT aC xl (off:=len*es) (n:=sZ.length) (by omega);have d0:=gB.room l.bS (l.base+0) len rc kY (by simpa using nD) (by simpa using tD);obtain⟨fT,aB,aY,b4,eE⟩:=QR l.bS sZ (l.base+0+len*es) w c U;have zA:(xs++new).length=(len+n)*es:=by rw[fi,pe,<-ln,eP]
          refine⟨_,_,_,d0,?_,amE r (cr:=⟨l.bS,l.base,(xs++new).length,l.lim⟩) aC xl h4 bT ?_ ?_ ?_ ?_ (.inl ⟨rfl,rfl,fun b ah _=>QW _ _ _ _ ah,fun mh elem aP5 av=>?_⟩)
           (yl _ _ _ _).1 (yl _ _ _ _).2.1 (yl _ _ _ _).2.2⟩
          ·exact .ag (l:=⟨l.bS,l.base,(xs++new).length,l.lim⟩) (aW.add_same _ _ _ _) (by simp only;omega) (.inr rfl) kY (fun c e=>by cases e) (fun _=>xQ)
          ·refine⟨nb,a1 _,fun _=>rfl,fT,du,aB,by simp only;omega,fun i v ai ar=>?_,fun _=>RT rfl⟩;by_cases qS:i<xs.length
           ·rw[nP qS]at ar;obtain⟨aL,bj,a8,cc⟩:=r7 i v (by omega) ar;exact⟨aL,by rw[b4 _ (by simp only;omega)];exact bj,a8,cc⟩
           ·rw[oo (by omega)]at ar;obtain⟨aL,bj,a8⟩:=hh.get ar;have Av:i-xs.length<sZ.length:=by
             rcases dz (i-xs.length) sZ.length with h|h
             ·exact h
             ·rw[ei h]at bj;cases bj
            refine⟨aL,?_,a8,qU v (c0 ar)⟩;rw[show l.base+i=l.base+0+len*es+(i-xs.length) by omega,eE _ Av (by omega)];exact bj
          ·simp only;omega
          ·rw[HA];exact a1 _
          ·rw[HA];exact(r.lt bT:l.bS<w.heap.size)
          ·rw[U]at av;cases av;exact⟨fT,aB,aY,fun i ai=>b4 i (.inl (by omega))⟩
         ·have kY:rc<len+n:=by omega
          have hold:lu (live h f k) 0 (len*es)=some xs:=by
           rw[kJ,ln];simp only[lu,range,si,iL];rw[Ze _ _ (a1 _),g5]
          obtain⟨olds,IE,yP,tI,IF,_⟩:=YT (w':=w.drew) r rfl rG hold;have d0:=gB.grow (some a) len rc olds IF kY av hA nE;have mD:=grownCap_ge w (len+n) rc e;have rU:=PG (p:=p) (M:=M) (e:=e) IE yP hh qU tI pe mD aX J0 w.heap.size;have Xa:∀cL,(w.heap.push cL)[w.heap.size]?=some cL:=fun cL=>by simp
          have zA:(xs++new).length=(len+n)*es:=by rw[fi,pe,<-ln,eP]
          refine⟨_,_,_,d0,?_,amE r (cr:=⟨w.heap.size,0,(xs++new).length,grownCap w (len+n) rc e*es⟩) aC xl h4 bT (rU.aFE (Xa _)) ?_ ?_ ?_ (.inr ⟨rfl,fun b ah=>?_⟩) rfl rfl rfl⟩
          ·exact .ag (l:=⟨w.heap.size,0,(xs++new).length,grownCap w (len+n) rc e*es⟩) (aW.add_same _ _ _ _) (by simp only;omega) (.inr rfl) mD (fun c e=>by cases e) (fun _=>by simp)
          ·rw[zA];exact i0 _ mD
          ·show w.heap.size<=(w.heap.push _).size;simp
          ·show w.heap.size<(w.heap.push _).size;simp
          ·show(w.heap.push _)[b]?=_;rw[wL];simp;omega
        ·split at h1
         ·rename_i old hold;cases h1;unfold Xz at hold;split at hold
          ·rename_i RU;have RU:=dI RU;have W7:lu (live h f k) off (len*es)=some old:=by rw[kJ];exact hold
           obtain⟨olds,IE,yP,tI,IF,_⟩:=YT (w':=w.drew) r rfl rG W7;have zA:(old++new).length=(len+n)*es:=by rw[fi,pe,tI,eP]
           by_cases kY:len+n<=rc
           ·have wD:=room kY;subst wD;have hmul:(len+n)*es<=rc*es:=i0 _ kY;have aAy:=hmul;rw[eP]at hmul;obtain⟨nD,tD⟩:=Qz r bT aC xl (off:=off+len*es) (n:=sZ.length) (by omega);have aN:l.base+(off+len*es)=l.base+off+len*es:=by omega
            rw[aN]at nD tD;have d0:=gB.room l.bS (l.base+off) len rc kY nD tD;obtain⟨fT,aB,aY,b4,eE⟩:=QR l.bS sZ (l.base+off+len*es) w c U;refine⟨_,_,_,d0,?_,anu r (cr:=⟨l.bS,l.base+off,(old++new).length,rc*es⟩) aC xl h4 bT aB ?_ ?_ ?_ (.inl ⟨rfl,fun b ah _=>QW _ _ _ _ ah⟩)
             (yl _ _ _ _).1 (yl _ _ _ _).2.1 (yl _ _ _ _).2.2⟩
            ·exact .ag (l:=⟨l.bS,l.base+off,(old++new).length,rc*es⟩) (aW.add_same _ _ _ _) (by simp only;omega) (.inr rfl) kY (fun c e=>by cases e) (fun _=>by simp)
            ·refine .cells ⟨fun s aA=>?_,fun hm=>by rw[iS]at hm;cases hm⟩ rfl (by simp only;omega) (by simp only;omega) (fun i v ar=>?_) (fun i ai=>?_)
             ·rw[eN]at aA;cases aA;simp only;rw[Nat.add_mod,(nb (by simp)).1 es eN,RU];simp
             ·simp only;by_cases qS:i<old.length
              ·rw[nP qS]at ar;unfold range at hold;obtain⟨aq,hK⟩:=He _ _ hold;rw[si]at aq hK;simp at aq;have RV:xs[off+i]?=some v:=by
                rw[hK,qp (by omega),qq]at ar;exact ar
               obtain⟨aL,bj,a8,cc⟩:=r7 (off+i) v (by
                rw[JZ];rcases dz (off+i) xs.length with h|h
                ·exact h
                ·rw[ei h]at RV;cases RV) RV
               exact⟨aL,by rw[b4 _ (by omega),qs];exact bj,a8,cc⟩
              ·rw[oo (by omega)]at ar;obtain⟨aL,bj,a8⟩:=hh.get ar;have Av:i-old.length<sZ.length:=by
                rcases dz (i-old.length) sZ.length with h|h
                ·exact h
                ·rw[ei h]at bj;cases bj
               refine⟨aL,?_,a8,qU v (c0 ar)⟩;rw[show l.base+off+i=l.base+off+len*es+(i-old.length) by omega,eE _ Av (by omega)];exact bj
             ·simp only at ai⊢;have:=RT rfl (off+i) (by omega);rw[<-qs]at this;exact this
            ·rw[HA];exact a1 _
            ·rw[HA];exact(r.lt bT:l.bS<w.heap.size)
           ·have kY:rc<len+n:=by omega
            have d0:=gB.grow (some a) len rc olds IF kY av hA nE;have mD:=grownCap_ge w (len+n) rc e;have rU:=PG (p:=p) (M:=M) (e:=e) IE yP hh qU tI pe mD aX J0 w.heap.size;have Xa:∀cL,(w.heap.push cL)[w.heap.size]?=some cL:=fun cL=>by simp
            refine⟨_,_,_,d0,?_,anu r (cr:=⟨w.heap.size,0,(old++new).length,grownCap w (len+n) rc e*es⟩) aC xl h4 bT (Xa _) rU ?_ ?_ (.inr ⟨rfl,fun b ah=>?_⟩) rfl rfl rfl⟩
            ·exact .ag (l:=⟨w.heap.size,0,(old++new).length,grownCap w (len+n) rc e*es⟩) (aW.add_same _ _ _ _) (by simp only;omega) (.inr rfl) mD (fun c e=>by cases e) (fun _=>by simp)
            ·show w.heap.size<=(w.heap.push _).size;simp
            ·show w.heap.size<(w.heap.push _).size;simp
            ·show(w.heap.push _)[b]?=_;rw[wL];simp;omega
          ·cases hold
         ·cases h1
       ·cases h1
      ·cases h1
  ·cases h1
 ·cases h1
end
end
abbrev G2:=@List.map_take
section
variable {p:Program}{M:aW}
theorem anD{w:World}{h:H}(r:Rel p M h w.heap){es m n:Nat}{hF:V}{gW:Value}(ah:bm M hF gW)(hm:uc hF=some m)(aq:n<=m){cs:List V}(U:sh h es n hF=some cs):
  (∀w',(Builtin.lenOf gW).run p w'=.ok m w')/\∃n7,dq M cs n7/\(∀c∈cs,c.leaf=true)/\cs.length=n*es/\∀w':World,w'.heap=w.heap->(Builtin.firstCells es n gW).run p w'=.ok n7.toArray w':=by
 unfold uc at hm;split at hm
 ·cases hm;cases ah;have kn:n=0:=by omega
  subst kn;simp only[sh]at U;cases U;exact⟨fun _=>rfl,[],.nil,(fun _ h=>by cases h),by simp,fun w' _=>by simp[Builtin.firstCells]⟩
 ·rename_i f k off len jA cap;cases hm;simp only[sh]at U;split at U
  ·rename_i xm;simp only[dJ]at xm;have h5:=dI xm.1;subst h5;cases ah with
   |ag bT au bN hlen hk hu=>
    rename_i l rc a;refine⟨fun _=>rfl,?_⟩;have hmul:n*es<=m*es:=i0 _ aq;obtain⟨aD,g3,rE,-,nN,pB⟩:=L2 r bT (by omega) U;have kp:=g3.length;refine⟨aD,g3,nN,by omega,fun w' IG=>?_⟩;have W8:(loadCells ⟨l.bS,l.base+off,none⟩ (n*es)).run p w'=.ok aD.toArray w':=by
     have:=run_loadCells_list (P:=p) w' ⟨l.bS,l.base+off,none⟩ aD (fun j v a5=>by
      rw[wP];have:=pB j v a5;simpa[World.cell?,IG]using this)
     rw[rE]at this;exact this
    rcases bN with bN|bN
    ·subst bN;have kn:n=0:=by omega
     subst kn;have:aD=[]:=List.length_eq_zero_iff.1 (by omega);subst this;simp[Builtin.firstCells,loadCells,loadCellsFrom]
    ·subst bN;simp only[Builtin.firstCells];exact W8
  ·cases U
 ·cases hm;simp only[sh]at U;split at U
  ·rename_i h5;have h5:=dI h5;subst h5;cases ah with
   |str b=>
    have uJ:(gi b).length=b.size:=vq b;split at U
    ·rename_i gk oK;cases U;obtain⟨-,rfl⟩:=He _ _ oK;refine⟨fun _=>by rw[uJ];rfl,(b.data.toList.take n).map fun x=>Value.int .u8 x.toNat,?_,ZI _,by rw[L9,el];omega,fun w' _=>?_⟩
     ·have:(gi b).take n=(b.data.toList.take n).map UInt8.toNat:=by simp[gi,G2]
      rw[this];exact Zw M _
     ·simp only[Builtin.firstCells,pF];congr 1;apply pG;simp
    ·cases U
  ·cases U
 ·cases hm
theorem aok{t:TypeId}{z:List V}(h: pA p t=some z)(M:aW):∃jI da,p.info? t=some jI/\jI.zero=some da/\dq M z da.cells.toList/\(∀c∈z,c.leaf=true):=by
 simp only[pA,df,bK]at h;obtain⟨jI,iR,da,m2,l,aX,h⟩:=h;split at h
 ·rename_i au;cases h;exact⟨jI,da,iR,m2,Ey (LC M 20) _ aX,by simpa using au⟩
 ·cases h
section
variable {w:World}{h aa:H}(r:Rel p M h w.heap){I:Fr}{v:V}
include r
theorem akw{t fk e ty:TypeId}(iS:D1 p e=false){es:Nat}{z:List V}{jI:TypeInfo}(hu: p.underlying t=some (.slice e))(aq:gU p e=some es)(aX: pA p e=some z)(l0:z.length=es)(iR: p.info? e=some jI)
  (hk:(∃cD,p.underlying fk=some (.slice cD))\/p.underlying fk=some .string) {a b:X} {hq gW:Value} (bN:bm M (a.a7 I) hq) (ah:bm M (b.a7 I) gW) (h1:JW e es jI.bytes a b I h=some (v,aa)):
  q7 p M h w v aa (Builtin.append_ #[t,fk] ty #[hq,gW]):=by
 unfold JW at h1;obtain⟨aA,av⟩:=nr aq;obtain⟨RP,da,J1,m2,uI,J2⟩:=aok aX M;rw[iR]at J1;cases J1;have eN:jI.size=es:=by simpa[gM,iR]using aA
 have N9:da.cells.size=es:=by rw[<-l0,uI.length];simp
 split at h1
 ·rename_i n rG;split at h1
  ·rename_i new hh;obtain⟨hlen,n7,g3,nN,kp,PH⟩:=anD r ah rG (a1 _) hh;have Oa:Src p jI.size fk gW n n7 w:=⟨hk,hlen,by rw[eN];exact PH w rfl,by rw[eN];exact PH w.drew rfl,by rw[eN,<-kp,g3.length],g3.Qn nN⟩;have gB:=Dq.aAx (ty:=ty) hu iR m2 Oa;rw[eN]at gB;exact al7 r iS av N9 aA gB g3 nN kp bN h1
  ·cases h1
 ·cases h1
theorem aDb{t fk e ty:TypeId}(iS:D1 p e=false){k:IntKind}{es:Nat}{z:List V}{jI:TypeInfo}(hu: p.underlying t=some (.slice e))(aq:gU p e=some es)(aX: pA p e=some z)(l0:z.length=es)(iR: p.info? e=some jI)
  (hk: p.underlying fk=some (.int k)) {a b:X} {hq gW:Value} (bN:bm M (a.a7 I) hq) (ah:bm M (b.a7 I) gW) (h1:O6 e es jI.bytes z a b I h=some (v,aa)):
  q7 p M h w v aa (Builtin.append_ #[t,fk] ty #[hq,gW]):=by
 unfold O6 at h1;obtain⟨aA,av⟩:=nr aq;obtain⟨RP,da,J1,m2,uI,J2⟩:=aok aX M;rw[iR]at J1;cases J1;have eN:jI.size=es:=by simpa[gM,iR]using aA
 have N9:da.cells.size=es:=by rw[<-l0,uI.length];simp
 split at h1
 ·rename_i n avW;split at h1
  ·rename_i hA;simp only[dJ]at hA;have nE:=iZ hA.1;have vK:=iZ hA.2;obtain⟨HJ,rfl⟩:=yf avW ah;have gB:=Dq.aFD (ty:=ty) (HJ:=HJ) hu hk iR m2 (by omega) (by omega) (uI.Qn J2) (w:=w) nE vK;rw[eN]at gB;exact al7 r iS av N9 aA gB (Lm uI n) (LG J2 n) (by rw[zW,l0]) bN h1
  ·cases h1
 ·cases h1
theorem aDc{t e ty:TypeId}{es:Nat}{dZ:Array TypeId}(dU:dZ[0]?=some t)(hu: p.underlying t=some (.slice e))(aq:gU p e=some es){a b:X}{hq gW:Value}(bN:bm M (a.a7 I) hq)(ah:bm M (b.a7 I) gW)
  (h1:O7 es a b I h=some (v,aa)):q7 p M h w v aa (Builtin.copy_ dZ ty #[hq,gW]):=by
 obtain⟨aA,av⟩:=nr aq;unfold O7 at h1;generalize a.a7 I=apB at*;generalize b.a7 I=HK at*;have ali:∀{m:Nat},uc HK=some m->(∀w',(Builtin.lenOf gW).run p w'=.ok m w')/\(Builtin.firstCells es 0 gW).run p w=.ok #[] w:=fun{m} hm=>by
  unfold uc at hm;split at hm
  ·cases hm;cases ah;exact⟨fun _=>rfl,by simp[Builtin.firstCells]⟩
  ·cases hm;cases ah;exact⟨fun _=>rfl,by simp[Builtin.firstCells,loadCells,loadCellsFrom]⟩
  ·cases hm;cases ah with
   |str b=>exact⟨fun _=>by rw[vq];rfl,by simp[Builtin.firstCells]⟩
  ·cases hm
 split at h1
 ·cases bN;split at h1
  ·rename_i m hm;cases h1;obtain⟨bj,a8⟩:=ali hm;have J3:Nat.min m 0=0:=by simp
   exact⟨M,.int .i64 (Int.ofNat 0),w,by simp[Builtin.copy_,dU,cW hu,bj w,mC aA,a8,goInt],.int _ _,.refl r rfl rfl rfl rfl⟩
  ·cases h1
 ·rename_i f k off len jA cap;split at h1
  ·rename_i m hm;cases bN with
   |ag bT au Dr hlen hk sD=>
    rename_i l rc fG;split at h1
    ·rename_i aX;have aX:=dI aX;cases h1;obtain⟨bj,a8⟩:=ali hm;exact⟨M,.int .i64 (Int.ofNat 0),w,by simp[Builtin.copy_,dU,cW hu,bj w,mC aA,aX,a8,goInt,storeCells],.int _ _,.refl r rfl rfl rfl rfl⟩
    ·rename_i aX;split at h1
     ·rename_i m4;have m4:=dI m4;subst m4;split at h1
      ·rename_i cs hK;split at h1
       ·rename_i ae hw;cases h1;obtain⟨zA,n7,g3,nN,kp,PH⟩:=anD r ah hm (Nat.min_le_left _ _) hK;obtain⟨w',aN,bd⟩:=Zf r bT hw g3 nN;have pq:Nat.min m len≠0:=fun e=>by rw[e]at aX;cases aX
        have hle:Nat.min m len<=len:=Nat.min_le_right _ _;have wD:=Dr.resolve_left (by omega);subst wD;refine⟨M,.int .i64 (Int.ofNat (Nat.min m len)),w',?_,.int _ _,bd⟩;simp[Builtin.copy_,dU,cW hu,zA w,mC aA,PH w rfl,goInt,aN]
       ·cases h1
      ·cases h1
     ·cases h1
  ·cases h1
 ·cases h1
theorem aDd{t e ty:TypeId}{es:Nat}{z:List V}{dZ:Array TypeId}(dU:dZ[0]?=some t)(hu: p.underlying t=some (.slice e))(aq:gU p e=some es)(aX: pA p e=some z)(l0:z.length=es){x:X}{rx:Value}(ab:bm M (x.a7 I) rx)
  (h1:O8 es z x I h=some (v,aa)):q7 p M h w v aa (Builtin.clear_ dZ ty #[rx]):=by
 obtain⟨aA,av⟩:=nr aq;obtain⟨da,uI,J2,d0⟩:=Hr aX M;have N9:da.cells.size=es:=by rw[<-l0,uI.length];simp
 unfold O8 at h1;generalize x.a7 I=q at*;split at h1
 ·cases h1;cases ab;exact⟨M,.tuple #[],w,by simp[Builtin.clear_,dU,cW hu],.bk .nil,.refl r rfl rfl rfl rfl⟩
 ·rename_i f k off len jA cap;cases ab with
  |ag bT au Dr hlen hk sD=>
   rename_i l rc fG;split at h1
   ·rename_i xk;have xk:=dI xk;subst xk;cases h1;exact⟨M,.tuple #[],w,by simp[Builtin.clear_,dU,cW hu],.bk .nil,.refl r rfl rfl rfl rfl⟩
   ·rename_i xk;have xk:len≠0:=fun e=>by subst e;cases xk
    split at h1
    ·rename_i m4;have m4:=dI m4;subst m4;split at h1
     ·rename_i ae hw;cases h1;obtain⟨w',aN,bd⟩:=Zf r bT hw (Lm uI len) (LG J2 len);have wD:=Dr.resolve_left (by omega);subst wD;refine⟨M,.tuple #[],w',?_,.bk .nil,bd⟩
      obtain⟨gN,rfl⟩:∃gN,len=gN+1:=⟨len-1,by omega⟩;have RS:=QS da (by omega) (gN+1);simp[Builtin.clear_,dU,cW hu,d0 w,RS,aN]
     ·cases h1
    ·cases h1
 ·cases h1
end
end
abbrev eQ:=@List.length_map
section
variable {p:Program}{M:aW}
theorem aLj(w:World)(b o n:Nat){c:Array Value}{e:TypeId}{lW:Nat×Nat}(ah:w.heap[b]?=some (.cells c e lW))(aq:n≠0):
  (∃RW,(w.freeze ⟨b,o,none⟩ n).heap[b]?=some (.cells c e RW))/\(∀b3,b3≠b->(w.freeze ⟨b,o,none⟩ n).heap[b3]?=w.heap[b3]?)/\(w.freeze ⟨b,o,none⟩ n).heap.size=w.heap.size/\
   (w.freeze ⟨b,o,none⟩ n).os=w.os/\(w.freeze ⟨b,o,none⟩ n).output=w.output/\(w.freeze ⟨b,o,none⟩ n).tape=w.tape:=by
 simp only[World.freeze,bf aq];refine⟨⟨_,by rw[K8,bl rfl,ah];rfl⟩,fun b3 h=>by rw[K8,bf (kv h)],by simp,?_,?_,?_⟩<;>simp
theorem YC(dZ:Array TypeId)(ty:TypeId)(Q3:Option Addr)(x:Value){t:TypeId}(dU:dZ[0]?=some t)(w:World){k:IntKind}{n:Nat}(ab:x=.int k n)(aq:n<=1099511627776):
  (Builtin.unsafeString_ dZ ty #[.pointer Q3,x]).run p w=(if n=0 then(pure (.string .empty):Sem Value)else match Q3 with
   |none=>runtimePanic (.error "unsafe.String: ptr is nil and len is not zero")
   |some a=>do
    if<-variablesAt a (<-elemOf t) n then do
     let s<-loadBytes a .empty n
     freeze a n
     pure (.string s)
    else unsupported (.unsafePointer "String: not so many bytes at ptr")).run p w:=by
 subst ab;have Ve:IntKind.i64.max=9223372036854775807:=rfl;have h1:¬((n:Int)<0):=by omega
 have ae:¬((n:Int)>9223372036854775807):=by omega
 have et:∀w,(asInt (.int k (n:Int))).run p w=.ok (n:Int) w:=fun w=>by simp[asInt,asIntOf]
 cases Q3 with
 |none=>
  rw[show Builtin.unsafeString_ dZ ty #[.pointer none,.int k n]=(asInt (.int k n)>>=_) from rfl]
  simp only[ja,et,jb,dU,Ve,bf h1,bf ae,Int.natCast_eq_zero]
 |some a=>
  rw[show Builtin.unsafeString_ dZ ty #[.pointer (some a),.int k n]=(asInt (.int k n)>>=_) from rfl]
  simp only[ja,et,jb,dU,Ve,bf h1,bf ae,Int.natCast_eq_zero,Ld]
section
variable {w:World}{h aa:H}(r:Rel p M h w.heap){I:Fr}{v:V}
include r
theorem aDe{t e ty:TypeId}{dZ:Array TypeId}(dU:dZ[0]?=some t)(hu: p.underlying t=some (.pointer e))(pf:gU p e=some 1){a b:X}{hq gW:Value}(bN:bm M (a.a7 I) hq)(ah:bm M (b.a7 I) gW)
  (h1:Pa e a b I h=some (v,aa)):q7 p M h w v aa (Builtin.unsafeString_ dZ ty #[hq,gW]):=by
 obtain⟨aA,_⟩:=nr pf;unfold Pa at h1;split at h1
 ·rename_i aq;obtain⟨k,rfl⟩:=yf aq ah;split at h1
  ·rename_i f k off room aM;rw[aM]at bN;cases h1;cases bN;exact⟨M,.string .empty,w,(YC dZ ty _ _ dU w (n:=0) rfl (by omega)).trans (by simp),.str .empty,.refl r rfl rfl rfl rfl⟩
  ·rename_i aM;rw[aM]at bN;cases h1;cases bN;exact⟨M,.string .empty,w,(YC dZ ty _ _ dU w (n:=0) rfl (by omega)).trans (by simp),.str .empty,.refl r rfl rfl rfl rfl⟩
  ·cases h1
 ·rename_i n aq;obtain⟨il,rfl⟩:=yf aq ah;split at h1
  ·rename_i f k off room aM;rw[aM]at bN;split at h1
   ·rename_i xs aZ dead md gF aC;split at h1
    ·rename_i xm;simp only[dJ]at xm;obtain⟨⟨⟨⟨h5,hA⟩,nE⟩,vK⟩,E7⟩:=xm;have h5:=dI h5;have hA:=iZ hA;have nE:=dI nE;have vK:=iZ vK;have E7:=iZ E7;subst h5 nE;have main:md≠.ro->(match range xs off (n+1)with|some cs=>(match zL cs with|some s=>some (V.str s,h.set f (.cells xs k k .lW e))|none=>none)|none=>none)=some (v,aa) ->
       q7 p M h w v aa (Builtin.unsafeString_ dZ ty #[hq,.int il (n+1:Nat)]):=fun pc h1=>by
      split at h1
      ·rename_i cs hK;split at h1
       ·rename_i s mm;cases h1;cases bN with
        |ptr _ _ bT aI=>
         rename_i l;obtain⟨dO,h4⟩:=(r.i5 f k l bT).2.2.2;have xQ:=(r.i5 f k l bT).2.2.1;obtain⟨cr,eB,nb,a6,sV,c,du,U,eN,r7,RT⟩:=r.cells f xs k dead md e dO aC h4 k vK (a1 _);rw[bT]at eB;cases eB;have kJ:live h f k=some xs:=by
          unfold live;rw[aC];simp only[O.live,GK vK,GK (a1 k),nT]
         have Vj:lu (live h f k) off (n+1)=some cs:=by rw[kJ];exact hK
         obtain⟨aD,g3,rE,xj,nN,pB⟩:=L2 r bT (by omega) Vj;obtain⟨ly,aN,bd,bO⟩:=ZH mm g3;subst aN bd;have rG:s.length=n+1:=by simpa using rE
         have qP:=Go.Lib.run_loadBytes (P:=p) w (s.map UInt8.ofNat) ⟨l.bS,l.base+off,none⟩ .empty (fun j x ab=>by
          rw[wP];refine pB j _ ?_;rw[ij]at ab;cases MF:s[j]? with
          |none=>rw[MF]at ab;cases ab
          |some y=>
           rw[MF]at ab;simp at ab;subst ab;have:=bO y (c0 MF);simp[MF];omega)
         rw[eQ,rG]at qP;have aqB:=apu (p:=p) U aA (by omega) (n+1) (o:=l.base+off) (Nat.mod_one _) (by simp only[Nat.div_one];omega);obtain⟨⟨RW,f1⟩,cq,aR,bZ,bu,cj⟩:=aLj w l.bS (l.base+off) (n+1) U (by omega);refine⟨M,.string ⟨(s.map UInt8.ofNat).toArray⟩,w.freeze ⟨l.bS,l.base+off,none⟩ (n+1),?_,?_,step_cells r aC vK h4 bT pc ?_ aR cq bZ bu cj⟩
         ·refine(YC dZ ty _ _ dU w (n:=n+1) rfl E7).trans ?_;have he:(elemOf t).run p w=.ok e w:=by simp[elemOf,cW hu]
          simp only[bf (Nat.succ_ne_zero n),ja,he,jb,aqB,qt,qP,run_freeze,pF];simp
         ·have:gi ⟨(s.map UInt8.ofNat).toArray⟩=s:=by
           simp only[gi,D7]
           conv=>rhs;rw[<-List.map_id s]
           apply By;intro a bN;have:=bO a bN;simp;omega
          conv=>lhs;rw[<-this]
          exact .str _
         ·exact⟨fun _=>nb pc,a6,fun _=>sV (by simp),c,RW,f1,eN,r7,fun h=>by cases h⟩
       ·cases h1
      ·cases h1
     split at h1
     ·cases h1
     ·rename_i pc;exact main pc h1
    ·cases h1
   ·cases h1
  ·cases h1
 ·cases h1
end
end
end Go.ao
