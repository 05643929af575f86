/- A part of the proof that ProofForms holds for every input. -/
import GoSem.Step
import Derived.Laws.IdiomCopy
import Derived.Laws.Cells
import Derived.Laws.Slices
import Derived.Laws.Strings2
import Derived.Laws.StructEq
import Derived.IntWalk
set_option maxRecDepth 100000
set_option maxHeartbeats 4000000
set_option linter.all false
noncomputable section
namespace Go.ao
abbrev an:=@inferInstance
inductive D where|z1|d1|d2|nt|oy|ur|qF|HD
 deriving DecidableEq,Repr,Inhabited
structure fj(α:Type) where
 a:α
 b:α
 c:α
 d:α
 e:α
 f:α
 g:α
 h:α
 deriving Inhabited
abbrev P:=List D
def D.s{α:Type}(d:D):fj α->α:=@D.rec (fun _=>fj α->α) fj.a fj.b fj.c fj.d fj.e fj.f fj.g fj.h d
def QX{α:Type}(k:α->α)(t:fj α):fj α:=@fj.rec α (fun _=>fj α) (fun a b c d e f g h=>⟨k a,b,c,d,e,f,g,h⟩) t
def vr{α:Type}(k:α->α)(t:fj α):fj α:=@fj.rec α (fun _=>fj α) (fun a b c d e f g h=>⟨a,k b,c,d,e,f,g,h⟩) t
def oZ{α:Type}(k:α->α)(t:fj α):fj α:=@fj.rec α (fun _=>fj α) (fun a b c d e f g h=>⟨a,b,k c,d,e,f,g,h⟩) t
def tj{α:Type}(k:α->α)(t:fj α):fj α:=@fj.rec α (fun _=>fj α) (fun a b c d e f g h=>⟨a,b,c,k d,e,f,g,h⟩) t
def pN{α:Type}(k:α->α)(t:fj α):fj α:=@fj.rec α (fun _=>fj α) (fun a b c d e f g h=>⟨a,b,c,d,k e,f,g,h⟩) t
def mV{α:Type}(k:α->α)(t:fj α):fj α:=@fj.rec α (fun _=>fj α) (fun a b c d e f g h=>⟨a,b,c,d,e,k f,g,h⟩) t
def Mb{α:Type}(k:α->α)(t:fj α):fj α:=@fj.rec α (fun _=>fj α) (fun a b c d e f g h=>⟨a,b,c,d,e,f,k g,h⟩) t
def QY{α:Type}(k:α->α)(t:fj α):fj α:=@fj.rec α (fun _=>fj α) (fun a b c d e f g h=>⟨a,b,c,d,e,f,g,k h⟩) t
def D.u{α:Type}(d:D):(α->α) ->fj α->fj α:=@D.rec (fun _=>(α->α) ->fj α->fj α) QX vr oZ tj pN mV Mb QY d
inductive cA (α:Type) where|e|n (v:Option α) (c:fj (cA α))
instance {α:Type}:Inhabited (cA α):=⟨.e⟩
def cA.gL{α:Type}:fj (cA α):=⟨.e,.e,.e,.e,.e,.e,.e,.e⟩
def cA.val{α:Type}(t:cA α):Option α:=match t with|.e=>none|.n v _=>v
def cA.hJ{α:Type}(t:cA α):fj (cA α):=match t with|.e=>cA.gL|.n _ c=>c
def cA.avF{α:Type}(t:cA α):Option α:=@cA.casesOn α (fun _=>Option α) t none fun v _=>v
def cA.avG{α:Type}(d:D)(ih:cA α->Option α)(t:cA α):Option α:=@cA.casesOn α (fun _=>Option α) t none fun _ c=>ih (d.s c)
def cA.avH{α:Type}(x:α)(t:cA α):cA α:=@cA.casesOn α (fun _=>cA α) t (.n (some x) cA.gL) fun _ c=>.n (some x) c
def cA.UX{α:Type}(d:D)(ih:cA α->cA α)(t:cA α):cA α:=@cA.casesOn α (fun _=>cA α) t (.n none (d.u ih cA.gL)) fun v c=>.n v (d.u ih c)
def cA.get{α:Type}(k:P):cA α->Option α:=
 @List.rec D (fun _=>cA α->Option α) cA.avF (fun d _ ih=>cA.avG d ih) k
def cA.set{α:Type}(x:α)(k:P):cA α->cA α:=
 @List.rec D (fun _=>cA α->cA α) (cA.avH x) (fun d _ ih=>cA.UX d ih) k
def D.val(d:D):Nat:=match d with|.z1=>0|.d1=>1|.d2=>2|.nt=>3|.oy=>4|.ur=>5|.qF=>6|.HD=>7
def D.of(n:Nat):D:=match n with|0=>.z1|1=>.d1|2=>.d2|3=>.nt|4=>.oy|5=>.ur|6=>.qF|_=>.HD
def rb:P->P
 |[]=>[.d1]
 |.z1::k=>.d1::k
 |.d1::k=>.d2::k
 |.d2::k=>.nt::k
 |.nt::k=>.oy::k
 |.oy::k=>.ur::k
 |.ur::k=>.qF::k
 |.qF::k=>.HD::k
 |.HD::k=>.z1::rb k
def aH:P->Nat
 |[]=>0
 |d::k=>d.val+8*aH k
def ae7:Nat->Nat->P
 |0,_=>[]
 |f+1,n=>match n with
  |0=>[]
  |m+1=>D.of ((m+1)%8)::ae7 f ((m+1)/8)
def gQ(n:Nat):P:=ae7 64 n
def pa:P->P->Bool
 |[],[]=>true
 |d::k,e::l=>match Nat.beq d.val e.val with|true=>pa k l|false=>false
 |_,_=>false
inductive V where
 |bool (b:Bool)|int (k:IntKind) (n:Int)|str (s:List Nat)
 |kt|ptr (f:P) (k off room:Nat)
 |al|ag (f:P) (k off len es:Nat) (cap:Option Nat)
 |qh|map (f:P)
 |lK|fn (g:Fn) (first cap:List V)|jk (f:P)
 |og|kD (t:TypeId) (v:V)
 |agg (cs:List V)|bk (aF:List V)|fO|num (k:IntKind)
 deriving Inhabited
abbrev Fr:=fj (fj (fj V))
structure S where
 a:D
 b:D
 c:D
 deriving DecidableEq,Repr,Inhabited
def V.undef:V:=.bk []
def Fr.e:Fr:=
 let z:fj V:=⟨.bk [],.bk [],.bk [],.bk [],.bk [],.bk [],.bk [],.bk []⟩
 let y:fj (fj V):=⟨z,z,z,z,z,z,z,z⟩
 ⟨y,y,y,y,y,y,y,y⟩
def Fr.get(I:Fr)(s:S):V:=s.c.s (s.b.s (s.a.s I))
def Fr.set(I:Fr)(v:V)(s:S):Fr:=s.a.u (s.b.u (s.c.u (fun _=>v))) I
def a0(n:Nat):S:=⟨D.of (n/64),D.of (n/8%8),D.of (n%8)⟩
inductive kN where|rw|lW|ro
 deriving DecidableEq,Inhabited
inductive X where|t (p:S)|c (v:V)
 deriving Inhabited
inductive ho where|fL|li|bF
 deriving DecidableEq,Inhabited
inductive Q where|bool|int|str|ptr|ag|map|fn|kD|A7|agg (eR:List ho)|bad
 deriving DecidableEq,Inhabited
inductive d5 where
 |dd (x:X)|pick (c a b:X)|build (z:List V) (ps:List (Nat×Nat×X))|Xx (x:X)
 |bin (op:BinOp) (q:Q) (x y:X)|un (op:UnOp) (x:X)
 |Mw (k:IntKind) (x:X)|ae8 (x:X)|UY (x:X)
 |aaE (t:TypeId) (x:X)|RE (g:Fn) (first cap:List X)
 |WY (x:X) (br ai:Option X)|A8 (es:Nat) (x:X) (br ai eo:Option X)|akm (es n:Nat) (x:X) (br ai eo:Option X)
 |er (off n:Nat) (x:X)|RF (agg:Bool) (off n:Nat) (x:X)
 |lL (es:Nat) (x i:X)|KG (es n:Nat) (x i:X)|Gp (x i:X)|OZ (agg:Bool) (es n:Nat) (x i:X)
 |al0 (t:TypeId) (z:V) (ok:Bool) (x:X)|uY (i:Nat) (x:X)
 |jO (s:Bool) (x:X)|UZ (n:Nat)|ae9 (x:X)|afa (x y:X)|imax (x y:X)|aaF (x:X)
 deriving Inhabited
inductive IR where
 |load (agg:Bool) (n:Nat) (x:X)|FW (x:X)|lookup (q:Q) (z:V) (ok:Bool) (x k:X)|U0 (x:X)|U1 (x:X)|U2 (ty s:Nat) (x:X)
 deriving Inhabited
inductive kg where
 |alloc (ty:Nat) (z:List V)|box (ty n:Nat) (x:X)|K4 (ty es:Nat) (len:Nat) (z:List V) (ps:List (Nat×Nat×X))
 |afb (ty:Nat) (x:X)|afc (ty:Nat) (x:X)|akn|U3 (ty es bytes:Nat) (z:List V) (len cap:X)|N1 (x:X)
 deriving Inhabited
inductive g7 where
 |store (n:Nat) (a x:X)|Xy (q:Q) (m k v:X)|U4 (x:X)|yH (s:Bool) (x:X)|entry (x:X)
 |app (ty es bytes:Nat) (a b:X)|afd (ty es bytes:Nat) (z:List V) (a n:X)|copy (es:Nat) (a b:X)|del (q:Q) (m k:X)
 |N2 (es:Nat) (z:List V) (x:X)|afe (x:X)|aff (ty:Nat) (p n:X)
 deriving Inhabited
inductive bn where
 |pu (i:d5)|rd (i:IR)|mk (i:kg)|wr (i:g7)
 |call (f:X) (args:List X)|defer (f:X) (args:List X)|bad (aqq:Nat)
 deriving Inhabited
structure bH where
 dst:Option S
 op:bn
 guard:Option (S×Bool)
 deriving Inhabited
inductive C where
 |skip|cF (ops:List bH)|qi (ops:List (bH×List Nat))|seq (a b:C)|cond (x:X) (a b:C)
 |block (id:Nat) (c:C)|loop (c:C)|hp (x:X) (ps:List S) (assign body:C)
 |exit (id:Nat)|scope (c:C)|label|goto (l:Nat)|ret|bad (aqq:Nat)
 deriving Inhabited
inductive qG where|tmp (p:S)|cell (p:S) (agg:Bool) (n:Nat)
 deriving Inhabited
structure F where
 n:Nat
 body:C
 res:List qG
 deriving Inhabited
inductive o0 where|norm|exit (id:Nat)|goto (l:Nat)|ret
 deriving DecidableEq,Inhabited
inductive tk where|ready|busy|done|yI
 deriving DecidableEq,Inhabited
inductive O where
 |cells (xs:List V) (aZ dead:Nat) (md:kN) (ty:TypeId)
 |map (es:List (V×V×Nat)) (gE:Nat)
 |mz (s:List Nat) (pos:Nat)
 |kI (m:Option P) (since:Nat) (seen:List Nat) (X4:Nat)
 |loop (st:tk) (fE:Option o0) (fh:Fr) (ps:List S) (assign body:C)
 deriving Inhabited
structure H where
 m:cA O
 next:P
 deriving Inhabited
def H.get(h:H)(f:P):Option O:=h.m.get f
def H.set(h:H)(f:P)(o:O):H:=H.mk (h.m.set o f) h.next
def H.new(h:H)(o:O):H:=H.mk (h.m.set o h.next) (rb h.next)
def X.a7(x:X)(I:Fr):V:=@X.rec (fun _=>V) (Fr.get I) (fun v=>v) x
def kX{α:Type}:List α->Nat->Option α
 |[],_=>none
 |x::_,0=>some x
 |_::xs,n+1=>kX xs n
def JT{α:Type}:List α->Nat->α->List α
 |[],_,_=>[]
 |_::xs,0,v=>v::xs
 |x::xs,n+1,v=>x::JT xs n v
def zv{α:Type}:List α->Nat->List α
 |xs,0=>xs
 |[],_+1=>[]
 |_::xs,n+1=>zv xs n
def wB{α:Type}:List α->Nat->Option (List α)
 |_,0=>some []
 |[],_+1=>none
 |x::xs,n+1=>match wB xs n with
  |some r=>some (x::r)
  |none=>none
def mO{α:Type}:List α->Nat->List α->Option (List α)
 |xs,_,[]=>some xs
 |[],_,_::_=>none
 |_::xs,0,v::aF=>match mO xs 0 aF with
  |some r=>some (v::r)
  |none=>none
 |x::xs,n+1,v::aF=>match mO xs n (v::aF)with
  |some r=>some (x::r)
  |none=>none
def leq:List Nat->List Nat->Bool
 |[],[]=>true
 |x::xs,y::cV=>match Nat.beq x y with|true=>leq xs cV|false=>false
 |_,_=>false
def wC:List Nat->List Nat->Bool
 |_,[]=>false
 |[],_::_=>true
 |a::x,b::y=>Nat.blt a b||(Nat.beq a b&&wC x y)
def V.leaf(v:V):Bool:=match v with|.agg _=>false|.bk _=>false|_=>true
def V.cells(v:V):List V:=match v with
 |.agg cs=>cs
 |.bk _=>[]
 |v=>[v]
def V.nat(v:V):Option Nat:=match v with|.int _ (.ofNat n)=>some n|_=>none
def V.isTrue(v:V):Option Bool:=match v with|.bool b=>some b|_=>none
def qO(a b:Int):Bool:=match a,b with
 |.ofNat x,.ofNat y=>Nat.beq x y
 |.negSucc x,.negSucc y=>Nat.beq x y
 |_,_=>false
def oI(a b:Int):Bool:=match a,b with
 |.ofNat x,.ofNat y=>Nat.blt x y
 |.negSucc x,.negSucc y=>Nat.blt y x
 |.negSucc _,.ofNat _=>true
 |.ofNat _,.negSucc _=>false
def me:IntKind->IntKind->Bool
 |.i8,.i8|.i16,.i16|.i32,.i32|.i64,.i64|.u8,.u8|.u16,.u16|.u32,.u32|.u64,.u64=>true
 |_,_=>false
def b8(k:IntKind)(n:Int):Int:=
 match k,n with
 |.i64,.ofNat m=>match Nat.blt m 9223372036854775808 with|true=>.ofNat m|false=>IntKind.wrap .i64 (.ofNat m)
 |.i64,.negSucc m=>match Nat.blt m 9223372036854775808 with|true=>.negSucc m|false=>IntKind.wrap .i64 (.negSucc m)
 |.u64,.ofNat m=>match Nat.blt m 18446744073709551616 with|true=>.ofNat m|false=>IntKind.wrap .u64 (.ofNat m)
 |.u8,.ofNat m=>match Nat.blt m 256 with|true=>.ofNat m|false=>IntKind.wrap .u8 (.ofNat m)
 |.i32,.ofNat m=>match Nat.blt m 2147483648 with|true=>.ofNat m|false=>IntKind.wrap .i32 (.ofNat m)
 |.u32,.ofNat m=>match Nat.blt m 4294967296 with|true=>.ofNat m|false=>IntKind.wrap .u32 (.ofNat m)
 |k,n=>k.wrap n
def ho.eq(k:ho)(x y:V):Option Bool:=match k,x,y with
 |.li,.int j a,.int k b=>match me j k with|true=>some (qO a b)|false=>none
 |.fL,.bool a,.bool b=>some (a==b)
 |.bF,.str a,.str b=>some (leq a b)
 |_,_,_=>none
def nn:List ho->List V->List V->Option Bool
 |[],[],[]=>some true
 |k::eR,x::xs,y::cV=>match k.eq x y with
  |some true=>nn eR xs cV
  |r=>r
 |_,_,_=>none
def KH(x y:V):Option Bool:=match x,y with
 |.kt,.kt=>some true
 |.kt,.ptr _ _ _ _=>some false
 |.ptr _ _ _ _,.kt=>some false
 |.ptr f k i _,.ptr g l j _=>match pa f g&&Nat.beq k l with|true=>some (Nat.beq i j)|false=>none
 |_,_=>none
def N3(x y:V):Option Bool:=match x,y with
 |.al,.al=>some true
 |.al,.ag .. =>some false
 |.ag ..,.al=>some false
 |_,_=>none
def O0(x y:V):Option Bool:=match x,y with
 |.qh,.qh=>some true
 |.qh,.map _=>some false
 |.map _,.qh=>some false
 |_,_=>none
def N4(x y:V):Option Bool:=match x,y with
 |.lK,.lK=>some true
 |.lK,.fn .. =>some false
 |.fn ..,.lK=>some false
 |.lK,.jk _=>some false
 |.jk _,.lK=>some false
 |_,_=>none
def O1(x y:V):Option Bool:=match x,y with
 |.og,.kD .. =>some false
 |.kD ..,.og=>some false
 |.kD t _,.kD u _=>match Nat.beq t u with|true=>none|false=>some false
 |_,_=>none
def Pt(x y:V):Option Bool:=match x,y with
 |.og,.og=>some true
 |.og,.kD .. =>some false
 |.kD ..,.og=>some false
 |_,_=>none
def ako(eR:List ho)(x y:V):Option Bool:=match x,y with
 |.agg xs,.agg cV=>match Nat.beq xs.length eR.length&&Nat.beq cV.length eR.length with|true=>nn eR xs cV|false=>none
 |_,_=>none
def akp(_ _:V):Option Bool:=none
def Q.eq(q:Q):V->V->Option Bool:=match q with
 |.bool=>ho.eq .fL|.int=>ho.eq .li|.str=>ho.eq .bF|.ptr=>KH|.ag=>N3|.map=>O0|.fn=>N4|.kD=>O1|.A7=>Pt|.agg eR=>ako eR|.bad=>akp
def afg(_:Q)(x y:V):Option V:=match x,y with
 |.int k a,.int ch b=>match me k ch with|true=>some (.int k (b8 k (a+b)))|false=>none
 |.str a,.str b=>match Nat.ble (a.length+b.length) 9223372036854775807 with|true=>some (.str (a++b))|false=>none
 |_,_=>none
def afh(_:Q)(x y:V):Option V:=match x,y with
 |.int k a,.int ch b=>match me k ch with|true=>some (.int k (b8 k (a-b)))|false=>none
 |_,_=>none
def afi(_:Q)(x y:V):Option V:=match x,y with
 |.int k a,.int ch b=>match me k ch with|true=>some (.int k (b8 k (a*b)))|false=>none
 |_,_=>none
def afj(_:Q)(x y:V):Option V:=match x,y with
 |.int k a,.int ch b=>match me k ch&&!qO b 0 with|true=>some (.int k (b8 k (a.tdiv b)))|false=>none
 |_,_=>none
def afk(_:Q)(x y:V):Option V:=match x,y with
 |.int k a,.int ch b=>match me k ch&&!qO b 0 with|true=>some (.int k (a.tmod b))|false=>none
 |_,_=>none
def A9(f:(n:Nat) ->BitVec n->BitVec n->BitVec n)(x y:V):Option V:=match x,y with
 |.int k a,.int ch b=>match me k ch with|true=>some (.int k (k.wrap (f k.bits (BitVec.ofInt k.bits a) (BitVec.ofInt k.bits b)).toNat))|false=>none
 |_,_=>none
def afl(_:Q)(x y:V):Option V:=A9 (fun _ a b=>a&&&b) x y
def aaG(_:Q)(x y:V):Option V:=A9 (fun _ a b=>a|||b) x y
def afm(_:Q)(x y:V):Option V:=A9 (fun _ a b=>a^^^b) x y
def al1(_:Q)(x y:V):Option V:=A9 (fun _ a b=>a&&&~~~b) x y
def afn(_:Q)(x y:V):Option V:=match x,y with
 |.int k a,.int _ b=>match oI b 0 with|true=>none|false=>some (.int k (k.wrap (a*2^(min b.toNat k.bits))))
 |_,_=>none
def afo(_:Q)(x y:V):Option V:=match x,y with
 |.int k a,.int _ b=>match oI b 0 with|true=>none|false=>some (.int k (a.fdiv (2^(min b.toNat k.bits))))
 |_,_=>none
def afp(q:Q)(x y:V):Option V:=match q.eq x y with|some b=>some (.bool b)|none=>none
def afq(q:Q)(x y:V):Option V:=match q.eq x y with|some b=>some (.bool (!b))|none=>none
def afr(_:Q)(x y:V):Option V:=match x,y with
 |.int j a,.int k b=>match me j k with|true=>some (.bool (oI a b))|false=>none
 |.str a,.str b=>some (.bool (wC a b))
 |_,_=>none
def afs(_:Q)(x y:V):Option V:=match x,y with
 |.int j a,.int k b=>match me j k with|true=>some (.bool (!oI b a))|false=>none
 |.str a,.str b=>some (.bool (wC a b||leq a b))
 |_,_=>none
def aft(_:Q)(x y:V):Option V:=match x,y with
 |.int j a,.int k b=>match me j k with|true=>some (.bool (oI b a))|false=>none
 |.str a,.str b=>some (.bool (!(wC a b||leq a b)))
 |_,_=>none
def afu(_:Q)(x y:V):Option V:=match x,y with
 |.int j a,.int k b=>match me j k with|true=>some (.bool (!oI a b))|false=>none
 |.str a,.str b=>some (.bool (!wC a b))
 |_,_=>none
def V.bin(op:BinOp):Q->V->V->Option V:=match op with
 |.add=>afg|.sub=>afh|.mul=>afi|.quo=>afj|.rem=>afk|.and=>afl|.or=>aaG|.xor=>afm|.shl=>afn|.shr=>afo|.andNot=>al1
 |.eql=>afp|.neq=>afq|.lss=>afr|.leq=>afs|.gtr=>aft|.geq=>afu
def V.un(op:UnOp)(x:V):Option V:=
 match op,x with
 |.neg,.int k n=>some (.int k (k.wrap (0-n)))
 |.xor,.int k n=>some (.int k (k.wrap (BitVec.ofInt k.bits (if k.signed then-1 else k.max)^^^BitVec.ofInt k.bits n).toNat))
 |.not,.bool b=>some (.bool (!b))
 |_,_=>none
def bound(I:Fr)(x:Option X)(d y:Nat):Option Nat:=
 match x with
 |none=>some d
 |some x=>match(x.a7 I).nat with
  |some n=>match Nat.ble n y with|true=>some n|false=>none
  |none=>none
def O.live(o:O)(k:Nat):Option (List V):=match o with
 |.cells xs aZ dead _ _=>match Nat.ble dead k&&Nat.ble k aZ with|true=>some xs|false=>none
 |_=>none
def live(h:H)(f:P)(k:Nat):Option (List V):=match h.get f with
 |some o=>o.live k
 |none=>none
def range(xs:List V)(off n:Nat):Option (List V):=wB (zv xs off) n
def lu(xs:Option (List V))(off n:Nat):Option (List V):=match xs with|some xs=>range xs off n|none=>none
def kN.akq(m:kN):Bool:=match m with|.ro=>false|_=>true
def kN.sT(m:kN):Bool:=match m with|.rw=>true|_=>false
def nj(h:H)(f:P)(k off:Nat)(aF:List V):Option H:=
 match h.get f with
 |some (.cells xs aZ dead md ty)=>
  match Nat.beq k aZ&&md.sT&&Nat.ble dead aZ with
  |true=>match mO xs off aF with
   |some nB=>some (h.set f (.cells nB aZ aZ .rw ty))
   |none=>none
  |false=>none
 |_=>none
def one(agg:Bool)(cs:Option (List V)):Option V:=match cs with
 |none=>none
 |some cs=>match agg with
  |true=>some (.agg cs)
  |false=>match cs with|[v]=>some v|_=>none
def fill(I:Fr):List V->List (Nat×Nat×X) ->Option (List V)
 |z,[]=>some z
 |z,(off,n,x)::ps=>
  match Nat.beq (x.a7 I).cells.length n with
  |true=>match mO z off (x.a7 I).cells with
   |some k5=>fill I k5 ps
   |none=>none
  |false=>none
def e2{α:Type}(z:List α):Nat->List α
 |0=>[]
 |n+1=>z++e2 z n
def findKey(q:Q)(k:V):List (V×V×Nat) ->Nat->Option (Option (Nat×V))
 |[],_=>some none
 |(ch,v,_)::es,i=>match q.eq k ch with
  |some true=>some (some (i,v))
  |some false=>findKey q k es (i+1)
  |none=>none
def lS(s:List Nat):Nat×Nat:=
 let at' (k:Nat):Nat:=(kX s k).getD 0
 let gM:=s.length
 let cont (k:Nat):Bool:=Nat.blt k gM&&Nat.beq (at' k/64) 2
 let b2:=at' 0
 if Nat.blt b2 0x80 then(b2,1)
 else if Nat.beq (b2/32) 6&&cont 1 then
  let c:=(b2%32)*64+at' 1%64
  if Nat.ble 0x80 c then(c,2)else(0xFFFD,1)
 else if Nat.beq (b2/16) 14&&cont 1&&cont 2 then
  let c:=(b2%16)*4096+(at' 1%64)*64+at' 2%64
  if Nat.ble 0x800 c&&(Nat.blt c 0xD800||Nat.ble 0xE000 c)then(c,3)else(0xFFFD,1)
 else if Nat.beq (b2/8) 30&&cont 1&&cont 2&&cont 3 then
  let c:=(b2%8)*262144+(at' 1%64)*4096+(at' 2%64)*64+at' 3%64
  if Nat.ble 0x10000 c&&Nat.ble c 0x10FFFF then(c,4)else(0xFFFD,1)
 else(0xFFFD,1)
def zw:Nat->List Nat->List Nat
 |0,_=>[]
 |n+1,s=>match s with
  |[]=>[]
  |_=>(lS s).1::zw n (zv s (lS s).2)
def bytesOf:List Nat->List V
 |[]=>[]
 |b::s=>.int .u8 (.ofNat b)::bytesOf s
def zL:List V->Option (List Nat)
 |[]=>some []
 |.int .u8 (.ofNat n)::aF=>match Nat.blt n 256 with
  |true=>match zL aF with
   |some s=>some (n::s)
   |none=>none
  |false=>none
 |_=>none
def sh(h:H)(es n:Nat)(v:V):Option (List V):=match v with
 |.al=>match Nat.beq n 0 with|true=>some []|false=>none
 |.ag f k off len jA _=>match Nat.beq es jA&&Nat.ble n len with
  |true=>lu (live h f k) off (n*es)
  |false=>none
 |.str s=>match Nat.beq es 1 with
  |true=>match wB s n with|some s=>some (bytesOf s)|none=>none
  |false=>none
 |_=>none
def uc(v:V):Option Nat:=match v with
 |.al=>some 0
 |.ag _ _ _ len _ _=>some len
 |.str s=>some s.length
 |_=>none
def Xz(es:Nat)(xs:List V)(off n:Nat):Option (List V):=match Nat.beq (off%es) 0 with|true=>range xs off n|false=>none
def FX(h:H)(ty es n:Nat)(new:List V)(f:P)(k off len:Nat):Option (V×H):=
 match h.get f with
 |some (.cells xs aZ dead md gF)=>
  match Nat.beq k aZ&&md.sT&&Nat.beq ty gF&&Nat.ble dead aZ with
  |true=>match Nat.beq (off+len*es) xs.length&&Nat.beq off 0 with
   |true=>some (.ag f (aZ+1) 0 (len+n) es none,h.set f (.cells (xs++new) (aZ+1) dead .rw ty))
   |false=>match Xz es xs off (len*es)with
    |some old=>some (.ag h.next 0 0 (len+n) es none,(h.set f (.cells xs aZ (aZ+1) .rw ty)).new (.cells (old++new) 0 0 .rw ty))
    |none=>none
  |false=>none
 |_=>none
def FY(h:H)(ty es n:Nat)(new:List V)(f:P)(k off len c:Nat):Option (V×H):=
 match Nat.ble (len+n) c with
 |true=>match nj h f k (off+len*es) new with
   |some h=>some (.ag f k off (len+n) es (some c),h)
   |none=>none
 |false=>match lu (live h f k) off (len*es)with
  |some old=>some (.ag h.next 0 0 (len+n) es none,h.new (.cells (old++new) 0 0 .rw ty))
  |none=>none
def append(h:H)(ty es bytes n:Nat)(new:List V)(a:V):Option (V×H):=
 match a with
 |.al=>match Nat.beq n 0 with
  |true=>some (.al,h)
  |false=>match Nat.ble n 1099511627776&&Nat.ble (n*bytes) 1099511627776 with
   |true=>some (.ag h.next 0 0 n es none,h.new (.cells new 0 0 .rw ty))
   |false=>none
 |.ag f k off len jA cap=>match Nat.beq es jA&&Nat.ble (len+n) 1099511627776&&Nat.ble ((len+n)*bytes) 1099511627776 with
  |true=>match Nat.beq n 0 with
   |true=>some (.ag f k off len es cap,h)
   |false=>match cap with
    |some c=>FY h ty es n new f k off len c
    |none=>FX h ty es n new f k off len
  |false=>none
 |_=>none
abbrev tl:=Fr->Option V
def Iq(x:X):tl:=fun I=>some (x.a7 I)
def WZ(c a b:X):tl:=fun I=>match(c.a7 I).isTrue with
 |some true=>some (a.a7 I)
 |some false=>some (b.a7 I)
 |none=>none
def zE(z:List V)(ps:List (Nat×Nat×X)):tl:=fun I=>match fill I z ps with
 |some cs=>some (.agg cs)
 |none=>none
def JU(x:X):tl:=fun I=>match x.a7 I with
 |.kt=>none|.og=>none|.lK=>none|.fO=>none
 |.fn (.method _) _ _=>none
 |v=>some v
def rR(f:V->V->Option V)(x y:X):tl:=fun I=>f (x.a7 I) (y.a7 I)
def mI(f:V->Option V)(x:X):tl:=fun I=>f (x.a7 I)
def JV(k:IntKind)(v:V):Option V:=match v with|.int _ n=>some (.int k (b8 k n))|_=>none
def W0(v:V):Option V:=match v with|.str s=>some (.str s)|_=>none
def KI(v:V):Option V:=match v with
 |.int _ (.ofNat n)=>match Nat.blt n 128 with|true=>some (.str [n])|false=>some (.str ((Utf8.encode (.ofNat n)).data.toList.map UInt8.toNat))
 |_=>none
def afv(t:TypeId)(v:V):Option V:=some (.kD t v)
def hc(I:Fr):List X->List V
 |[]=>[]
 |x::xs=>x.a7 I::hc I xs
def afw(g:Fn)(first cap:List X):tl:=fun I=>some (.fn g (hc I first) (hc I cap))
def uj(I:Fr)(br ai eo:Option X)(len cap:Nat)(k:Nat->Nat->Nat->V):Option V:=
 match bound I eo cap cap with
 |some m=>match bound I ai len m with
  |some h=>match bound I br 0 h with
   |some l=>some (k l h m)
   |none=>none
  |none=>none
 |none=>none
def GD(x:X)(br ai:Option X):tl:=fun I=>match x.a7 I with
 |.str s=>uj I br ai none s.length s.length fun l h _=>.str ((zv s l).take (h-l))
 |_=>none
def Gq(es:Nat)(x:X)(br ai eo:Option X):tl:=fun I=>match x.a7 I with
 |.al=>uj I br ai eo 0 0 fun _ _ _=>.al
 |.ag f k off len jA cap=>match Nat.beq es jA with
  |true=>match cap with
   |some c=>uj I br ai eo len c fun l h m=>.ag f k (off+l*es) (h-l) es (some (m-l))
   |none=>match eo with
    |some _=>uj I br ai eo len len fun l h m=>.ag f k (off+l*es) (h-l) es (some (m-l))
    |none=>uj I br ai none len len fun l h _=>.ag f k (off+l*es) (h-l) es none
  |false=>none
 |_=>none
def Pu(es n:Nat)(x:X)(br ai eo:Option X):tl:=fun I=>match x.a7 I with
 |.ptr f k off room=>match Nat.ble (n*es) room with
  |true=>uj I br ai eo n n fun l h m=>.ag f k (off+l*es) (h-l) es (some (m-l))
  |false=>none
 |_=>none
def hM(off n:Nat)(v:V):Option V:=match v with
 |.ptr f k o room=>match Nat.ble (off+n) room with|true=>some (.ptr f k (o+off) n)|false=>none
 |_=>none
def Dj(agg:Bool)(off n:Nat)(v:V):Option V:=match v with|.agg cs=>one agg (range cs off n)|_=>none
def jP(es:Nat)(v i:V):Option V:=match v with
 |.ag f k off len jA _=>match i.nat with
  |some i=>match Nat.blt i len&&Nat.beq es jA with|true=>some (.ptr f k (off+i*es) es)|false=>none
  |none=>none
 |_=>none
def zF(es n:Nat)(v i:V):Option V:=match v with
 |.ptr f k off room=>match i.nat with
  |some i=>match Nat.blt i n&&Nat.ble (n*es) room with|true=>some (.ptr f k (off+i*es) es)|false=>none
  |none=>none
 |_=>none
def DZ(v i:V):Option V:=match v with
 |.str s=>match i.nat with
  |some i=>match kX s i with
   |some b=>some (.int .u8 (.ofNat b))
   |none=>none
  |none=>none
 |_=>none
def Bu(agg:Bool)(es n:Nat)(v i:V):Option V:=match v with
 |.agg cs=>match i.nat with
  |some i=>match Nat.blt i n with|true=>one agg (range cs (i*es) es)|false=>none
  |none=>none
 |_=>none
def Yw(t:TypeId)(z:V)(ok:Bool)(v:V):Option V:=match v with
 |.kD u v=>match Nat.beq t u with
  |true=>some (match ok with|true=>.bk [v,.bool true]|false=>v)
  |false=>match ok with|true=>some (.bk [z,.bool false])|false=>none
 |.og=>match ok with|true=>some (.bk [z,.bool false])|false=>none
 |_=>none
def DQ(i:Nat)(v:V):Option V:=match v with|.bk aF=>kX aF i|_=>none
def uZ(s:Bool)(v:V):Option V:=match s with
 |true=>match v with
  |.str s=>some (.int .i64 (.ofNat s.length))
  |_=>none
 |false=>match v with
  |.al=>some (.int .i64 (.ofNat 0))
  |.ag _ _ _ len _ _=>some (.int .i64 (.ofNat len))
  |_=>none
def U5(v:V):Option V:=match v with
 |.al=>some (.int .i64 (.ofNat 0))
 |.ag _ _ _ _ _ (some c)=>some (.int .i64 (.ofNat c))
 |_=>none
def U6(v w:V):Option V:=match v,w with|.int k a,.int _ b=>some (.int k (match oI b a with|true=>b|false=>a))|_,_=>none
def Dk(v w:V):Option V:=match v,w with|.int k a,.int _ b=>some (.int k (match oI a b with|true=>b|false=>a))|_,_=>none
def U7(v:V):Option V:=match v with
 |.al=>some .kt
 |.ag f k off len es _=>match len with|0=>none|n+1=>some (.ptr f k off ((n+1)*es))
 |_=>none
def apx(v:V):tl:=fun _=>some v
abbrev Rd:=Fr->H->Option V
def DR(agg:Bool)(n:Nat)(x:X):Rd:=fun I h=>match x.a7 I with
 |.ptr f k off room=>match Nat.ble n room with|true=>one agg (lu (live h f k) off n)|false=>none
 |_=>none
def KJ(x:X):Rd:=fun I h=>match x.a7 I with
 |.al=>some (.str [])
 |.ag f k off len es _=>match Nat.beq es 1 with
  |true=>match lu (live h f k) off len with
   |some cs=>match zL cs with
    |some s=>some (.str s)
    |none=>none
   |none=>none
  |false=>none
 |_=>none
def zx(h:H)(v:V):Option (List (V×V×Nat)):=match v with
 |.qh=>some []
 |.map f=>match h.get f with
  |some (.map es _)=>some es
  |_=>none
 |_=>none
def Lh(q:Q)(z:V)(ok:Bool)(x k:X):Rd:=fun I h=>match zx h (x.a7 I)with
 |some es=>match findKey q (k.a7 I) es 0 with
  |some (some (_,v))=>some (match ok with|true=>.bk [v,.bool true]|false=>v)
  |some none=>some (match ok with|true=>.bk [z,.bool false]|false=>z)
  |none=>none
 |none=>none
def KK(x:X):Rd:=fun I h=>match zx h (x.a7 I)with
 |some es=>some (.int .i64 (.ofNat es.length))
 |none=>none
def KL(x:X):Rd:=fun I h=>match x.a7 I with
 |.kt=>some .kt
 |.ptr f k off room=>match live h f k with
  |some _=>match room with|0=>none|n+1=>some (.ptr f k off (n+1))
  |none=>none
 |_=>none
def KM(ty s:Nat)(x:X):Rd:=fun I h=>match x.a7 I with
 |.kt=>some .kt
 |.ptr f k off room=>match h.get f with
  |some (.cells _ aZ dead md gF)=>match Nat.ble dead k&&Nat.ble k aZ&&Nat.beq ty gF&&Nat.beq (off%s) 0&&Nat.ble s room&&md.akq with
   |true=>some (.ptr f k off room)
   |false=>none
  |_=>none
 |_=>none
abbrev w0:=Fr->Option (O×(P->V))
def alb(ty:Nat)(z:List V):w0:=fun _=>some (.cells z 0 0 .rw ty,fun f=>.ptr f 0 0 z.length)
def N5(ty n:Nat)(x:X):w0:=fun I=>match Nat.beq (x.a7 I).cells.length n with
 |true=>some (.cells (x.a7 I).cells 0 0 .rw ty,fun f=>.ptr f 0 0 n)
 |false=>none
def GZ(ty es len:Nat)(z:List V)(ps:List (Nat×Nat×X)):w0:=fun I=>match fill I (e2 z len) ps with
 |some cs=>some (.cells cs 0 0 .rw ty,fun f=>.ag f 0 0 len es (some len))
 |none=>none
def O2(ty:Nat)(x:X):w0:=fun I=>match x.a7 I with
 |.str s=>some (.cells (bytesOf s) 0 0 .rw ty,fun f=>.ag f 0 0 s.length 1 none)
 |_=>none
def O3(ty:Nat)(x:X):w0:=fun I=>match x.a7 I with
 |.str s=>some (.cells ((zw s.length s).map fun b=>.int .i32 (.ofNat b)) 0 0 .rw ty,fun f=>.ag f 0 0 (zw s.length s).length 1 none)
 |_=>none
def afx:w0:=fun _=>some (.map [] 0,fun f=>.map f)
def O4(ty es bytes:Nat)(z:List V)(len cap:X):w0:=fun I=>match(len.a7 I).nat with
 |some l=>match(cap.a7 I).nat with
  |some c=>match Nat.ble l c&&Nat.ble c 1099511627776&&Nat.ble (bytes*c) 140737488355328 with
   |true=>some (.cells (e2 z c) 0 0 .rw ty,fun f=>.ag f 0 0 l es (some c))
   |false=>none
  |none=>none
 |none=>none
def O5(x:X):w0:=fun I=>match x.a7 I with
 |.str s=>some (.mz s 0,fun f=>.ptr f 0 0 0)
 |_=>none
abbrev sn:=Fr->H->Option (V×H)
def Pv(n:Nat)(a x:X):sn:=fun I h=>match a.a7 I with
 |.ptr f k off room=>match Nat.beq (x.a7 I).cells.length n&&Nat.ble n room with
  |true=>match nj h f k off (x.a7 I).cells with
   |some h=>some (.bk [],h)
   |none=>none
  |false=>none
 |_=>none
def P1(q:Q)(m k v:X):sn:=fun I h=>match m.a7 I with
 |.map f=>match h.get f with
  |some (.map es gE)=>match findKey q (k.a7 I) es 0 with
   |some (some (i,_))=>match kX es i with
    |some (ch,_,b)=>some (.bk [],h.set f (.map (JT es i (ch,v.a7 I,b)) gE))
    |none=>none
   |some none=>some (.bk [],h.set f (.map (es++[(k.a7 I,v.a7 I,gE)]) (gE+1)))
   |none=>none
  |_=>none
 |_=>none
def KN(x:X):sn:=fun I h=>match x.a7 I with
 |.qh=>some (.ptr h.next 0 0 0,h.new (.kI none 0 [] 0))
 |.map m=>match h.get m with
  |some (.map _ gE)=>some (.ptr h.next 0 0 0,h.new (.kI (some m) gE [] gE))
  |_=>none
 |_=>none
def FZ(h:H)(f:P)(s:List Nat)(pos:Nat):Option (V×H):=match s with
 |[]=>some (.bk [.bool false],h)
 |_=>some (.bk [.bool true,.int .i64 (.ofNat pos),.int .i32 (.ofNat (lS s).1)],h.set f (.mz (zv s (lS s).2) (pos+(lS s).2)))
def afy(h:H)(f m:P)(since:Nat)(seen:List Nat)(last:Nat):Option (V×H):=match h.get m with
 |some (.map es gE)=>
  match !seen.isEmpty&&!es.isEmpty&&es.all (fun e=>Nat.ble last e.2.2)with
  |true=>none
  |false=>
   match(es.filter fun e=>!seen.any (Nat.beq e.2.2)).filter (fun e=>Nat.blt e.2.2 since),(es.filter fun e=>!seen.any (Nat.beq e.2.2)).filter (fun e=>Nat.ble since e.2.2)with
   |[],[]=>some (.bk [.bool false],h)
   |[(k,v,b)],[]=>some (.bk [.bool true,k,v],h.set f (.kI (some m) since (seen++[b]) gE))
   |_,_=>none
 |_=>none
def F0(s:Bool)(x:X):sn:=fun I h=>match x.a7 I with
 |.ptr f _ 0 _=>match h.get f with
  |some (.mz str pos)=>match s with|true=>FZ h f str pos|false=>none
  |some (.kI none _ _ _)=>match s with|true=>none|false=>some (.bk [.bool false],h)
  |some (.kI (some m) since seen last)=>match s with|true=>none|false=>afy h f m since seen last
  |_=>none
 |_=>none
def K5(x:X):sn:=fun I h=>match x.a7 I with
 |.ptr f _ 0 _=>match h.get f with
  |some (.kI (some m) _ seen X4)=>match h.get m with
   |some (.map es gE)=>match seen.getLast? with
    |some b=>match Nat.beq gE X4 with
     |true=>match es.find? (fun e=>Nat.beq e.2.2 b)with
      |some (k,v,_)=>some (.bk [k,v],h)
      |none=>none
     |false=>none
    |none=>none
   |_=>none
  |_=>none
 |_=>none
def JW(ty es bytes:Nat)(a b:X):sn:=fun I h=>match uc (b.a7 I)with
 |some n=>match sh h es n (b.a7 I)with
  |some new=>append h ty es bytes n new (a.a7 I)
  |none=>none
 |none=>none
def O6(ty es bytes:Nat)(z:List V)(a n:X):sn:=fun I h=>match(n.a7 I).nat with
 |some n=>match Nat.ble n 1099511627776&&Nat.ble (n*bytes) 1099511627776 with
  |true=>append h ty es bytes n (e2 z n) (a.a7 I)
  |false=>none
 |none=>none
def O7(es:Nat)(a b:X):sn:=fun I h=>match a.a7 I with
 |.al=>match uc (b.a7 I)with|some _=>some (.int .i64 (.ofNat 0),h)|none=>none
 |.ag f k off len jA _=>match uc (b.a7 I)with
  |some m=>match Nat.beq (Nat.min m len) 0 with
   |true=>some (.int .i64 (.ofNat 0),h)
   |false=>match Nat.beq es jA with
    |true=>match sh h es (Nat.min m len) (b.a7 I)with
     |some cs=>match nj h f k off cs with
      |some h=>some (.int .i64 (.ofNat (Nat.min m len)),h)
      |none=>none
     |none=>none
    |false=>none
  |none=>none
 |_=>none
def JX(q:Q)(m k:X):sn:=fun I h=>match m.a7 I with
 |.qh=>some (.bk [],h)
 |.map f=>match h.get f with
  |some (.map es gE)=>match findKey q (k.a7 I) es 0 with
   |some (some (i,_))=>some (.bk [],h.set f (.map (es.eraseIdx i) gE))
   |some none=>some (.bk [],h)
   |none=>none
  |_=>none
 |_=>none
def O8(es:Nat)(z:List V)(x:X):sn:=fun I h=>match x.a7 I with
 |.al=>some (.bk [],h)
 |.ag f k off len jA _=>match Nat.beq len 0 with
  |true=>some (.bk [],h)
  |false=>match Nat.beq es jA with
   |true=>match nj h f k off (e2 z len)with
    |some h=>some (.bk [],h)
    |none=>none
   |false=>none
 |_=>none
def O9(x:X):sn:=fun I h=>match x.a7 I with
 |.qh=>some (.bk [],h)
 |.map f=>match h.get f with
  |some (.map _ gE)=>some (.bk [],h.set f (.map [] gE))
  |_=>none
 |_=>none
def Pa(ty:Nat)(p n:X):sn:=fun I h=>match(n.a7 I).nat with
 |some 0=>match p.a7 I with
  |.ptr _ _ _ _=>some (.str [],h)
  |.kt=>some (.str [],h)
  |_=>none
 |some (n+1)=>match p.a7 I with
  |.ptr f k off room=>match h.get f with
   |some (.cells xs aZ dead md gF)=>match Nat.beq k aZ&&Nat.ble (n+1) room&&Nat.beq ty gF&&Nat.ble dead aZ&&Nat.ble (n+1) 1099511627776 with
    |true=>match md with
     |.ro=>none
     |_=>match range xs off (n+1)with
      |some cs=>match zL cs with
       |some s=>some (.str s,h.set f (.cells xs aZ aZ .lW ty))
       |none=>none
      |none=>none
    |false=>none
   |_=>none
  |_=>none
 |none=>none
def d5.f(i:d5):tl:=match i with
 |.dd x=>Iq x|.pick c a b=>WZ c a b|.build z ps=>zE z ps|.Xx x=>JU x
 |.bin op q x y=>rR (V.bin op q) x y|.un op x=>mI (V.un op) x
 |.Mw k x=>mI (JV k) x|.ae8 x=>mI W0 x|.UY x=>mI KI x
 |.aaE t x=>mI (afv t) x|.RE g first cap=>afw g first cap
 |.WY x br ai=>GD x br ai|.A8 es x br ai m=>Gq es x br ai m|.akm es n x br ai m=>Pu es n x br ai m
 |.er off n x=>mI (hM off n) x|.RF agg off n x=>mI (Dj agg off n) x
 |.lL es x i=>rR (jP es) x i|.KG es n x i=>rR (zF es n) x i|.Gp x i=>rR DZ x i|.OZ agg es n x i=>rR (Bu agg es n) x i
 |.al0 t z ok x=>mI (Yw t z ok) x|.uY i x=>mI (DQ i) x
 |.jO s x=>mI (uZ s) x|.UZ n=>apx (.int .i64 (.ofNat n))|.ae9 x=>mI U5 x|.afa x y=>rR U6 x y|.imax x y=>rR Dk x y|.aaF x=>mI U7 x
def IR.f(i:IR):Rd:=match i with
 |.load agg n x=>DR agg n x|.FW x=>KJ x|.lookup q z ok x k=>Lh q z ok x k|.U0 x=>KK x|.U1 x=>KL x|.U2 ty s x=>KM ty s x
def kg.f(i:kg):w0:=match i with
 |.alloc ty z=>alb ty z|.box ty n x=>N5 ty n x|.K4 ty es len z ps=>GZ ty es len z ps|.afb ty x=>O2 ty x|.afc ty x=>O3 ty x|.akn=>afx
 |.U3 ty es bytes z len cap=>O4 ty es bytes z len cap|.N1 x=>O5 x
def g7.f(i:g7):sn:=match i with
 |.store n a x=>Pv n a x|.Xy q m k v=>P1 q m k v|.U4 x=>KN x|.yH s x=>F0 s x|.entry x=>K5 x
 |.app ty es bytes a b=>JW ty es bytes a b|.afd ty es bytes z a n=>O6 ty es bytes z a n|.copy es a b=>O7 es a b|.del q m k=>JX q m k|.N2 es z x=>O8 es z x|.afe x=>O9 x|.aff ty p n=>Pa ty p n
abbrev iy:=V->List V->H->Option (V×H)
abbrev dB:=List (V×List V)
structure eM where
 I:Fr
 ds:dB
 h:H
 deriving Inhabited
inductive Out where
 |no|norm (s:eM)|exit (id:Nat) (s:eM)|goto (l:Nat) (s:eM)|ret (s:eM)
 deriving Inhabited
structure Prog where
 funcs:FuncId->Option F
 spec:FuncId->List V->H->Option (V×H)
 quiet:FuncId->Bool
def cX(dst:Option S)(v:V)(I:Fr):Fr:=@Option.rec S (fun _=>Fr) I (Fr.set I v) dst
def x4(v:V)(b:Bool):Option Bool:=match v with
 |.bool c=>some (c==b)
 |.fO=>none
 |_=>some false
def wanted(g:Option (S×Bool))(I:Fr):Option Bool:=match g with
 |none=>some true
 |some (p,b)=>x4 (I.get p) b
abbrev tm:=V->H->dB->Out
def Mx(f:tl):Prog->iy->Fr->H->dB->tm->Out:=fun _ _ I h ds k=>@Option.rec V (fun _=>Out) .no (fun v=>k v h ds) (f I)
def RG(f:Rd):Prog->iy->Fr->H->dB->tm->Out:=fun _ _ I h ds k=>@Option.rec V (fun _=>Out) .no (fun v=>k v h ds) (f I h)
def My(f:w0):Prog->iy->Fr->H->dB->tm->Out:=fun _ _ I h ds k=>match f I with
 |some (o,g)=>k (g h.next) (h.new o) ds
 |none=>.no
def Ir(f:sn):Prog->iy->Fr->H->dB->tm->Out:=fun _ _ I h ds k=>match f I h with
 |some (v,h)=>k v h ds
 |none=>.no
def KO(f:X)(args:List X):Prog->iy->Fr->H->dB->tm->Out:=fun _ call I h ds k=>match call (f.a7 I) (hc I args) h with
 |some (v,h)=>k v h ds
 |none=>.no
def K6(f:X)(args:List X):Prog->iy->Fr->H->dB->tm->Out:=fun _ _ I h ds k=>match f.a7 I with
 |.fn g first cap=>k (.bk []) h ((.fn g first cap,hc I args)::ds)
 |_=>.no
def avI:Prog->iy->Fr->H->dB->tm->Out:=fun _ _ _ _ _ _=>.no
def bn.k(o:bn):Prog->iy->Fr->H->dB->tm->Out:=match o with
 |.pu i=>Mx i.f|.rd i=>RG i.f|.mk i=>My i.f|.wr i=>Ir i.f|.call f args=>KO f args|.defer f args=>K6 f args|.bad _=>avI
def KP(dst:Option S)(rest:Fr->H->dB->Out)(I:Fr):tm:=fun v h ds=>rest (cX dst v I) h ds
def EZ(o:bH)(rest:Fr->H->dB->Out)(J:Prog)(call:iy)(I:Fr)(h:H)(ds:dB):Out:=
 o.op.k J call I h ds (KP o.dst rest I)
def E0(J:Prog)(call:iy)(o:bH)(rest:Fr->H->dB->Out)(I:Fr)(h:H)(ds:dB):Out:=
 match o.guard with
 |none=>EZ o rest J call I h ds
 |some g=>match wanted (some g) I with
  |some true=>EZ o rest J call I h ds
  |some false=>rest (cX o.dst (.bk []) I) h ds
  |none=>.no
def ig(J:Prog)(call:iy)(l:List bH):Fr->H->dB->Out:=
 @List.rec bH (fun _=>Fr->H->dB->Out) (fun I h ds=>.norm ⟨I,ds,h⟩) (fun o _ ih=>E0 J call o ih) l
mutual
def V.same(a b:V):Bool:=match a,b with
 |.bool a,.bool b=>a==b
 |.int j a,.int k b=>me j k&&qO a b
 |.str a,.str b=>leq a b
 |.kt,.kt|.al,.al|.qh,.qh|.lK,.lK|.og,.og=>true
 |.ptr f k i r,.ptr g l j q=>pa f g&&Nat.beq k l&&Nat.beq i j&&Nat.beq r q
 |.ag f k o n e c,.ag g l p m cD d=>pa f g&&Nat.beq k l&&Nat.beq o p&&Nat.beq n m&&Nat.beq e cD&&(match c,d with|none,none=>true|some x,some y=>Nat.beq x y|_,_=>false)
 |.map f,.map g=>pa f g
 |.fn f xs cV,.fn g cT ws=>decide (f=g)&&V.py xs cT&&V.py cV ws
 |.jk f,.jk g=>pa f g
 |.kD t x,.kD u y=>Nat.beq t u&&V.same x y
 |.agg xs,.agg cV=>V.py xs cV
 |.bk xs,.bk cV=>V.py xs cV
 |.num j,.num k=>me j k
 |_,_=>false
def V.py(a b:List V):Bool:=match a,b with
 |[],[]=>true
 |x::xs,y::cV=>V.same x y&&V.py xs cV
 |_,_=>false
end
structure Rec where
 i:Nat
 f:IR
 I:Fr
 v:V
def Pw(h:H)(r:Rec):Bool:=match r.f.f r.I h with
 |some v=>V.same v r.v
 |none=>false
def check(h:H)(is:List Nat):List Rec->Bool
 |[]=>true
 |r::aD=>match is.any (Nat.beq r.i)with
  |true=>match Pw h r with
   |true=>check h is aD
   |false=>false
  |false=>check h is aD
def kK(h:H)(is:List Nat)(aD:List Rec):Bool:=match is with
 |[]=>true
 |_=>check h is aD
def ky(J:Prog)(call:iy):List (bH×List Nat) ->Nat->List Rec->Fr->H->dB->Out
 |[],_,_,I,h,ds=>.norm ⟨I,ds,h⟩
 |(o,b)::os,i,aD,I,h,ds=>match wanted o.guard I with
  |none=>.no
  |some true=>match o.op with
   |.rd f=>match f.f I h with
    |some v=>ky J call os (i+1) (⟨i,f,I,v⟩::aD) (cX o.dst v I) h ds
    |none=>.no
   |.mk f=>match h.get h.next with
    |none=>(bn.mk f).k J call I h ds fun v aa ds=>ky J call os (i+1) aD (cX o.dst v I) aa ds
    |some _=>.no
   |op=>op.k J call I h ds fun v aa ds=>match kK aa b aD with
    |true=>ky J call os (i+1) aD (cX o.dst v I) aa ds
    |false=>.no
  |some false=>ky J call os (i+1) aD (cX o.dst (.bk []) I) h ds
def zV:List S->List V->Fr->Option Fr
 |[],[],I=>some I
 |p::ps,v::aF,I=>zV ps aF (I.set v p)
 |_,_,_=>none
def kZ:List V->Nat->Fr->Fr
 |[],_,I=>I
 |v::aF,n,I=>kZ aF (n+1) (I.set v (a0 n))
def results(h:H)(I:Fr):List qG->Option (List V)
 |[]=>some []
 |.tmp p::aD=>match results h I aD with
  |some aF=>some ((X.t p).a7 I::aF)
  |none=>none
 |.cell p agg n::aD=>match DR agg n (.t p) I h with
  |some v=>match results h I aD with
   |some aF=>some (v::aF)
   |none=>none
  |none=>none
def zM(aF:List V):V:=match aF with
 |[v]=>v
 |aF=>.bk aF
def D0(J:Prog):dB->Bool
 |[]=>true
 |(.fn (.func g) [] _,[])::ds=>J.quiet g&&D0 J ds
 |_=>false
abbrev Self:=C->eM->Out
def leave(J:Prog)(res:List qG)(s:eM):Option (V×H):=match D0 J s.ds with
 |true=>match results s.h s.I res with
  |some aF=>some (zM aF,s.h)
  |none=>none
 |false=>none
def wX(self:Self)(J:Prog)(g:FuncId)(args:List V)(h:H):Option (V×H):=
 match J.funcs g with
 |some fn=>match Nat.ble args.length fn.n with
  |true=>match self fn.body ⟨kZ args 0 Fr.e,[],h⟩with
   |.norm s=>leave J fn.res s
   |.ret s=>leave J fn.res s
   |_=>none
  |false=>none
 |none=>none
def ri(self:Self)(J:Prog)(g:FuncId)(args:List V)(h:H):Option (V×H):=
 match J.spec g args h with
 |some r=>some r
 |none=>wX self J g args h
def endRound(l:P)(s:eM)(fE:Option o0):Option (V×H):=match s.h.get l with
 |some (.loop _ _ fh ps assign body)=>match fE with
  |none=>some (.bool true,s.h.set l (.loop .ready none fh ps assign body))
  |e=>some (.bool false,s.h.set l (.loop .done e fh ps assign body))
 |_=>none
def BG(self:Self)(l:P)(args:List V)(h:H):Option (V×H):=
 match h.get l with
 |some (.loop .ready _ fh ps assign body)=>match zV ps args fh with
  |some I=>match self assign ⟨I,[],h⟩with
   |.norm s=>match s.h.get l with
    |some (.loop .ready fE fh ps assign aAc)=>match self body ⟨s.I,s.ds,s.h.set l (.loop .busy fE fh ps assign aAc)⟩with
     |.norm s=>endRound l s none
     |.ret s=>endRound l s (some .ret)
     |.exit i s=>endRound l s (some (.exit i))
     |.goto i s=>endRound l s (some (.goto i))
     |.no=>none
    |_=>none
   |_=>none
  |none=>none
 |_=>none
def gT(self:Self)(J:Prog)(f:V)(args:List V)(h:H):Option (V×H):=
 match f with
 |.fn (.func g) first cap=>match first,cap with
  |[],[]=>ri self J g args h
  |_,_=>ri self J g (first++args++cap) h
 |.jk l=>BG self l args h
 |_=>none
abbrev so:=Self->Prog->eM->Out
def W1:so:=fun _ _ s=>.norm s
def avJ(ops:List bH):so:=fun self J s=>ig J (gT self J) ops s.I s.h s.ds
def aAd(ops:List (bH×List Nat)):so:=fun self J s=>ky J (gT self J) ops 0 [] s.I s.h s.ds
def U8(a b:C):so:=fun self _ s=>match self a s with
 |.norm s=>self b s
 |o=>o
def W2(x:X)(a b:C):so:=fun self _ s=>match(x.a7 s.I)with
 |.bool true=>self a s
 |.bool false=>self b s
 |_=>.no
def XA(id:Nat)(c:C):so:=fun self _ s=>match self c s with
 |.exit j s=>match Nat.beq j id with|true=>.norm s|false=>.exit j s
 |o=>o
def W3(c:C):so:=fun self _ s=>match self c s with
 |.norm s=>self (.loop c) s
 |o=>o
def pz(l:P)(I:Fr)(ds:dB)(h:H):Out:=match h.get l with
 |some (.loop .busy _ _ _ _ _)=>.no
 |some (.loop _ fE fh ps assign body)=>
  match fE with
  |none=>.norm ⟨I,ds,h.set l (.loop .yI fE fh ps assign body)⟩
  |some .norm=>.no
  |some .ret=>.ret ⟨I,ds,h.set l (.loop .yI fE fh ps assign body)⟩
  |some (.exit i)=>.exit i ⟨I,ds,h.set l (.loop .yI fE fh ps assign body)⟩
  |some (.goto i)=>.goto i ⟨I,ds,h.set l (.loop .yI fE fh ps assign body)⟩
 |_=>.no
def Am(x:X)(ps:List S)(assign body:C):so:=fun self J s=>
 match x.a7 s.I with
 |.fn (.func g) first cap=>match wX self J g (first++[.jk s.h.next]++cap) (s.h.new (.loop .ready none s.I ps assign body))with
  |some (_,h)=>pz s.h.next s.I s.ds h
  |none=>.no
 |_=>.no
def aAe(id:Nat):so:=fun _ _ s=>.exit id s
def aAf(l:Nat):so:=fun _ _ s=>.goto l s
def XB(c:C):so:=fun self _ s=>match self c s with
 |.goto _ _=>.no
 |o=>o
def avK:so:=fun _ _ s=>.ret s
def avL:so:=fun _ _ _=>.no
def C.e(c:C):so:=match c with
 |.skip=>W1|.label=>W1|.cF ops=>avJ ops|.qi ops=>aAd ops|.seq a b=>U8 a b|.cond x a b=>W2 x a b
 |.block id c=>XA id c|.loop c=>W3 c|.hp x ps a b=>Am x ps a b|.exit id=>aAe id|.goto l=>aAf l|.scope c=>XB c|.ret=>avK|.bad _=>avL
def exec(J:Prog)(n:Nat):C->eM->Out:=
 @Nat.rec (fun _=>C->eM->Out) (fun _ _=>.no) (fun _ self c s=>c.e self J s) n
def jm:List Nat->Nat->Int
 |[],_=>.negSucc 0
 |b::l,c=>match Nat.beq b c with
  |true=>.ofNat 0
  |false=>match jm l c with
   |.ofNat n=>.ofNat (n+1)
   |.negSucc _=>.negSucc 0
def Cs:List Nat->List Nat->Bool
 |[],_=>true
 |_::_,[]=>false
 |a::x,b::y=>match Nat.beq a b with
  |true=>Cs x y
  |false=>false
def rS:List Nat->List Nat->Int
 |[],sub=>match sub with
  |[]=>.ofNat 0
  |_=>.negSucc 0
 |b::l,sub=>match Cs sub (b::l)with
  |true=>.ofNat 0
  |false=>match rS l sub with
   |.ofNat n=>.ofNat (n+1)
   |.negSucc _=>.negSucc 0
def JY:List Nat->Nat->Nat
 |[],_=>0
 |b::l,c=>match Nat.beq b c with
  |true=>JY l c+1
  |false=>JY l c
def F1(x:Int):List Int->List Int
 |[]=>[x]
 |y::cV=>match oI y x with
  |true=>y::F1 x cV
  |false=>x::y::cV
def Bm:List Int->List Int
 |[]=>[]
 |x::xs=>F1 x (Bm xs)
abbrev eX:=List V->H->Option (V×H)
def X5:eX:=fun args h=>match args with
 |[x]=>some (x,h)
 |_=>none
def X6:eX:=fun args h=>match args with
 |[.str s,.int .u8 (.ofNat b)]=>match Nat.blt b 256 with
  |true=>some (.int .i64 (.ofNat (JY s b)),h)
  |false=>none
 |_=>none
def K7:eX:=fun args h=>match args with
 |[.str s,.int .u8 (.ofNat b)]=>match Nat.blt b 256 with
  |true=>some (.int .i64 (jm s b),h)
  |false=>none
 |_=>none
def U9(a b:List Nat):Int:=match leq a b with
 |true=>.ofNat 0
 |false=>match wC a b with
  |true=>.negSucc 0
  |false=>.ofNat 1
def W4:eX:=fun args h=>match args with
 |[.str s,.str b]=>some (.int .i64 (U9 s b),h)
 |_=>none
def Li(w1:P):eX:=fun args h=>match args with
 |[.str s,.str b]=>match h.get w1 with
  |some (.cells [.num .i64] 0 0 _ _)=>match Nat.blt s.length 4294967281 with
   |true=>some (.int .i64 (rS s b),h)
   |false=>none
  |_=>none
 |_=>none
def XC(ty:TypeId):eX:=fun args h=>match args with
 |[.int .i64 (.ofNat n)]=>match Nat.ble n 1099511627776 with
  |true=>some (.ag h.next 0 0 n 1 none,h.new (.cells (e2 [.fO] n) 0 0 .rw ty))
  |false=>none
 |_=>none
def t6(e:V×V×Nat):Bool:=match e.2.1 with
 |.bool b=>b
 |_=>true
def Px(b:Nat)(k:Int):List (V×V×Nat) ->Bool
 |[]=>false
 |(.int .i64 ch,_,b3)::es=>match Nat.beq b b3 with
  |true=>true
  |false=>match qO k ch with
   |true=>true
   |false=>Px b k es
 |_=>true
def KQ(c:Nat):List (V×V×Nat) ->Bool
 |[]=>true
 |(.int .i64 k,.bool _,b)::es=>match Nat.blt b c with
  |true=>match Px b k es with
   |true=>false
   |false=>KQ c es
  |false=>false
 |_=>false
def KR:List (V×V×Nat) ->Option (List Int)
 |[]=>some []
 |(.int .i64 n,_,_)::es=>match oI n (.negSucc 9223372036854775807)||oI (.ofNat 9223372036854775807) n with
  |true=>none
  |false=>match KR es with
   |some l=>some (n::l)
   |none=>none
 |_=>none
def Yx(HE:FuncId)(ty uu:TypeId):eX:=fun args h=>match args with
 |[.fn (.func g) [] [.ptr b 0 0 1]]=>match Nat.beq g HE with
  |true=>match h.get b with
   |some (.cells [.map cU] 0 0 md HF)=>match h.get cU with
    |some (.map es c)=>match md.akq&&Nat.beq HF uu&&KQ c es&&Nat.ble es.length 1048576 with
     |true=>match KR es with
      |some eR=>match Bm eR with
       |[]=>some (.al,h)
       |n::ly=>some (.ag h.next 0 0 (n::ly).length 1 none,h.new (.cells ((n::ly).map fun n=>.int .i64 n) 0 0 .rw ty))
      |none=>none
     |false=>none
    |_=>none
   |_=>none
  |false=>none
 |_=>none
def W5(tn:FuncId):eX:=fun args h=>match args with
 |[.map cU,.fn (.func g) [] []]=>match Nat.beq g tn with
  |true=>match h.get cU with
   |some (.map es c)=>match KQ c es with
    |true=>some (.bk [],(h.new (.cells [] 0 1 .ro 0)).set cU (.map (es.filter t6) c))
    |false=>none
   |_=>none
  |false=>none
 |_=>none
structure al2 where
 Yy:FuncId
 count:FuncId
 jm:FuncId
 index:FuncId
 make:FuncId
 cmp:FuncId
 sorted:FuncId
 keys:FuncId
 del:FuncId
 afz:FuncId
 maxLen:P
 alc:TypeId
 akr:TypeId
 aks:TypeId
def Gr(S:al2)(f:FuncId):eX:=fun args h=>
 match Nat.beq f S.Yy with
 |true=>X5 args h
 |false=>match Nat.beq f S.count with
  |true=>X6 args h
  |false=>match Nat.beq f S.jm with
   |true=>K7 args h
   |false=>match Nat.beq f S.index with
    |true=>Li S.maxLen args h
    |false=>match Nat.beq f S.make with
     |true=>XC S.alc args h
     |false=>match Nat.beq f S.cmp with
      |true=>W4 args h
      |false=>match Nat.beq f S.sorted with
       |true=>Yx S.keys S.akr S.aks args h
       |false=>match Nat.beq f S.del with
        |true=>W5 S.afz args h
        |false=>none
section comp
variable (p:Program)(N:Nat)
def wc:Nat->Value->Option V
 |0,_=>none
 |n+1,v=>
  match v with
  |.bool b=>some (.bool b)
  |.int k i=>some (.int k i)
  |.string s=>some (.str (s.data.toList.map UInt8.toNat))
  |.pointer none=>some .kt
  |.slice none 0 0=>some .al
  |.map none=>some .qh
  |.nilFunc=>some .lK
  |.nilIface=>some .og
  |.iface t v=>(wc n v).map (.kD t)
  |.agg cs=>match cs.toList.mapM (wc n)with
   |some l=>if l.all V.leaf then some (.agg l)else none
   |none=>none
  |.tuple cs=>(cs.toList.mapM (wc n)).map .bk
  |.func g first cap=>do some (.fn g (<-first.toList.mapM (wc n)) (<-cap.toList.mapM (wc n)))
  |_=>none
def hd(t:TypeId):Option TypeDesc:=p.underlying t
def gM(t:TypeId):Option Nat:=(p.info? t).map (·.size)
def D1(t:TypeId):Bool:=match hd p t with|some (.map ..)=>true|_=>false
def lj(t:TypeId):Option Bool:=match hd p t with
 |some (.struct _)|some (.array _ _)=>some true
 |some _=>some false
 |none=>none
def pA(t:TypeId):Option (List V):=do
 let z<-(<-p.info? t).zero
 let l<-z.cells.toList.mapM (wc 20)
 if l.all V.leaf then some l else none
def zeroV(t:TypeId):Option V:=do wc 20 (<-(<-p.info? t).zero)
def di:Operand->Option X
 |.tmp t=>if t<N then some (.t (a0 t))else none
 |.const v=>(wc 20 v).map .c
 |.global g=>do some (.c (.ptr (gQ g) 0 0 (<-gM p (<-p.globals[g]?).type)))
 |.func f=>some (.c (.fn (.func f) [] []))
def Bv(g:TypeId->Option (List ho)):List Field->List ho->Option (List ho)
 |[],acc=>some acc
 |f::bt,acc=>if f.name≠ "_"/\f.offset=acc.length then
   match g f.type with
   |some k=>Bv g bt (acc++k)
   |none=>none
  else none
def flat:Nat->TypeId->Option (List ho)
 |0,_=>none
 |n+1,t=>
  match(match p.underlying t with
   |some .bool=>some [.fL]
   |some (.int _)=>some [.li]
   |some .string=>some [.bF]
   |some (.struct bt)=>if p.stoodInHeld t then none else Bv (flat n) bt.toList []
   |some (.array m e)=>match flat n e with
    |some k=>some (e2 k m)
    |none=>none
   |_=>none:Option (List ho))with
  |some k=>if gM p t=some k.length then some k else none
  |none=>none
def yJ(t:TypeId):Q:=match p.underlying t with
 |some .bool=>.bool|some (.int _)=>.int|some .string=>.str|some (.pointer e)=>(if(gM p e).getD 0=0 then .bad else .ptr)
 |some (.slice _)=>.ag|some (.map ..)=>.map|some (.func ..)=>.fn|some (.interface _)=>.kD
 |some (.struct _)|some (.array ..)=>match flat p 20 t with|some eR=>if p.eqGuardType p.depth t then .bad else .agg eR|none=>.bad
 |_=>.bad
def pY(t:TypeId):Option Q:=match yJ p t with
 |.bool=>some .bool|.int=>some .int|.str=>some .str|.ptr=>some .ptr|_=>none
def gU(t:TypeId):Option Nat:=do
 let n<-gM p t
 if n=0 then none else some n
def An(o:Oper):Option d5:=
 match o.op with
 |.move x|.assign x=>do some (.dd (<-di p N x))
 |.pick c a b=>do some (.pick (<-di p N c) (<-di p N a) (<-di p N b))
 |.build t ps=>do
  let z<-pA p t
  match<-hd p t with
  |.struct bt=>do
   if !bt.toList.all (fun f=>(gM p f.type).isSome)then none
   let ps<-ps.toList.mapM fun(i,x)=>do
    let f<-bt[i]?
    some (f.offset,<-gU p f.type,<-di p N x)
   some (.build z ps)
  |.array _ e=>do
   let n<-gU p e
   let ps<-ps.toList.mapM fun(i,x)=>do some (i*n,n,<-di p N x)
   some (.build z ps)
  |_=>none
 |.nilCheck x=>do some (.Xx (<-di p N x))
 |.binOp op t x y _=>do some (.bin op (match yJ p t,x,y with|.kD,.const _,_=>.A7|.kD,_,.const _=>.A7|q,_,_=>q) (<-di p N x) (<-di p N y))
 |.unOp op _ x=>do some (.un op (<-di p N x))
 |.convert s d x=>do
  let x<-di p N x
  match<-hd p s,<-hd p d with
  |.int _,.int k=>some (.Mw k x)
  |.string,.string=>some (.ae8 x)
  |.int _,.string=>some (.UY x)
  |_,_=>none
 |.makeInterface t x=>do
  match<-hd p t with
  |.interface _=>none
  |_=>some (.aaE t (<-di p N x))
 |.makeFunc g first cap=>do some (.RE g (<-first.toList.mapM (di p N)) (<-cap.toList.mapM (di p N)))
 |.slice t x br ai eo=>do
  let x<-di p N x
  let br<-br.mapM (di p N)
  let ai<-ai.mapM (di p N)
  let eo<-eo.mapM (di p N)
  if eo.isSome&&ai.isNone then none
  match<-hd p t with
  |.string=>match eo with|none=>some (.WY x br ai)|some _=>none
  |.slice e=>do some (.A8 (<-gU p e) x br ai eo)
  |.array n e=>do some (.akm (<-gU p e) n x br ai eo)
  |_=>none
 |.fieldAddr t x f=>do
  let .struct bt<-hd p t|none
  let f<-bt[f]?
  some (.er f.offset (<-gU p f.type) (<-di p N x))
 |.field t x f=>do
  let .struct bt<-hd p t|none
  let f<-bt[f]?
  some (.RF (<-lj p f.type) f.offset (<-gU p f.type) (<-di p N x))
 |.indexAddr t x i=>do
  match<-hd p t with
  |.slice e=>do some (.lL (<-gU p e) (<-di p N x) (<-di p N i))
  |.array n e=>do some (.KG (<-gU p e) n (<-di p N x) (<-di p N i))
  |_=>none
 |.index t x i=>do
  match<-hd p t with
  |.string=>do some (.Gp (<-di p N x) (<-di p N i))
  |.array n e=>do some (.OZ (<-lj p e) (<-gU p e) n (<-di p N x) (<-di p N i))
  |_=>none
 |.typeAssert x _ t ok=>do
  match<-hd p t with
  |.interface _=>none
  |_=>some (.al0 t (<-zeroV p t) ok (<-di p N x))
 |.extract x i=>do some (.uY i (<-di p N x))
 |.call c=>do
  let args<-c.args.toList.mapM (di p N)
  match c.callee,args with
  |.builtin .len,[x]=>do
   match<-hd p (<-c.argTypes[0]?)with
   |.array n _=>some (.UZ n)
   |.pointer a=>match<-hd p a with|.array n _=>some (.UZ n)|_=>none
   |.string=>some (.jO true x)
   |.slice _=>some (.jO false x)
   |_=>none
  |.builtin .cap,[x]=>do
   match<-hd p (<-c.argTypes[0]?)with
   |.slice _=>some (.ae9 x)
   |_=>none
  |.builtin .min,[a,b]=>some (.afa a b)
  |.builtin .max,[a,b]=>some (.imax a b)
  |.builtin .unsafeSliceData,[x]=>some (.aaF x)
  |_,_=>none
 |_=>none
def Ao(o:Oper):Option IR:=
 match o.op with
 |.load t a=>do some (.load (<-lj p t) (<-gU p t) (<-di p N a))
 |.convert s d x=>do
  let x<-di p N x
  match<-hd p s,<-hd p d with
  |.slice e,.string=>match<-hd p e with|.int .u8=>some (.FW x)|_=>none
  |.pointer e,.unsafePointer=>do
   let _<-gU p e
   some (.U1 x)
  |.unsafePointer,.pointer e=>do some (.U2 e (<-gU p e) x)
  |_,_=>none
 |.lookup t x i ok=>do
  let .map k e<-hd p t|none
  some (.lookup (<-pY p k) (<-zeroV p e) ok (<-di p N x) (<-di p N i))
 |.call c=>do
  let args<-c.args.toList.mapM (di p N)
  match c.callee,args with
  |.builtin .len,[x]=>do
   match<-hd p (<-c.argTypes[0]?)with
   |.map .. =>some (.U0 x)
   |_=>none
  |_,_=>none
 |_=>none
def Ap(o:Oper):Option kg:=
 match o.op with
 |.alloc t=>do
  let z<-pA p t
  let n<-gU p t
  if z.length=n then some (.alloc t z)else none
 |.box t x=>do some (.box t (<-gU p t) (<-di p N x))
 |.buildSlice t len ps=>do
  let .slice e<-hd p t|none
  let n<-gU p e
  let z<-pA p e
  let ps<-ps.toList.mapM fun(i,x)=>do some (i*n,n,<-di p N x)
  if z.length=n/\len*n<=2^24 then some (.K4 e n len z ps)else none
 |.convert s d x=>do
  let x<-di p N x
  match<-hd p s,<-hd p d with
  |.string,.slice e=>match<-hd p e with|.int .u8=>some (.afb e x)|.int .i32=>some (.afc e x)|_=>none
  |_,_=>none
 |.makeMap _ none=>some .akn
 |.makeSlice t l c=>do
  let .slice e<-hd p t|none
  let z<-pA p e
  let n<-gU p e
  if z.length=n then some (.U3 e n (<-p.info? e).bytes z (<-di p N l) (<-di p N c))else none
 |.range t x=>do
  match<-hd p t with
  |.string=>do some (.N1 (<-di p N x))
  |_=>none
 |_=>none
def Ct(o:Oper):Option g7:=
 match o.op with
 |.store t a x=>do some (.store (<-gU p t) (<-di p N a) (<-di p N x))
 |.mapUpdate t m k x|.insert t m k x=>do
  let .map nu _<-hd p t|none
  some (.Xy (<-pY p nu) (<-di p N m) (<-di p N k) (<-di p N x))
 |.range t x=>do
  match<-hd p t with
  |.map .. =>do some (.U4 (<-di p N x))
  |_=>none
 |.next it s=>do some (.yH s (<-di p N it))
 |.entry it=>do some (.entry (<-di p N it))
 |.call c=>do
  let args<-c.args.toList.mapM (di p N)
  match c.callee,args with
  |.builtin .append,[a,b]=>match c.argTypes.toList with
   |[lz,fk]=>do
    let .slice e<-hd p lz|none
    let n<-gU p e
    let z<-pA p e
    if z.length=n/\D1 p e=false then
     match<-hd p fk with
     |.int _=>some (.afd e n (<-p.info? e).bytes z a b)
     |.slice _|.string=>some (.app e n (<-p.info? e).bytes a b)
     |_=>none
    else none
   |_=>none
  |.builtin .copy,[a,b]=>do
   let .slice e<-hd p (<-c.argTypes[0]?)|none
   some (.copy (<-gU p e) a b)
  |.builtin .delete,[m,k]=>do
   let .map nu _<-hd p (<-c.argTypes[0]?)|none
   some (.del (<-pY p nu) m k)
  |.builtin .clear,[x]=>do
   match<-hd p (<-c.argTypes[0]?)with
   |.map .. =>some (.afe x)
   |.slice e=>do
    let z<-pA p e
    let n<-gU p e
    if z.length=n then some (.N2 n z x)else none
   |_=>none
  |.builtin .unsafeString,[a,b]=>do
   let .pointer e<-hd p (<-c.argTypes[0]?)|none
   match<-gU p e with
   |1=>some (.aff e a b)
   |_=>none
  |_,_=>none
 |_=>none
def sB(r:Bool)(o:Oper):bn:=
 match An p N o with
 |some i=>.pu i
 |none=>match Ao p N o with
  |some i=>.rd i
  |none=>match Ap p N o with
   |some i=>.mk i
   |none=>match Ct p N o with
    |some i=>.wr i
    |none=>match o.op with
     |.call {callee:=.value f,args,..}=>match di p N f,args.toList.mapM (di p N)with
      |some f,some args=>.call f args
      |_,_=>.bad 1
     |.defer {callee:=.value f,args,..}=>match r,di p N f,args.toList.mapM (di p N)with
      |false,some f,some args=>.defer f args
      |_,_,_=>.bad 3
     |_=>.bad 4
def zg(t:Option Nat):Option (Option S):=match t with
 |none=>some none
 |some t=>if t<N then some (some (a0 t))else none
def xg(r:Bool)(ops:Array Oper)(o:Oper):Option bH:=do
 let g<-match o.guard with
  |none=>some none
  |some (j,b)=>match(ops[j]?).bind (·.dst)with
   |some d=>if d<N then some (some (a0 d,b))else none
   |none=>none
 some {dst:=<-zg N o.dst,op:=sB p N r o,guard:=g}
def bn.Va:bn->Bool|.rd _=>true|_=>false
def bn.q6:bn->Bool|.pu _|.rd _|.mk _=>false|_=>true
def Ba(acc:List Nat)(s:Nat)(e:Edge):Nat:=match Region.binds .any e with
 |true=>(s|||2^e.on)|||(kX acc e.on).getD 0
 |false=>s
def F2(l:List Oper)(acc:List Nat):List Nat:=match l with
 |[]=>acc
 |o::l=>F2 l (acc++[o.after.toList.foldl (Ba acc) 0])
def N6(o:Oper):Nat:=o.after.toList.foldl (Ba []) 0
def Dl(t:Option Nat):Nat:=match t with
 |none=>0
 |some t=>2^t
def F3(s:Nat)(q:Operand):Nat:=match q with
 |.tmp t=>s|||2^t
 |_=>s
def s6(ops:Array Oper)(o:Oper):Nat:=
 (o.op.operands.toList.foldl F3 (Dl o.dst))|||(match o.guard with|some (j,_)=>Dl ((ops[j]?).bind (·.dst))|none=>0)
structure i4 where
 id:Nat
 gv:Nat
 em:Nat
 wr:Bool
 rd:Bool
 d:Nat
 n:Nat
 io:bH
def Dm(ops:Array Oper):List Oper->List bH->List Nat->Nat->List i4
 |o::os,io::kU,gv::sC,i=>{id:=i,gv,em:=N6 o,wr:=io.op.q6,rd:=io.op.Va,d:=Dl o.dst,n:=s6 ops o,io}::Dm ops os kU sC (i+1)
 |_,_,_,_=>[]
def aAg(l:List i4):Nat:=l.foldl (fun s x=>match x.wr with|true=>s|||2^x.id|false=>s) 0
def goes(o1:Nat)(x:i4):Bool:=match x.wr with
 |true=>false
 |false=>Nat.beq (x.gv&&&o1) 0
def canon:Nat->List i4->List i4
 |0,l=>l
 |f+1,l=>
  let o1:=aAg l
  let b:=l.filter fun x=>!goes o1 x
  l.filter (goes o1)++match b.find? i4.wr with
   |none=>b
   |some y=>y::canon f (b.filter fun x=>!Nat.beq x.id y.id)
def Py(y x:i4):Bool:=match y.gv.testBit x.id with
 |true=>true
 |false=>match x.wr with
  |true=>false
  |false=>Nat.beq (x.d&&&y.n) 0&&Nat.beq (y.d&&&x.n) 0
def Lj(full:Nat):List i4->List i4->Nat->Bool
 |[],_,m=>Nat.beq m full
 |y::cV,acc,m=>match acc.all (Py y)&&Nat.beq (y.em&&&m) y.em&&!m.testBit y.id with
  |true=>Lj full cV (y::acc) (m|||2^y.id)
  |false=>false
def Gs(y:i4):List (Nat×i4) ->List Nat
 |[]=>[]
 |(k,x)::l=>match y.gv.testBit x.id with
  |true=>Gs y l
  |false=>k::Gs y l
def items:List i4->List (Nat×i4) ->Nat->List (bH×List Nat)
 |[],_,_=>[]
 |y::cV,aD,k=>(y.io,match y.wr with|true=>Gs y aD|false=>[])::items cV (match y.rd with|true=>(k,y)::aD|false=>aD) (k+1)
def Pb(ops:Array Oper)(kU:List bH):C:=
 let l:=canon ops.size (Dm ops ops.toList kU (F2 ops.toList []) 0)
 match Lj (2^ops.size-1) l [] 0 with
 |true=>.qi (items l [] 0)
 |false=>.bad 902
def X7(r:Bool)(ops:Array Oper)(draw:Bool):C:=
 match ops.toList.mapM (xg p N r ops)with
 |none=>.bad 901
 |some kU=>match draw with
  |true=>Pb ops kU
  |false=>.cF kU
def gJ(r:Bool):Code->C
 |.skip=>.skip
 |.region _ ops d=>X7 p N r ops d
 |.seq a b=>.seq (gJ r a) (gJ r b)
 |.cond c a b=>match di p N c with
  |some x=>.cond x (gJ r a) (gJ r b)
  |none=>.bad 903
 |.block id c=>.block id (gJ r c)
 |.loop c=>.loop (gJ r c)
 |.rangeFunc f ps a b=>match r,di p N f with
  |false,some x=>if ps.toList.all (fun t=>decide (t<N))then .hp x (ps.toList.map a0) (gJ true a) (gJ true b)else .bad 906
  |_,_=>.bad 904
 |.exit i=>.exit i
 |.scope c=>.scope (gJ r c)
 |.label _=>.label
 |.goto l=>.goto l
 |.ret=>.ret
 |.refuse _=>.bad 905
def Dn:ResultVar->Option qG
 |.tmp t=>if t<N then some (qG.tmp (a0 t))else none
 |.cell a t=>do if a<N then some (qG.cell (a0 a) (<-lj p t) (<-gU p t))else none
end comp
def zy(p:Program)(f:Func):Option F:=do
 let b<-f.body
 if 512<f.ntmps then none
 let res<-f.results.toList.mapM (Dn p f.ntmps)
 some {n:=f.ntmps,body:=gJ p f.ntmps false b,res}
abbrev lP:=@congrArg
abbrev dI:=@Nat.eq_of_beq_eq_true
abbrev iJ:=@Bool.false_eq_true
abbrev oS:=@List.cons.injEq
abbrev t7:=@false_iff
abbrev cN:=@Option.some.injEq
abbrev bf:=@if_neg
abbrev eG:=@List.length_cons
abbrev bl:=@if_pos
abbrev i9:=@Bool.eq_iff_iff
abbrev lv:=@Nat.blt_eq
theorem D.LA{α:Type}(d:D)(k:α->α)(t:fj α):d.s (d.u k t)=k (d.s t):=by cases d<;>rfl
theorem D.Pz{α:Type}{d e:D}(h:d≠e)(k:α->α)(t:fj α):e.s (d.u k t)=e.s t:=by
 cases d<;>cases e<;>first|rfl|exact absurd rfl h
theorem cA.get_nil{α:Type}(t:cA α):cA.get [] t=t.val:=by cases t<;>rfl
theorem cA.LB{α:Type}(d:D)(k:P)(t:cA α):cA.get (d::k) t=cA.get k (d.s t.hJ):=by
 cases t with
 |e=>show none=cA.get k (d.s cA.gL);cases k<;>cases d<;>rfl
 |n v c=>rfl
theorem cA.set_nil{α:Type}(x:α)(t:cA α):cA.set x [] t=.n (some x) t.hJ:=by cases t<;>rfl
theorem cA.Yz{α:Type}(x:α)(d:D)(k:P)(t:cA α):cA.set x (d::k) t=.n t.val (d.u (cA.set x k) t.hJ):=by
 cases t<;>rfl
theorem cA.gV{α:Type}(x:α):∀(k:P) (t:cA α),cA.get k (cA.set x k t)=some x
 |[],t=>by rw[cA.set_nil,cA.get_nil];rfl
 |d::k,t=>by
  rw[cA.Yz,cA.LB];show cA.get k (d.s (d.u (cA.set x k) t.hJ))=some x;rw[D.LA];exact cA.gV x k _
theorem cA.ej{α:Type}(x:α):∀(k l:P) (t:cA α),k≠l->cA.get l (cA.set x k t)=cA.get l t
 |[],[],_,h=>absurd rfl h
 |[],q::l,t,_=>by rw[cA.set_nil,cA.LB,cA.LB];rfl
 |d::k,[],t,_=>by rw[cA.Yz,cA.get_nil,cA.get_nil];rfl
 |d::k,q::l,t,h=>by
  rw[cA.Yz,cA.LB,cA.LB];show cA.get l (q.s (d.u (cA.set x k) t.hJ))=_;by_cases E1:d=q
  ·subst E1;rw[D.LA];exact cA.ej x k l _ (fun tB=>h (by rw[tB]))
  ·rw[D.Pz E1]
theorem Fr.gV(I:Fr)(v:V)(s:S):(I.set v s).get s=v:=by
 simp only[Fr.get,Fr.set,D.LA]
theorem Fr.ej(I:Fr)(v:V){s t:S}(h:s≠t):(I.set v s).get t=I.get t:=by
 obtain⟨a,b,c⟩:=s;obtain⟨x,y,z⟩:=t;simp only[Fr.get,Fr.set];by_cases aaH:a=x
 ·subst aaH;rw[D.LA];by_cases aaI:b=y
  ·subst aaI;rw[D.LA];have aqr:c≠z:=fun e=>h (by rw[e]);rw[D.Pz aqr]
  ·rw[D.Pz aaI]
 ·rw[D.Pz aaH]
theorem D.ald:∀n,n<8->(D.of n).val=n
 |0,_=>rfl|1,_=>rfl|2,_=>rfl|3,_=>rfl|4,_=>rfl|5,_=>rfl|6,_=>rfl|7,_=>rfl
 |n+8,h=>by omega
theorem D.XD{m n:Nat}(hm:m<8)(aq:n<8)(h:D.of m=D.of n):m=n:=by
 have:=lP D.val h;rwa[D.ald m hm,D.ald n aq]at this
theorem G0{m n:Nat}(hm:m<512)(aq:n<512)(h:a0 m=a0 n):m=n:=by
 simp only[a0,S.mk.injEq]at h;obtain⟨h1,ae,az⟩:=h;have a:=D.XD (by omega) (by omega) h1;have b:=D.XD (by omega) (by omega) ae;have c:=D.XD (by omega) (by omega) az;omega
theorem Fr.aAh(s:S):Fr.e.get s=.bk []:=by
 obtain⟨a,b,c⟩:=s;cases a<;>cases b<;>cases c<;>rfl
theorem gu:∀k:P,aH (rb k)=aH k+1
 |[]=>rfl
 |.z1::k=>by simp[rb,aH,D.val];omega
 |.d1::k=>by simp[rb,aH,D.val];omega
 |.d2::k=>by simp[rb,aH,D.val];omega
 |.nt::k=>by simp[rb,aH,D.val];omega
 |.oy::k=>by simp[rb,aH,D.val];omega
 |.ur::k=>by simp[rb,aH,D.val];omega
 |.qF::k=>by simp[rb,aH,D.val];omega
 |.HD::k=>by simp[rb,aH,D.val,gu k];omega
theorem D.val_inj:∀{d e:D},d.val=e.val->d=e:=by
 intro d e h;cases d<;>cases e<;>first|rfl|(simp[D.val]at h)
theorem x8:∀{k l:P},pa k l=true↔k=l
 |[],[]=>by simp[pa]
 |[],e::l=>by simp[pa]
 |d::k,[]=>by simp[pa]
 |d::k,e::l=>by
  unfold pa;split
  ·rename_i h;have aa:d=e:=D.val_inj (dI h);subst aa;rw[x8 (k:=k) (l:=l)];simp
  ·rename_i h;simp only[iJ,oS,t7,not_and];rintro rfl;simp at h
theorem BH{α:Type}:∀(l:List α) (n:Nat),kX l n=l[n]?
 |[],n=>by simp[kX]
 |x::l,0=>rfl
 |x::l,n+1=>by simp[kX,BH l n]
theorem si{α:Type}:∀(l:List α) (n:Nat),zv l n=l.drop n
 |l,0=>by cases l<;>rfl
 |[],n+1=>rfl
 |x::l,n+1=>by simp[zv,si l n]
theorem He{α:Type}:∀(l:List α) (n:Nat) {r:List α},wB l n=some r->n<=l.length/\r=l.take n
 |l,0,r,h=>by cases l<;>(simp only[wB,cN]at h;subst h;simp)
 |[],n+1,r,h=>by simp[wB]at h
 |x::l,n+1,r,h=>by
  simp only[wB]at h;split at h
  ·rename_i jH aa;obtain⟨a,b⟩:=He l n aa;simp only[cN]at h;subst h b;exact⟨by simp;omega,by simp⟩
  ·simp at h
theorem Ze{α:Type}:∀(l:List α) (n:Nat),n<=l.length->wB l n=some (l.take n)
 |l,0,_=>by cases l<;>simp[wB]
 |[],n+1,h=>by simp at h
 |x::l,n+1,h=>by simp[wB,Ze l n (by simpa using h)]
theorem al3{α:Type}:∀(l:List α) (n:Nat) (v:α),JT l n v=l.set n v
 |[],n,v=>by simp[JT]
 |x::l,0,v=>rfl
 |x::l,n+1,v=>by simp[JT,al3 l n v]
theorem LU{α:Type}:∀(l:List α) (n:Nat) (aF:List α) {r:List α},mO l n aF=some r->
  r.length=l.length/\(aF≠[] ->n+aF.length<=l.length)/\∀i,r[i]?=if n<=i/\i<n+aF.length then aF[i-n]? else l[i]?
 |l,n,[],r,h=>by
  have:r=l:=by cases l<;>cases n<;>simp[mO]at h<;>first|exact h.symm|exact h
  subst this;refine⟨rfl,fun h=>absurd rfl h,fun i=>?_⟩;rw[bf (by simp)]
 |[],n,v::aF,r,h=>by cases n<;>simp[mO]at h
 |x::l,0,v::aF,r,h=>by
  simp only[mO]at h;split at h
  ·rename_i jH aa;obtain⟨a,b,c⟩:=LU l 0 aF aa;simp only[cN]at h;subst h;refine⟨by simp[a],fun _=>?_,fun i=>?_⟩
   ·by_cases ar:aF=[]
    ·subst ar;simp
    ·have:=b ar;simp at this⊢;omega
   ·cases i with
    |zero=>simp
    |succ i=>
     have:=c i;simp only[List.getElem?_cons_succ,this,eG];by_cases ai:i<aF.length
     ·rw[bl (by omega),bl (by omega)];simp
     ·rw[bf (by omega),bf (by omega)]
  ·simp at h
 |x::l,n+1,v::aF,r,h=>by
  simp only[mO]at h;split at h
  ·rename_i jH aa;obtain⟨a,b,c⟩:=LU l n (v::aF) aa;simp only[cN]at h;subst h;refine⟨by simp[a],fun _=>?_,fun i=>?_⟩
   ·have:=b (by simp);simp at this⊢;omega
   ·cases i with
    |zero=>rw[bf (by omega)];simp
    |succ i=>
     have:=c i;simp only[List.getElem?_cons_succ,this];by_cases ai:n<=i/\i<n+(v::aF).length
     ·rw[bl ai,bl (by omega),show i+1-(n+1)=i-n by omega]
     ·rw[bf ai,bf (by omega)]
  ·simp at h
theorem X8:∀{a b:List Nat},leq a b=true↔a=b
 |[],[]=>by simp[leq]
 |[],_::_=>by simp[leq]
 |_::_,[]=>by simp[leq]
 |x::a,y::b=>by
  unfold leq;split
  ·rename_i h;have:=dI h;subst this;rw[X8 (a:=a) (b:=b)];simp
  ·rename_i h;simp only[iJ,oS,t7,not_and];rintro rfl;simp at h
theorem Bw(a b:Int):qO a b=(a==b):=by
 cases a with
 |ofNat x=>cases b with
  |ofNat y=>simp only[qO];rw[i9];simp[Nat.beq_eq];omega
  |negSucc y=>rfl
 |negSucc x=>cases b with
  |ofNat y=>rfl
  |negSucc y=>simp only[qO];rw[i9];simp[Nat.beq_eq]
theorem pE(a b:Int):oI a b=decide (a<b):=by
 cases a with
 |ofNat x=>cases b with
  |ofNat y=>simp only[oI];rw[i9];simp[lv]
  |negSucc y=>simp only[oI];rw[i9];simp;omega
 |negSucc x=>cases b with
  |ofNat y=>simp only[oI];rw[i9];simp;omega
  |negSucc y=>simp only[oI];rw[i9];simp[lv];omega
theorem qC{j k:IntKind}:me j k=true↔j=k:=by cases j<;>cases k<;>simp[me]
abbrev GF:=@Array.getElem?_setIfInBounds_ne
abbrev a1:=@Nat.le_refl
abbrev iK:=@Nat.le_trans
abbrev oW:=@Nat.lt_of_lt_of_le
abbrev dz:=@Nat.lt_or_ge
structure Loc where
 bS:Nat
 base:Nat
 ext:Nat
 lim:Nat
abbrev aW:=P->Nat->Option Loc
def aW.le(M aT:aW):Prop:=∀f k l,M f k=some l->aT f k=some l
theorem aW.le_refl(M:aW):M.le M:=fun _ _ _ h=>h
theorem aW.le_trans{A B C:aW}(h:A.le B)(g:B.le C):A.le C:=fun f k l e=>g f k l (h f k l e)
def DS(v:Value):Bool:=match v with|.agg _=>false|.tuple _=>false|_=>true
inductive eK {α β:Type} (R:α->β->Prop):List α->List β->Prop
 |nil:eK R [] []
 |cons {a b cT bs}:R a b->eK R cT bs->eK R (a::cT) (b::bs)
def gi(b:ByteArray):List Nat:=b.data.toList.map UInt8.toNat
mutual
inductive bm (M:aW):V->Value->Prop
 |bool (b:Bool):bm M (.bool b) (.bool b)
 |int (k:IntKind) (n:Int):bm M (.int k n) (.int k n)
 |str (b:ByteArray):bm M (.str (gi b)) (.string b)
 |kt:bm M .kt (.pointer none)
 |ptr {f:P} {k:Nat} {l:Loc} (off room:Nat) (h:M f k=some l) (aI:off+room<=l.ext):
   bm M (.ptr f k off room) (.pointer (some ⟨l.bS,l.base+off,none⟩))
 |al:bm M .al (.slice none 0 0)
 |ag {f:P} {k:Nat} {l:Loc} {off len es rc:Nat} {cap:Option Nat} {a:Addr} (h:M f k=some l) (au:off+len*es<=l.ext)
   (bN:rc=0\/a=⟨l.bS,l.base+off,none⟩) (hlen:len<=rc)
   (hk:∀c,cap=some c->rc=c/\off+c*es<=l.ext) (hu:cap=none->off+rc*es<=l.lim):bm M (.ag f k off len es cap) (.slice (some a) len rc)
 |qh:bm M .qh (.map none)
 |map {f:P} {l:Loc} (h:M f 0=some l):bm M (.map f) (.map (some l.bS))
 |lK:bm M .lK .nilFunc
 |fn {g:Fn} {a b:List V} {hq gW:Array Value} (bN:dq M a hq.toList) (ah:dq M b gW.toList):bm M (.fn g a b) (.func g hq gW)
 |jk {f:P} {l:Loc} (h:M f 0=some l):bm M (.jk f) (.func (.yield l.bS) #[] #[])
 |og:bm M .og .nilIface
 |kD {t:TypeId} {v:V} {aL:Value} (h:bm M v aL):bm M (.kD t v) (.iface t aL)
 |agg {cs:List V} {aD:Array Value} (h:dq M cs aD.toList) (au:∀c∈cs,c.leaf=true):bm M (.agg cs) (.agg aD)
 |bk {cs:List V} {aD:Array Value} (h:dq M cs aD.toList):bm M (.bk cs) (.tuple aD)
 |fO {r:Value} (h:DS r=true):bm M .fO r
 |num (k:IntKind) (n:Int):bm M (.num k) (.int k n)
inductive dq (M:aW):List V->List Value->Prop
 |nil:dq M [] []
 |cons {v:V} {aL:Value} {aF:List V} {f2:List Value}:bm M v aL->dq M aF f2->dq M (v::aF) (aL::f2)
end
mutual
theorem bm.mono{M aT:aW}(hm:M.le aT):∀{v:V} {r:Value},bm M v r->bm aT v r
 |_,_,.bool b=>.bool b
 |_,_,.int k n=>.int k n
 |_,_,.str b=>.str b
 |_,_,.kt=>.kt
 |_,_,.ptr off room h aI=>.ptr off room (hm _ _ _ h) aI
 |_,_,.al=>.al
 |_,_,.ag h au bN hlen hk hu=>.ag (hm _ _ _ h) au bN hlen hk hu
 |_,_,.qh=>.qh
 |_,_,.map h=>.map (hm _ _ _ h)
 |_,_,.lK=>.lK
 |_,_,.fn bN ah=>.fn (bN.mono hm) (ah.mono hm)
 |_,_,.jk h=>.jk (hm _ _ _ h)
 |_,_,.og=>.og
 |_,_,.kD h=>.kD (h.mono hm)
 |_,_,.agg h au=>.agg (h.mono hm) au
 |_,_,.bk h=>.bk (h.mono hm)
 |_,_,.fO h=>.fO h
 |_,_,.num k n=>.num k n
theorem dq.mono{M aT:aW}(hm:M.le aT):∀{v:List V} {r:List Value},dq M v r->dq aT v r
 |_,_,.nil=>.nil
 |_,_,.cons h t=>.cons (h.mono hm) (t.mono hm)
end
theorem bm.undef(M:aW):bm M (.bk []) undef:=.bk (aD:=#[]) .nil
theorem bm.aHR{M:aW}{v:V}{r:Value}(h:bm M v r):DS r=v.leaf:=by cases h<;>first|rfl|assumption
theorem dq.length{M:aW}:∀{v:List V} {r:List Value},dq M v r->v.length=r.length
 |_,_,.nil=>rfl
 |_,_,.cons _ t=>by simp[t.length]
theorem dq.get{M:aW}:∀{v:List V} {r:List Value},dq M v r->∀{i:Nat} {x:V},v[i]?=some x->∃y,r[i]?=some y/\bm M x y
 |_,_,.nil,_,_,h=>by simp at h
 |_,_,.cons ab t,i,x,h=>by
  cases i with
  |zero=>simp at h;subst h;exact⟨_,by simp,ab⟩
  |succ i=>simp at h;obtain⟨y,ax,aI⟩:=t.get h;exact⟨y,by simpa using ax,aI⟩
theorem dq.append{M:aW}:∀{v:List V} {r:List Value},dq M v r->∀{dg:List V} {jH:List Value},dq M dg jH->dq M (v++dg) (r++jH)
 |_,_,.nil,_,_,h=>h
 |_,_,.cons ab t,_,_,h=>.cons ab (t.append h)
theorem dq.take{M:aW}:∀{v:List V} {r:List Value},dq M v r->∀n,dq M (v.take n) (r.take n)
 |_,_,.nil,n=>by simp;exact .nil
 |_,_,.cons ab t,0=>by simp;exact .nil
 |_,_,.cons ab t,n+1=>by simp;exact .cons ab (t.take n)
theorem dq.drop{M:aW}:∀{v:List V} {r:List Value},dq M v r->∀n,dq M (v.drop n) (r.drop n)
 |_,_,.nil,n=>by simp;exact .nil
 |_,_,.cons ab t,0=>by simp;exact .cons ab t
 |_,_,.cons ab t,n+1=>by simp;exact t.drop n
theorem dq.PA{M:aW}:∀{v:List V} {r:List Value},v.length=r.length->(∀(i:Nat) (x:V) (y:Value),v[i]?=some x->r[i]?=some y->bm M x y) ->dq M v r
 |[],[],_,_=>.nil
 |[],_::_,h,_=>by simp at h
 |_::_,[],h,_=>by simp at h
 |x::v,y::r,h,aC=>.cons (aC 0 x y (by simp) (by simp)) (dq.PA (by simpa using h) fun i a b bN ah=>aC (i+1) a b (by simpa using bN) (by simpa using ah))
structure iX(M:aW)(N:Nat)(I:Fr)(tmps:Array Value):Prop where
 size:tmps.size=N
 le:N<=512
 get:∀n,n<N->∃aL,tmps[n]?=some aL/\bm M (I.get (a0 n)) aL
theorem iX.mono{M aT:aW}{N:Nat}{I:Fr}{tmps:Array Value}(h:iX M N I tmps)(hm:M.le aT):iX aT N I tmps:=
 ⟨h.size,h.le,fun n aq=>let⟨aL,a,b⟩:=h.get n aq;⟨aL,a,b.mono hm⟩⟩
theorem iX.set{M:aW}{N:Nat}{I:Fr}{tmps:Array Value}(h:iX M N I tmps){t:Nat}(bp:t<N){v:V}{aL:Value}(ar:bm M v aL):
  iX M N (I.set v (a0 t)) (tmps.setIfInBounds t aL):=by
 refine⟨by simp[h.size],h.le,fun n aq=>?_⟩;by_cases RH:t=n
 ·subst RH;refine⟨aL,by simp[h.size,aq],?_⟩;rw[Fr.gV];exact ar
 ·obtain⟨r,a,b⟩:=h.get n aq;refine⟨r,by rw[GF RH];exact a,?_⟩;rw[Fr.ej]
  ·exact b
  ·intro e;exact RH (G0 (by have:=h.le;omega) (by have:=h.le;omega) e)
def s7(M:aW)(e:V×V×Nat)(r:MapEntry):Prop:=bm M e.1 r.key/\bm M e.2.1 r.val/\e.2.2=r.born
theorem eK.imp{α β:Type}{R S:α->β->Prop}(h:∀a b,R a b->S a b):∀{cT:List α} {bs:List β},eK R cT bs->eK S cT bs
 |_,_,.nil=>.nil
 |_,_,.cons x t=>.cons (h _ _ x) (t.imp h)
def Bb(s:tk):LoopState:=match s with|.ready=>.ready|.busy=>.busy|.done=>.done|.yI=>.exhausted
def u0(e:Option o0):Option Code:=match e with
 |none=>none
 |some .norm=>some .skip
 |some .ret=>some .ret
 |some (.exit i)=>some (.exit i)
 |some (.goto i)=>some (.goto i)
inductive nJ (p:Program) (M:aW):O->Obj->Prop
 |map {es:List (V×V×Nat)} {aD:Array MapEntry} {gE:Nat} (h:eK (s7 M) es aD.toList):nJ p M (.map es gE) (.map aD gE)
 |mz (b:ByteArray) (pos:Nat):nJ p M (.mz ((gi b).drop pos) pos) (.stringIter b pos)
 |PB {since st:Nat} {seen:Array Nat}:nJ p M (.kI none since seen.toList st) (.mapIter none since seen st)
 |kI {m:P} {l:Loc} {since st:Nat} {seen:Array Nat} (h:M m 0=some l):nJ p M (.kI (some m) since seen.toList st) (.mapIter (some l.bS) since seen st)
 |loop {st:tk} {fE:Option o0} {fh:Fr} {N:Nat} {l:Loop} (aA:l.state=Bb st) (bh:l.pending=u0 fE) (aE:iX M N fh l.tmps)
   (Aq:∀t∈l.params.toList,t<N):nJ p M (.loop st fE fh (l.params.toList.map a0) (gJ p N true l.assign) (gJ p N true l.body)) (.loop l)
theorem nJ.mono{p:Program}{M aT:aW}(hm:M.le aT){o:O}{cL:Obj}(h:nJ p M o cL):nJ p aT o cL:=by
 cases h with
 |map h=>exact .map (h.imp fun _ _ ⟨a,b,c⟩=>⟨a.mono hm,b.mono hm,c⟩)
 |mz b pos=>exact .mz b pos
 |PB=>exact .PB
 |kI h=>exact .kI (hm _ _ _ h)
 |loop aA bh aE Aq=>exact .loop aA bh (aE.mono hm) Aq
def O.k2(o:O):Bool:=match o with|.cells .. =>true|_=>false
def Lk(o:Obj):Bool:=match o with|.cells .. =>true|_=>false
theorem nJ.X9{p:Program}{M:aW}{o:O}{cL:Obj}(h:nJ p M o cL):o.k2=false/\Lk cL=false:=by cases h<;>exact⟨rfl,rfl⟩
def H.dE(h:H)(f:P)(k:Nat):Prop:=match h.get f with
 |some (.cells _ aZ dead _ _)=>dead<=k/\k<=aZ
 |some _=>k=0
 |none=>False
def H.jU(h:H)(f:P)(k:Nat):Prop:=h.dE f k/\∀xs aZ dead ty,h.get f≠some (.cells xs aZ dead .ro ty)
def Pc(p:Program)(ty:TypeId)(b:Nat):Prop:=(∀s,gM p ty=some s->b%s=0)/\(D1 p ty=true->b=0)
theorem Pc.zero(p:Program)(ty:TypeId):Pc p ty 0:=⟨fun s _=>Nat.zero_mod s,fun _=>rfl⟩
structure ou(p:Program)(M:aW)(xs:List V)(md:kN)(ty:TypeId)(own:Bool)(l:Loc)(bh:Array Obj):Prop where
 mod:md≠.ro->Pc p ty l.base
 ext:l.ext<=xs.length
 own:own=true->l.ext=xs.length
 cells:∃c du,bh[l.bS]?=some (.cells c ty du)/\l.base+l.lim<=c.size/\
  (∀i v,i<l.ext->xs[i]?=some v->∃aL,c[l.base+i]?=some aL/\bm M v aL/\v.leaf=true)/\
  (md=.rw->∀i,i<l.lim->¬(du.1<=l.base+i/\l.base+i<du.2))
structure Rel(p:Program)(M:aW)(h:H)(bh:Array Obj):Prop where
 i5:∀f k l,M f k=some l->l.bS<bh.size/\aH f<aH h.next/\l.ext<=l.lim/\∃dO,M f 0=some dO
 cells:∀f xs aZ dead md ty dO,h.get f=some (.cells xs aZ dead md ty) ->M f 0=some dO->∀k,dead<=k->k<=aZ->
  ∃l,M f k=some l/\ou p M xs md ty (k==aZ) l bh
 oh:∀f o l,h.get f=some o->o.k2=false->M f 0=some l->l.base=0/\∃cL,bh[l.bS]?=some cL/\nJ p M o cL
 sep:∀f k l g j m,h.dE f k->M f k=some l->h.dE g j->M g j=some m->f≠g->(h.jU f k\/h.jU g j) ->l.bS≠m.bS
 n6:∀f xs aZ dead md ty k,h.get f=some (.cells xs aZ dead md ty) ->aZ<k->M f k=none
 po:∀f o k,h.get f=some o->o.k2=false->0<k->M f k=none
 base:∀f k l j m,M f k=some l->M f j=some m->l.bS=m.bS->l.base=m.base
 lD:∀f,aH h.next<=aH f->h.get f=none
structure Step(p:Program)(M:aW)(h:H)(w:World)(aT:aW)(aa:H)(w':World):Prop where
 rel:Rel p aT aa w'.heap
 mono:M.le aT
 next:aH h.next<=aH aa.next
 size:w.heap.size<=w'.heap.size
 fresh:∀f k l,aT f k=some l->M f k=none->aH h.next<=aH f\/(M f 0).isSome=true
 s8:∀b,b<w.heap.size->(∀f k l,h.jU f k->M f k=some l->l.bS≠b) ->w'.heap[b]?=w.heap[b]?
 uH:∀f k l,aa.jU f k->aT f k=some l->w.heap.size<=l.bS\/∃g j m,h.jU g j/\M g j=some m/\m.bS=l.bS
 u1:∀f k l,aa.dE f k->aT f k=some l->w.heap.size<=l.bS\/∃g j m,h.dE g j/\M g j=some m/\m.bS=l.bS
 wK:∀f,aH f<aH h.next->M f 0=none->aa.get f=h.get f
 os:w'.os=w.os
 out:w'.output=w.output
 tape:w'.tape=w.tape
 zG:∀f k l,aT f k=some l->M f k=none->aH h.next<=aH f\/(h.get f).isSome=true
 tn:∀f,aH f<aH h.next->(aa.get f).isSome=true->(h.get f).isSome=true
theorem Step.refl{p:Program}{M:aW}{h:H}{w w':World}(aI:Rel p M h w.heap)(aJ:w'.heap=w.heap)(h1:w'.os=w.os)(ae:w'.output=w.output)
  (az:w'.tape=w.tape):Step p M h w M h w':=
 {rel:=by rw[aJ];exact aI
  mono:=aW.le_refl M
  next:=a1 _
  size:=by rw[aJ];exact a1 _
  fresh:=fun f k l a b=>by rw[a]at b;cases b
  s8:=fun b _ _=>by rw[aJ]
  uH:=fun f k l a b=>.inr ⟨f,k,l,a,b,rfl⟩
  u1:=fun f k l a b=>.inr ⟨f,k,l,a,b,rfl⟩
  wK:=fun _ _ _=>rfl
  os:=h1,out:=ae,tape:=az
  zG:=fun f k l a b=>by rw[a]at b;cases b
  tn:=fun _ _ a=>a}
theorem Step.trans {p:Program}{M hZ sp:aW}{h h1 ae:H}{w b5 d7:World}(a:Step p M h w hZ h1 b5)(b:Step p hZ h1 b5 sp ae d7):Step p M h w sp ae d7:=
 {rel:=b.rel
  mono:=aW.le_trans a.mono b.mono
  next:=iK a.next b.next
  size:=iK a.size b.size
  fresh:=fun f k l ae av=>by
   cases h1:hZ f k with
   |none=>
    rcases b.fresh f k l ae h1 with ah|ah
    ·exact .inl (iK a.next ah)
    ·cases E2:M f 0 with
     |some x=>exact .inr (by simp)
     |none=>
      obtain⟨cY,jB⟩:=Option.isSome_iff_exists.1 ah;rcases a.fresh f 0 cY jB E2 with bN|bN
      ·exact .inl bN
      ·rw[E2]at bN;cases bN
   |some cY=>exact a.fresh f k cY h1 av
  s8:=fun bS ah db=>by
   rw[b.s8 bS (oW ah a.size) ?_,a.s8 bS ah db];intro f k l hw hm e;rcases a.uH f k l hw hm with aa|⟨g,j,m,aC,lk,he⟩
   ·omega
   ·exact db g j m aC lk (he.trans e)
  uH:=fun f k l hw hm=>by
   rcases b.uH f k l hw hm with aa|⟨g,j,m,aC,lk,he⟩
   ·exact .inl (iK a.size aa)
   ·rcases a.uH g j m aC lk with gr|⟨bR,yo,c8,yK,Vb,hf⟩
    ·exact .inl (he▸gr)
    ·exact .inr ⟨bR,yo,c8,yK,Vb,hf.trans he⟩
  u1:=fun f k l hw hm=>by
   rcases b.u1 f k l hw hm with aa|⟨g,j,m,aC,lk,he⟩
   ·exact .inl (iK a.size aa)
   ·rcases a.u1 g j m aC lk with gr|⟨bR,yo,c8,yK,Vb,hf⟩
    ·exact .inl (he▸gr)
    ·exact .inr ⟨bR,yo,c8,yK,Vb,hf.trans he⟩
  wK:=fun f aE av=>by
   rw[b.wK f (oW aE a.next) ?_,a.wK f aE av];cases h1:hZ f 0 with
   |none=>rfl
   |some cY=>
    rcases a.fresh f 0 cY h1 av with bN|bN
    ·omega
    ·rw[av]at bN;cases bN
  os:=b.os.trans a.os
  out:=b.out.trans a.out
  tape:=b.tape.trans a.tape
  zG:=fun f k l ae av=>by
   cases h1:hZ f k with
   |none=>
    rcases b.zG f k l ae h1 with ah|ah
    ·exact .inl (iK a.next ah)
    ·rcases dz (aH f) (aH h.next)with aE|aE
     ·exact .inr (a.tn f aE ah)
     ·exact .inl aE
   |some cY=>exact a.zG f k cY h1 av
  tn:=fun f aE e=>a.tn f aE (b.tn f (oW aE a.next) e)}
abbrev kv:=@Ne.symm
abbrev wL:=@Array.getElem?_push
section
theorem H.gV(h:H)(f:P)(o:O):(h.set f o).get f=some o:=cA.gV o f h.m
theorem H.ej(h:H){f g:P}(o:O)(e:f≠g):(h.set f o).get g=h.get g:=cA.ej o f g h.m e
@[simp] theorem H.Hf (h:H) (f:P) (o:O):(h.set f o).next=h.next:=rfl
theorem H.vp(h:H)(o:O):(h.new o).get h.next=some o:=cA.gV o h.next h.m
theorem H.lV(h:H){g:P}(o:O)(e:h.next≠g):(h.new o).get g=h.get g:=cA.ej o h.next g h.m e
theorem H.fF(h:H)(o:O):aH (h.new o).next=aH h.next+1:=gu h.next
def aW.add(M:aW)(f:P)(j:Nat)(l:Loc):aW:=fun g k=>if g=f/\k=j then some l else M g k
theorem aW.add_same(M:aW)(f:P)(j:Nat)(l:Loc):M.add f j l f j=some l:=by simp[aW.add]
theorem aW.mf(M:aW){f g:P}{j k:Nat}(l:Loc)(h:¬(g=f/\k=j)):M.add f j l g k=M g k:=by simp[aW.add,h]
theorem aW.qo{M:aW}{f:P}{j:Nat}{l:Loc}(h:M f j=none):M.le (M.add f j l):=fun g k m hm=>by
 rw[aW.mf]
 ·exact hm
 ·rintro⟨rfl,rfl⟩;rw[h]at hm;cases hm
theorem H.uo{h aa:H}{f:P}{k:Nat}(e:aa.get f=h.get f):aa.dE f k↔h.dE f k:=by
 unfold H.dE;rw[e]
theorem H.sm{h aa:H}{f:P}{k:Nat}(e:aa.get f=h.get f):aa.jU f k↔h.jU f k:=by
 unfold H.jU;rw[H.uo e,e]
variable {p:Program}{M:aW}{h:H}{bh:Array Obj}
theorem Rel.lt(r:Rel p M h bh){f:P}{k:Nat}{l:Loc}(e:M f k=some l):l.bS<bh.size:=(r.i5 f k l e).1
theorem Rel.aKE(r:Rel p M h bh){f:P}(aE:aH h.next<=aH f)(k:Nat):M f k=none:=by
 cases e:M f k with
 |none=>rfl
 |some l=>have:=(r.i5 f k l e).2.1;omega
theorem Rel.aLD(r:Rel p M h bh){f:P}(av:M f 0=none)(k:Nat):M f k=none:=by
 cases e:M f k with
 |none=>rfl
 |some l=>obtain⟨dO,bA⟩:=(r.i5 f k l e).2.2.2;rw[av]at bA;cases bA
theorem Rel.sk(r:Rel p M h bh)(k:Nat):M h.next k=none:=r.aKE (a1 _) k
theorem ou.congr {M aT:aW}(hm:M.le aT){xs:List V}{md:kN}{ty:TypeId}{own:Bool}{l:Loc}{bh kE:Array Obj}(c:ou p M xs md ty own l bh)
  (e:kE[l.bS]?=bh[l.bS]?):ou p aT xs md ty own l kE:=by
 obtain⟨mW,a,b,cs,du,h1,ae,az,bo⟩:=c;refine⟨mW,a,b,cs,du,e.trans h1,ae,fun i v ai ab=>?_,bo⟩;obtain⟨aL,x,y,z⟩:=az i v ai ab;exact⟨aL,x,y.mono hm,z⟩
theorem Rel.congr (r:Rel p M h bh){kE:Array Obj}(aA:bh.size<=kE.size)
  (he:∀f k l,h.dE f k->M f k=some l->kE[l.bS]?=bh[l.bS]?):Rel p M h kE:=
 {i5:=fun f k l e=>let⟨a,b⟩:=r.i5 f k l e;⟨oW a aA,b⟩
  cells:=fun f xs aZ dead md ty dO aC av k h1 ae=>by
   obtain⟨l,au,c⟩:=r.cells f xs aZ dead md ty dO aC av k h1 ae;exact⟨l,au,c.congr (aW.le_refl M) (he f k l (by unfold H.dE;rw[aC];exact⟨h1,ae⟩) au)⟩
  oh:=fun f o l aC U av=>by
   obtain⟨ah,cL,a6,aI⟩:=r.oh f o l aC U av;refine⟨ah,cL,?_,aI⟩;rw[he f 0 l ?_ av];exact a6;unfold H.dE;rw[aC];cases o<;>first|rfl|(simp[O.k2]at U)
  sep:=r.sep
  n6:=r.n6
  po:=r.po
  base:=r.base
  lD:=r.lD}
theorem Rel.BT(r:Rel p M h bh)(o:O):Rel p M (h.new o) bh:=by
 have bV:∀{f:P} {k:Nat} {l:Loc},M f k=some l->h.next≠f:=fun{f k l} e aq=>by
  subst aq;rw[r.sk]at e;cases e
 have aC:∀{f:P} {k:Nat} {l:Loc},M f k=some l->(h.new o).get f=h.get f:=fun e=>H.lV h o (bV e);refine⟨fun f k l e=>?_,fun f xs aZ dead md ty dO h1 av=>?_,fun f cu l h1 U av=>?_,fun f k l g j m a b c d=>?_,fun f xs aZ dead md ty k h1 hk=>?_,fun f cu k h1 U hk=>?_,r.base,fun f aE=>?_⟩
 ·obtain⟨a,b,c⟩:=r.i5 f k l e;exact⟨a,by rw[H.fF];omega,c⟩
 ·rw[aC av]at h1;exact r.cells f xs aZ dead md ty dO h1 av
 ·rw[aC av]at h1;exact r.oh f cu l h1 U av
 ·exact fun bV hw=>r.sep f k l g j m ((H.uo (aC b)).1 a) b ((H.uo (aC d)).1 c) d bV (hw.imp (H.sm (aC b)).1 (H.sm (aC d)).1)
 ·cases e:M f k with
  |none=>rfl
  |some l=>rw[aC e]at h1;rw[r.n6 f xs aZ dead md ty k h1 hk]at e;cases e
 ·cases e:M f k with
  |none=>rfl
  |some l=>rw[aC e]at h1;rw[r.po f cu k h1 U hk]at e;cases e
 ·rw[H.fF]at aE;rw[H.lV h o (by rintro rfl;omega)];exact r.lD f (by omega)
inductive re (p:Program) (M:aW) (l:Loc):O->Obj->Prop
 |cells {xs:List V} {c:Array Value} {ty:TypeId} {du:Nat×Nat} (nb:Pc p ty l.base) (he:l.ext=xs.length) (au:l.ext<=l.lim) (ah:l.base+l.lim<=c.size)
   (U:∀(i:Nat) (v:V),xs[i]?=some v->∃aL,c[l.base+i]?=some aL/\bm M v aL/\v.leaf=true)
   (aX:∀i,i<l.lim->¬(du.1<=l.base+i/\l.base+i<du.2)):re p M l (.cells xs 0 0 .rw ty) (.cells c ty du)
 |obj {o:O} {cL:Obj} (ah:l.base=0) (he:l.ext<=l.lim) (aI:nJ p M o cL):re p M l o cL
theorem re.mono{M aT:aW}(hm:M.le aT){l:Loc}{o:O}{cL:Obj}(h:re p M l o cL):re p aT l o cL:=by
 cases h with
 |cells nb he au ah U aX=>exact .cells nb he au ah (fun i v ab=>let⟨aL,a,b,c⟩:=U i v ab;⟨aL,a,b.mono hm,c⟩) aX
 |obj ah he aI=>exact .obj ah he (aI.mono hm)
theorem Rel.GG(r:Rel p M h bh){f:P}(aE:M f 0=none)(ay:aH f<aH h.next){o:O}(a6:h.get f=some o){l:Loc}{cL:Obj}{kE:Array Obj}
  (W6:∀g k m,h.dE g k->M g k=some m->m.bS≠l.bS) (aA:bh.size<=kE.size) (qP:l.bS<kE.size)
  (W7:∀b,b<bh.size->b≠l.bS->kE[b]?=bh[b]?) (hh:kE[l.bS]?=some cL) (aq:re p (M.add f 0 l) l o cL):Rel p (M.add f 0 l) h kE:=by
 have hle:M.le (M.add f 0 l):=aW.qo aE;have Cu:=r.aLD aE;have hold:∀{g:P} {k:Nat} {m:Loc},h.dE g k->M g k=some m->kE[m.bS]?=bh[m.bS]?:=fun{g k m} eB hm=>W7 _ (r.lt hm) (W6 g k m eB hm);have tC:l.ext<=l.lim:=by cases aq with|cells _ _ a _ _ _=>exact a|obj _ a _=>exact a
 have iz:∀{g:P} {k:Nat} {m:Loc},M.add f 0 l g k=some m->(g=f/\k=0/\m=l)\/(g≠f/\M g k=some m):=fun{g k m} e=>by
  by_cases aC:g=f
  ·subst aC;by_cases hk:k=0
   ·subst hk;rw[aW.add_same]at e;cases e;exact .inl ⟨rfl,rfl,rfl⟩
   ·rw[aW.mf M l (fun⟨_,h⟩=>hk h),Cu]at e;cases e
  ·rw[aW.mf M l (fun⟨h,_⟩=>aC h)]at e;exact .inr ⟨aC,e⟩
 refine⟨fun g k m e=>?_,fun g xs aZ dead md ty dO h1 av k i6 km=>?_,fun g cu m h1 U av=>?_,fun g k m bR j c8 a b c d bV hw=>?_,fun g xs aZ dead md ty k h1 hk=>?_,fun g cu k h1 U hk=>?_,fun g k m j c8 a b ah=>?_,r.lD⟩
 ·rcases iz e with⟨rfl,rfl,rfl⟩|⟨_,cD⟩
  ·exact⟨qP,ay,tC,m,aW.add_same _ _ _ _⟩
  ·obtain⟨a,b,c,dO,d⟩:=r.i5 g k m cD;exact⟨oW a aA,b,c,dO,hle _ _ _ d⟩
 ·rcases iz av with⟨rfl,-,rfl⟩|⟨iv,cD⟩
  ·rw[a6]at h1;cases h1;cases aq with
   |cells nb he eB ah U aX=>
    have hk:k=0:=by omega
    subst hk;exact⟨dO,aW.add_same _ _ _ _,fun _=>nb,by omega,fun _=>he,_,_,hh,ah,fun i v _ ab=>U i v ab,fun _=>aX⟩
   |obj _ _ aI=>have:=aI.X9.1;simp[O.k2]at this
  ·obtain⟨m,hm,U⟩:=r.cells g xs aZ dead md ty dO h1 cD k i6 km;exact⟨m,hle _ _ _ hm,U.congr hle (hold (by unfold H.dE;rw[h1];exact⟨i6,km⟩) hm)⟩
 ·rcases iz av with⟨rfl,-,rfl⟩|⟨iv,cD⟩
  ·rw[a6]at h1;cases h1;cases aq with
   |cells _ _ _ _ _ _=>simp[O.k2]at U
   |obj ah _ aI=>exact⟨ah,cL,hh,aI⟩
  ·obtain⟨ah,Ar,ae,aI⟩:=r.oh g cu m h1 U cD;refine⟨ah,Ar,?_,aI.mono hle⟩;rw[hold ?_ cD];exact ae;unfold H.dE;rw[h1];cases cu<;>first|rfl|(simp[O.k2]at U)
 ·rcases iz b with⟨rfl,-,rfl⟩|⟨_,aN⟩<;>rcases iz d with⟨rfl,-,rfl⟩|⟨_,bd⟩
  ·exact absurd rfl bV
  ·exact kv (W6 _ _ _ c bd)
  ·exact W6 _ _ _ a aN
  ·exact r.sep g k m bR j c8 a aN c bd bV hw
 ·cases e:M.add f 0 l g k with
  |none=>rfl
  |some m=>
   rcases iz e with⟨rfl,rfl,rfl⟩|⟨_,cD⟩
   ·omega
   ·rw[r.n6 g xs aZ dead md ty k h1 hk]at cD;cases cD
 ·cases e:M.add f 0 l g k with
  |none=>rfl
  |some m=>
   rcases iz e with⟨rfl,rfl,rfl⟩|⟨_,cD⟩
   ·omega
   ·rw[r.po g cu k h1 U hk]at cD;cases cD
 ·rcases iz a with⟨aN,-,bd⟩|⟨bV,fG⟩<;>rcases iz b with⟨bO,-,fY⟩|⟨Vc,b3⟩
  ·rw[bd,fY]
  ·exact absurd aN Vc
  ·exact absurd bO bV
  ·exact r.base g k m j c8 fG b3 ah
theorem Hg{w w':World}(r:Rel p M h w.heap){o:O}{cL:Obj}{l:Loc}(au:l.bS=w.heap.size)(aq:re p (M.add h.next 0 l) l o cL)
  (hw:w'.heap=w.heap.push cL) (h1:w'.os=w.os) (ae:w'.output=w.output) (az:w'.tape=w.tape):
  Step p M h w (M.add h.next 0 l) (h.new o) w':=by
 have lQ:=r.sk;have jH:=(r.BT o).GG (lQ 0) (by rw[H.fF];omega) (H.vp h o) (kE:=w.heap.push cL)
  (fun g k m _ e=>by have:=r.lt e;omega) (by simp) (by rw[au];simp) (fun b ah _=>by rw[wL];simp;omega) (by rw[au];simp) aq
 refine⟨by rw[hw];exact jH,aW.qo (lQ 0),by rw[H.fF];omega,by rw[hw];simp,fun f k m e bA=>?_,fun b ah _=>?_,fun f k m e7 e=>?_,fun f k m e7 e=>?_,fun f aE av=>?_,h1,ae,az,fun f k m e bA=>?_,fun f aE e=>?_⟩
 ·by_cases aE:f=h.next/\k=0
  ·exact .inl (by rw[aE.1];exact a1 _)
  ·rw[aW.mf M l aE,bA]at e;cases e
 ·rw[hw,wL];simp;omega
 ·by_cases aE:f=h.next/\k=0
  ·rw[aE.1,aE.2,aW.add_same]at e;cases e;exact .inl (by omega)
  ·rw[aW.mf M l aE]at e;refine .inr ⟨f,k,m,?_,e,rfl⟩;refine(H.sm (H.lV h o ?_)).1 e7;rintro rfl;rw[lQ]at e;cases e
 ·by_cases aE:f=h.next/\k=0
  ·rw[aE.1,aE.2,aW.add_same]at e;cases e;exact .inl (by omega)
  ·rw[aW.mf M l aE]at e;refine .inr ⟨f,k,m,?_,e,rfl⟩;refine(H.uo (H.lV h o ?_)).1 e7;rintro rfl;rw[lQ]at e;cases e
 ·exact H.lV h o (by rintro rfl;omega)
 ·by_cases aE:f=h.next/\k=0
  ·exact .inl (by rw[aE.1];exact a1 _)
  ·rw[aW.mf M l aE,bA]at e;cases e
 ·rw[H.lV h o (by rintro rfl;omega)]at e;exact e
theorem BU{w w':World}(r:Rel p M h w.heap){f:P}{o cu:O}{cL:Obj}{l:Loc}(aE:M f 0=some l)(aC:h.get f=some o)(U:o.k2=false)
  (aI:nJ p M cu cL) (hw:w'.heap=w.heap.setIfInBounds l.bS cL) (h1:w'.os=w.os) (ae:w'.output=w.output) (az:w'.tape=w.tape):
  Step p M h w M (h.set f cu) w':=by
 have ay:=r.lt aE;have iw:=aI.X9.1;have jB:∀k,h.dE f k↔k=0:=fun k=>by
  unfold H.dE;rw[aC];cases o<;>first|exact Iff.rfl|(simp[O.k2]at U)
 have nC:∀k,(h.set f cu).dE f k↔k=0:=fun k=>by
  unfold H.dE;rw[H.gV];cases cu<;>first|exact Iff.rfl|(simp[O.k2]at iw)
 have kJ:∀{g:P} {k:Nat},(h.set f cu).dE g k↔h.dE g k:=fun{g k}=>by
  by_cases e:f=g
  ·subst e;rw[jB,nC]
  ·exact H.uo (H.ej h cu e)
 have pb:h.jU f 0:=⟨(jB 0).2 rfl,fun xs aZ dead ty e=>by rw[aC]at e;cases e;simp[O.k2]at U⟩;have Bn:∀{g:P} {k:Nat},(h.set f cu).dE g k->(h.set f cu).jU g k->h.jU g k:=fun{g k} a b=>by
  by_cases e:f=g
  ·subst e;rw[(nC k).1 a];exact pb
  ·exact(H.sm (H.ej h cu e)).1 b
 have Bx:∀{g:P} {k:Nat} {m:Loc},g≠f->h.dE g k->M g k=some m->(w.heap.setIfInBounds l.bS cL)[m.bS]?=w.heap[m.bS]?:=fun{g k m} bV qQ e=>by
  rw[GF];exact r.sep f 0 l g k m ((jB 0).2 rfl) aE qQ e (kv bV) (.inl pb)
 refine⟨?_,aW.le_refl M,a1 _,by rw[hw];simp,fun g k m e bA=>(by rw[bA]at e;cases e),fun b ah db=>?_,fun g k m e7 e=>?_,fun g k m e7 e=>.inr ⟨g,k,m,kJ.1 e7,e,rfl⟩,fun g _ av=>?_,h1,ae,az,fun g k m e bA=>(by rw[bA]at e;cases e),fun g _ e=>?_⟩
 ·rw[hw];refine⟨fun g k m e=>?_,fun g xs aZ dead md ty dO h1 av k i6 km=>?_,fun g Mz m h1 F4 av=>?_,fun g k m bR j c8 a b c d=>?_,fun g xs aZ dead md ty k h1 hk=>?_,fun g Mz k h1 F4 hk=>?_,r.base,fun g kV=>?_⟩
  ·have:=r.i5 g k m e;simpa using this
  ·by_cases e:f=g
   ·subst e;rw[H.gV]at h1;cases h1;simp[O.k2]at iw
   ·rw[H.ej h cu e]at h1;obtain⟨m,hm,U⟩:=r.cells g xs aZ dead md ty dO h1 av k i6 km;exact⟨m,hm,U.congr (aW.le_refl M) (Bx (kv e) (by unfold H.dE;rw[h1];exact⟨i6,km⟩) hm)⟩
  ·by_cases e:f=g
   ·subst e;rw[H.gV]at h1;cases h1;rw[aE]at av;cases av;exact⟨(r.oh f o l aC U aE).1,cL,by simp[ay],aI⟩
   ·rw[H.ej h cu e]at h1;obtain⟨ah,Ar,ae,oJ⟩:=r.oh g Mz m h1 F4 av;refine⟨ah,Ar,?_,oJ⟩;rw[Bx (kv e) ?_ av];exact ae;unfold H.dE;rw[h1];cases Mz<;>first|rfl|(simp[O.k2]at F4)
  ·exact fun bV hw=>r.sep g k m bR j c8 (kJ.1 a) b (kJ.1 c) d bV (hw.imp (Bn a) (Bn c))
  ·by_cases e:f=g
   ·subst e;rw[H.gV]at h1;cases h1;simp[O.k2]at iw
   ·rw[H.ej h cu e]at h1;exact r.n6 g xs aZ dead md ty k h1 hk
  ·by_cases e:f=g
   ·subst e;exact r.po f o k aC U hk
   ·rw[H.ej h cu e]at h1;exact r.po g Mz k h1 F4 hk
  ·have:=(r.i5 f 0 l aE).2.1;have sU:aH h.next<=aH g:=kV
   rw[H.ej h cu (by rintro rfl;omega)];exact r.lD g sU
 ·rw[hw,GF];exact db f 0 l pb aE
 ·refine .inr ⟨g,k,m,?_,e,rfl⟩;by_cases cD:f=g
  ·subst cD;have:=(nC k).1 e7.1;subst this;exact pb
  ·exact(H.sm (H.ej h cu cD)).1 e7
 ·exact H.ej h cu (by rintro rfl;rw[aE]at av;cases av)
 ·by_cases cD:f=g
  ·subst cD;rw[aC];rfl
  ·rw[H.ej h cu cD]at e;exact e
end
abbrev K8:=@Array.getElem?_modify
abbrev ud:=@Nat.add_zero
abbrev XE:=@Array.getElem?_setIfInBounds
abbrev dJ:=@Bool.and_eq_true
abbrev iZ:=@Nat.le_of_ble_eq_true
abbrev qp:=@List.getElem?_take_of_lt
abbrev qq:=@List.getElem?_drop
abbrev qs:=@Nat.add_assoc
abbrev ei:=@List.getElem?_eq_none
abbrev D2:=@Array.getElem?_toList
abbrev hN:=@List.getElem?_eq_getElem
abbrev nP:=@List.getElem?_append_left
section
theorem aLE(w:World)(b o:Nat)(v:Value){c:Array Value}{e:TypeId}{lW:Nat×Nat}(ah:w.heap[b]?=some (.cells c e lW)):
  (w.setCell ⟨b,o,none⟩ v).heap[b]?=some (.cells (c.setIfInBounds o v) e lW):=by
 simp[World.setCell,K8,ah]
theorem aMl(w:World)(b o:Nat)(v:Value){b3:Nat}(h:b3≠b):(w.setCell ⟨b,o,none⟩ v).heap[b3]?=w.heap[b3]?:=by
 simp[World.setCell,K8,kv h]
theorem QR(b:Nat){e:TypeId}{lW:Nat×Nat}:∀(aF:List Value) (o:Nat) (w:World) (c:Array Value),w.heap[b]?=some (.cells c e lW) ->
  ∃fT,(w.setCells b o aF).heap[b]?=some (.cells fT e lW)/\fT.size=c.size/\(∀i,i<o\/o+aF.length<=i->fT[i]?=c[i]?)/\
   (∀i,i<aF.length->o+aF.length<=c.size->fT[o+i]?=aF[i]?)
 |[],o,w,c,h=>⟨c,h,rfl,fun _ _=>rfl,fun i ai=>by simp at ai⟩
 |v::aF,o,w,c,h=>by
  obtain⟨fT,h1,ae,az,bo⟩:=QR b aF (o+1) (w.setCell ⟨b,o,none⟩ v) _ (aLE w b o v h);refine⟨fT,h1,by simpa using ae,fun i ai=>?_,fun i ai aA=>?_⟩
  ·rw[az i (by simp at ai;omega),GF (by simp at ai;omega)]
  ·cases i with
   |zero=>
    rw[ud,az o (by omega),XE];simp at aA;simp;omega
   |succ i=>
    have:=bo i (by simpa using ai) (by simp at aA⊢;omega);rw[show o+(i+1)=o+1+i by omega,this];simp
theorem QW(b:Nat):∀(aF:List Value) (o:Nat) (w:World) {b3:Nat},b3≠b->(w.setCells b o aF).heap[b3]?=w.heap[b3]?
 |[],_,_,_,_=>rfl
 |v::aF,o,w,b3,h=>by rw[World.setCells,QW b aF (o+1) _ h,aMl w b o v h]
theorem HA(b:Nat):∀(aF:List Value) (o:Nat) (w:World),(w.setCells b o aF).heap.size=w.heap.size
 |[],_,_=>rfl
 |v::aF,o,w=>by rw[World.setCells,HA b aF];simp[World.setCell]
theorem yl(b:Nat):∀(aF:List Value) (o:Nat) (w:World),(w.setCells b o aF).os=w.os/\(w.setCells b o aF).output=w.output/\(w.setCells b o aF).tape=w.tape
 |[],_,_=>⟨rfl,rfl,rfl⟩
 |v::aF,o,w=>by rw[World.setCells];exact yl b aF (o+1) _
theorem aLF{v:Value}:v.oneCell'=DS v:=by cases v<;>rfl
variable {p:Program}{M:aW}{h:H}{w w':World}
theorem ant{f:P}{k:Nat}{xs:List V}(au:live h f k=some xs):∃aZ dead md ty,h.get f=some (.cells xs aZ dead md ty)/\dead<=k/\k<=aZ:=by
 unfold live at au;split at au
 ·rename_i o a6;unfold O.live at au;split at au
  ·rename_i nB aZ dead md ty;split at au
   ·rename_i ah;simp only[dJ]at ah;cases au;exact⟨aZ,dead,md,ty,a6,iZ ah.1,iZ ah.2⟩
   ·cases au
  ·cases au
 ·cases au
theorem aLc{xs:Option (List V)}{off n:Nat}{r:List V}(h:lu xs off n=some r):∃cV,xs=some cV/\n<=(cV.drop off).length/\r=(cV.drop off).take n:=by
 unfold lu at h;split at h
 ·rename_i cV;unfold range at h;obtain⟨a,b⟩:=He _ _ h;rw[si]at a b;exact⟨cV,rfl,a,b⟩
 ·cases h
theorem aof{bh:Array Obj}(r:Rel p M h bh){f:P}{k off n:Nat}{xs cs:List V}{l:Loc}(au:live h f k=some xs)(bT:M f k=some l)(ah:off+n<=l.ext)
  (aI:range xs off n=some cs):∃c ty du aD,bh[l.bS]?=some (.cells c ty du)/\dq M cs aD/\aD.length=n/\(∀j v,aD[j]?=some v->c[l.base+off+j]?=some v)/\
   l.base+off+n<=c.size/\(∀v∈cs,v.leaf=true):=by
 obtain⟨aZ,dead,md,ty,aC,h1,ae⟩:=ant au;obtain⟨dO,av⟩:=(r.i5 f k l bT).2.2.2;obtain⟨cr,eB,_,a6,sV,c,du,U,eN,r7,aX⟩:=r.cells f xs aZ dead md ty dO aC av k h1 ae;rw[bT]at eB;cases eB;have xQ:=(r.i5 f k l bT).2.2.1;unfold range at aI;obtain⟨aq,hK⟩:=He _ _ aI;rw[si]at aq hK;have ab:∀j,j<n->cs[j]?=xs[off+j]?:=fun j a5=>by rw[hK,qp a5,qq]
 have jn:∀j,j<n->∃v aL,cs[j]?=some v/\c[l.base+off+j]?=some aL/\bm M v aL/\v.leaf=true:=fun j a5=>by
  have ay:off+j<xs.length:=by omega
  obtain⟨aL,a,b,d⟩:=r7 (off+j) xs[off+j] (by omega) (by simp[ay]);exact⟨xs[off+j],aL,by rw[ab j a5];simp[ay],by rw[qs];exact a,b,d⟩
 have hlen:cs.length=n:=by rw[hK];simp at aq⊢;omega
 refine⟨c,ty,du,(c.toList.drop (l.base+off)).take n,U,?_,by simp;omega,fun j v a5=>?_,by omega,fun v ar=>?_⟩
 ·refine dq.PA (by simp[hlen];omega) fun i x y jN ax=>?_;have ai:i<n:=by
   rcases dz i n with aa|aa
   ·exact aa
   ·rw[ei (by rw[hlen];exact aa)]at jN;cases jN
  obtain⟨v,aL,a,b,fT,_⟩:=jn i ai;rw[a]at jN;cases jN;rw[qp ai,qq,D2,b]at ax;cases ax;exact fT
 ·have ai:j<n:=by
   rcases dz j n with aa|aa
   ·exact aa
   ·rw[ei (by simp;omega)]at a5;cases a5
  rwa[qp ai,qq,D2]at a5
 ·obtain⟨j,a5,e⟩:=List.getElem_of_mem ar;obtain⟨dg,_,a,_,_,d⟩:=jn j (by omega);rw[hN a5,e]at a;cases a;exact d
theorem step_cells(r:Rel p M h w.heap){f:P}{xs nB:List V}{aZ dead:Nat}{md E3:kN}{ty:TypeId}{l dO:Loc}(aC:h.get f=some (.cells xs aZ dead md ty))(a3:dead<=aZ)(h4:M f 0=some dO)
  (bT:M f aZ=some l) (pc:md≠.ro) (U:ou p M nB E3 ty true l w'.heap) (aA:w'.heap.size=w.heap.size) (hold:∀b,b≠l.bS->w'.heap[b]?=w.heap[b]?)
  (h1:w'.os=w.os) (ae:w'.output=w.output) (az:w'.tape=w.tape):Step p M h w M (h.set f (.cells nB aZ aZ E3 ty)) w':=by
 have jB:h.dE f aZ:=by unfold H.dE;rw[aC];exact⟨a3,a1 _⟩
 have nC:∀k,(h.set f (.cells nB aZ aZ E3 ty)).dE f k↔k=aZ:=fun k=>by
  unfold H.dE;rw[H.gV];exact⟨fun⟨a,b⟩=>Nat.le_antisymm b a,fun e=>by subst e;exact⟨a1 _,a1 _⟩⟩
 have kJ:∀{g:P} {k:Nat},(h.set f (.cells nB aZ aZ E3 ty)).dE g k->h.dE g k:=fun{g k} a=>by
  by_cases e:f=g
  ·subst e;rw[(nC k).1 a];exact jB
  ·exact(H.uo (H.ej h _ e)).1 a
 have pb:h.jU f aZ:=⟨jB,fun a b c d e=>by rw[aC]at e;cases e;exact pc rfl⟩;have Bn:∀{g:P} {k:Nat},(h.set f (.cells nB aZ aZ E3 ty)).dE g k->(h.set f (.cells nB aZ aZ E3 ty)).jU g k->h.jU g k:=fun{g k} a b=>by
  by_cases e:f=g
  ·subst e;rw[(nC k).1 a];exact pb
  ·exact(H.sm (H.ej h _ e)).1 b
 have Bx:∀{g:P} {k:Nat} {m:Loc},f≠g->h.dE g k->M g k=some m->w'.heap[m.bS]?=w.heap[m.bS]?:=fun{g k m} bV qQ e=>
  hold _ (kv (r.sep f aZ l g k m jB bT qQ e bV (.inl pb)))
 refine⟨?_,aW.le_refl M,a1 _,by omega,fun g k m e bA=>(by rw[bA]at e;cases e),fun b ah db=>hold b (kv (db f aZ l pb bT)),fun g k m e7 e=>?_,fun g k m e7 e=>.inr ⟨g,k,m,kJ e7,e,rfl⟩,fun g _ av=>?_,h1,ae,az,fun g k m e bA=>(by rw[bA]at e;cases e),fun g _ e=>?_⟩
 ·refine⟨fun g k m e=>?_,fun g cV nK r1 Dp gF qH h1 av k i6 km=>?_,fun g o m h1 iw av=>?_,fun g k m bR j c8 a b c d=>?_,fun g cV nK r1 Dp gF k h1 hk=>?_,fun g o k h1 iw hk=>?_,r.base,fun g kV=>?_⟩
  ·have:=r.i5 g k m e;rw[aA];exact this
  ·by_cases e:f=g
   ·subst e;rw[H.gV]at h1;cases h1;have:k=aZ:=Nat.le_antisymm km i6;subst this;refine⟨l,bT,?_⟩;simpa using U
   ·rw[H.ej h _ e]at h1;obtain⟨m,hm,qR⟩:=r.cells g cV nK r1 Dp gF qH h1 av k i6 km;exact⟨m,hm,qR.congr (aW.le_refl M) (Bx e (by unfold H.dE;rw[h1];exact⟨i6,km⟩) hm)⟩
  ·by_cases e:f=g
   ·subst e;rw[H.gV]at h1;cases h1;simp[O.k2]at iw
   ·rw[H.ej h _ e]at h1;obtain⟨ah,Ar,ae,oJ⟩:=r.oh g o m h1 iw av;refine⟨ah,Ar,?_,oJ⟩;rw[Bx e ?_ av];exact ae;unfold H.dE;rw[h1];cases o<;>first|rfl|(simp[O.k2]at iw)
  ·exact fun bV hw=>r.sep g k m bR j c8 (kJ a) b (kJ c) d bV (hw.imp (Bn a) (Bn c))
  ·by_cases e:f=g
   ·subst e;rw[H.gV]at h1;cases h1;exact r.n6 f xs aZ dead md ty k aC hk
   ·rw[H.ej h _ e]at h1;exact r.n6 g cV nK r1 Dp gF k h1 hk
  ·by_cases e:f=g
   ·subst e;rw[H.gV]at h1;cases h1;simp[O.k2]at iw
   ·rw[H.ej h _ e]at h1;exact r.po g o k h1 iw hk
  ·have:=(r.i5 f 0 dO h4).2.1;have sU:aH h.next<=aH g:=kV
   rw[H.ej h _ (by rintro rfl;omega)];exact r.lD g sU
 ·refine .inr ⟨g,k,m,?_,e,rfl⟩;by_cases cD:f=g
  ·subst cD;rw[(nC k).1 e7.1];exact pb
  ·exact(H.sm (H.ej h _ cD)).1 e7
 ·exact H.ej h _ (by rintro rfl;rw[h4]at av;cases av)
 ·by_cases cD:f=g
  ·subst cD;rw[aC];rfl
  ·rw[H.ej h _ cD]at e;exact e
theorem amE(r:Rel p M h w.heap){f:P}{xs new:List V}{aZ dead:Nat}{ty:TypeId}{l dO cr:Loc}(aC:h.get f=some (.cells xs aZ dead .rw ty))(a3:dead<=aZ)(h4:M f 0=some dO)
  (bT:M f aZ=some l) (U:ou p M (xs++new) .rw ty true cr w'.heap) (xQ:cr.ext<=cr.lim) (aA:w.heap.size<=w'.heap.size) (qP:cr.bS<w'.heap.size)
  (iz:(cr.bS=l.bS/\cr.base=l.base/\(∀b,b≠l.bS->b<w.heap.size->w'.heap[b]?=w.heap[b]?)/\
    (∀c elem du,w.heap[l.bS]?=some (.cells c elem du) ->∃fT,w'.heap[l.bS]?=some (.cells fT elem du)/\fT.size=c.size/\∀i,i<l.base+xs.length->fT[i]?=c[i]?))\/
   (cr.bS=w.heap.size/\∀b,b<w.heap.size->w'.heap[b]?=w.heap[b]?))
  (h1:w'.os=w.os) (ae:w'.output=w.output) (az:w'.tape=w.tape):Step p M h w (M.add f (aZ+1) cr) (h.set f (.cells (xs++new) (aZ+1) dead .rw ty)) w':=by
 have lQ:M f (aZ+1)=none:=r.n6 f xs aZ dead .rw ty (aZ+1) aC (by omega);have hle:M.le (M.add f (aZ+1) cr):=aW.qo lQ;have jB:h.dE f aZ:=by unfold H.dE;rw[aC];exact⟨a3,a1 _⟩
 have aCR:∀{k:Nat},k<=aZ->(h.set f (.cells (xs++new) (aZ+1) dead .rw ty)).dE f k->h.dE f k:=fun{k} hk a=>by
  unfold H.dE at a⊢;rw[H.gV]at a;rw[aC];exact⟨a.1,hk⟩
 have we:∀{g:P} {k:Nat} {m:Loc},M.add f (aZ+1) cr g k=some m->(g=f/\k=aZ+1/\m=cr)\/(¬(g=f/\k=aZ+1)/\M g k=some m):=fun{g k m} e=>by
  by_cases pZ:g=f/\k=aZ+1
  ·obtain⟨rfl,rfl⟩:=pZ;rw[aW.add_same]at e;cases e;exact .inl ⟨rfl,rfl,rfl⟩
  ·rw[aW.mf M cr pZ]at e;exact .inr ⟨pZ,e⟩
 have kJ:∀{g:P} {k:Nat} {m:Loc},M g k=some m->(h.set f (.cells (xs++new) (aZ+1) dead .rw ty)).dE g k->h.dE g k:=fun{g k m} hm a=>by
  by_cases e:f=g
  ·subst e;refine aCR ?_ a;rcases dz aZ k with hk|hk
   ·rw[r.n6 f xs aZ dead .rw ty k aC hk]at hm;cases hm
   ·exact hk
  ·exact(H.uo (H.ej h _ e)).1 a
 have pb:h.jU f aZ:=⟨jB,fun a b c d e=>by rw[aC]at e;cases e⟩;have Bn:∀{g:P} {k:Nat} {m:Loc},M g k=some m->(h.set f (.cells (xs++new) (aZ+1) dead .rw ty)).jU g k->h.jU g k:=fun{g k m} hm b=>⟨kJ hm b.1,fun x y z u aJ=>by
  by_cases Is:f=g
  ·subst Is;rw[aC]at aJ;cases aJ
  ·exact b.2 x y z u (by rw[H.ej h _ Is];exact aJ)⟩
 have Bx:∀{g:P} {k:Nat} {m:Loc},f≠g->h.dE g k->M g k=some m->w'.heap[m.bS]?=w.heap[m.bS]?:=fun{g k m} bV qQ e=>by
  have ah:=r.lt e;rcases iz with⟨_,_,bN,_⟩|⟨_,bN⟩
  ·exact bN _ (kv (r.sep f aZ l g k m jB bT qQ e bV (.inl pb))) ah
  ·exact bN _ ah
 have W8:∀{k:Nat} {m:Loc},M f k=some m->∀c elem du,w.heap[m.bS]?=some (.cells c elem du) ->∃fT,w'.heap[m.bS]?=some (.cells fT elem du)/\fT.size=c.size/\∀i,i<m.base+xs.length->fT[i]?=c[i]?:=fun{k m} e c elem du qR=>by
  have ah:=r.lt e;rcases iz with⟨_,_,bN,mJ⟩|⟨_,bN⟩
  ·by_cases hblk:m.bS=l.bS
   ·have:=r.base f k m aZ l e bT hblk;rw[hblk]at qR⊢;rw[this];exact mJ c elem du qR
   ·exact⟨c,by rw[bN _ hblk ah];exact qR,rfl,fun _ _=>rfl⟩
  ·exact⟨c,by rw[bN _ ah];exact qR,rfl,fun _ _=>rfl⟩
 refine⟨?_,hle,a1 _,aA,fun g k m e bA=>?_,fun b ah db=>?_,fun g k m e7 e=>?_,fun g k m e7 e=>?_,fun g _ av=>?_,h1,ae,az,fun g k m e bA=>?_,fun g _ e=>?_⟩
 ·refine⟨fun g k m e=>?_,fun g cV nK r1 Dp gF qH h1 av k i6 km=>?_,fun g o m h1 iw av=>?_,fun g k m bR j c8 a b c d bV hw=>?_,fun g cV nK r1 Dp gF k h1 hk=>?_,fun g o k h1 iw hk=>?_,fun g k m j c8 a b ah=>?_,fun g kV=>?_⟩
  ·rcases we e with⟨rfl,rfl,rfl⟩|⟨_,cD⟩
   ·exact⟨qP,(r.i5 g aZ l bT).2.1,xQ,dO,hle _ _ _ h4⟩
   ·obtain⟨a,b,c,qH,d⟩:=r.i5 g k m cD;exact⟨oW a aA,b,c,qH,hle _ _ _ d⟩
  ·by_cases e:f=g
   ·subst e;rw[H.gV]at h1;cases h1;by_cases hk:k=aZ+1
    ·subst hk;refine⟨cr,aW.add_same _ _ _ _,?_⟩;have:=U.congr hle rfl;simpa using this
    ·obtain⟨m,hm,nb,ab,ax,c,du,qR,aM1,E4,aqs⟩:=r.cells f xs aZ dead .rw ty dO aC h4 k i6 (by omega);obtain⟨fT,nD,tD,RI⟩:=W8 hm c ty du qR;refine⟨m,hle _ _ _ hm,nb,by simp;omega,fun sV=>?_,fT,du,nD,by omega,fun i v ai ar=>?_,aqs⟩
     ·simp at sV;omega
     ·rw[nP (by omega)]at ar;obtain⟨aL,a,b,d⟩:=E4 i v ai ar;exact⟨aL,by rw[RI _ (by omega)];exact a,b.mono hle,d⟩
   ·rw[H.ej h _ e]at h1;have It:M g 0=some qH:=by
     rcases we av with⟨rfl,_,_⟩|⟨_,cD⟩
     ·exact absurd rfl e
     ·exact cD
    obtain⟨m,hm,qR⟩:=r.cells g cV nK r1 Dp gF qH h1 It k i6 km;exact⟨m,hle _ _ _ hm,qR.congr hle (Bx e (by unfold H.dE;rw[h1];exact⟨i6,km⟩) hm)⟩
  ·by_cases e:f=g
   ·subst e;rw[H.gV]at h1;cases h1;simp[O.k2]at iw
   ·rw[H.ej h _ e]at h1;have It:M g 0=some m:=by
     rcases we av with⟨rfl,_,_⟩|⟨_,cD⟩
     ·exact absurd rfl e
     ·exact cD
    obtain⟨ah,Ar,ae,oJ⟩:=r.oh g o m h1 iw It;refine⟨ah,Ar,?_,oJ.mono hle⟩;rw[Bx e ?_ It];exact ae;unfold H.dE;rw[h1];cases o<;>first|rfl|(simp[O.k2]at iw)
  ·have key:∀{g:P} {k:Nat} {m:Loc},g≠f->h.dE g k->M g k=some m->m.bS≠cr.bS:=fun{g k m} iv qQ hm=>by
    rcases iz with⟨aN,_⟩|⟨aN,_⟩
    ·rw[aN];exact r.sep g k m f aZ l qQ hm jB bT iv (.inr pb)
    ·have:=r.lt hm;omega
   rcases we b with⟨rfl,rfl,rfl⟩|⟨_,aN⟩<;>rcases we d with⟨rfl,rfl,rfl⟩|⟨_,bd⟩
   ·exact absurd rfl bV
   ·exact kv (key (kv bV) (kJ bd c) bd)
   ·exact key bV (kJ aN a) aN
   ·exact r.sep g k m bR j c8 (kJ aN a) aN (kJ bd c) bd bV (hw.imp (Bn aN) (Bn bd))
  ·by_cases e:f=g
   ·subst e;rw[H.gV]at h1;cases h1;rw[aW.mf M cr (by omega)];exact r.n6 f xs aZ dead .rw ty k aC (by omega)
   ·rw[H.ej h _ e]at h1;rw[aW.mf M cr (fun aJ=>e aJ.1.symm)];exact r.n6 g cV nK r1 Dp gF k h1 hk
  ·by_cases e:f=g
   ·subst e;rw[H.gV]at h1;cases h1;simp[O.k2]at iw
   ·rw[H.ej h _ e]at h1;rw[aW.mf M cr (fun aJ=>e aJ.1.symm)];exact r.po g o k h1 iw hk
  ·rcases we a with⟨aN,bd,bO⟩|⟨_,fG⟩<;>rcases we b with⟨fY,eY,eI⟩|⟨_,b3⟩
   ·rw[bO,eI]
   ·subst aN bO;rcases iz with⟨x,y,_⟩|⟨x,_⟩
    ·rw[y];exact r.base g aZ l j c8 bT b3 (by rw[<-x];exact ah)
    ·have:=r.lt b3;omega
   ·subst fY eI;rcases iz with⟨x,y,_⟩|⟨x,_⟩
    ·rw[y];exact r.base g k m aZ l fG bT (by rw[<-x];exact ah)
    ·have:=r.lt fG;omega
   ·exact r.base g k m j c8 fG b3 ah
  ·have:=(r.i5 f 0 dO h4).2.1;have sU:aH h.next<=aH g:=kV
   rw[H.ej h _ (by rintro rfl;omega)];exact r.lD g sU
 ·rcases we e with⟨rfl,rfl,rfl⟩|⟨_,cD⟩
  ·exact .inr (by rw[h4];rfl)
  ·rw[bA]at cD;cases cD
 ·rcases iz with⟨_,_,bN,_⟩|⟨_,bN⟩
  ·exact bN b (kv (db f aZ l pb bT)) ah
  ·exact bN b ah
 ·rcases we e with⟨rfl,rfl,rfl⟩|⟨_,cD⟩
  ·rcases iz with⟨x,_⟩|⟨x,_⟩
   ·exact .inr ⟨g,aZ,l,pb,bT,x.symm⟩
   ·exact .inl (by omega)
  ·refine .inr ⟨g,k,m,⟨kJ cD e7.1,fun a b c d aJ=>?_⟩,cD,rfl⟩;by_cases Is:f=g
   ·subst Is;rw[aC]at aJ;cases aJ
   ·exact e7.2 a b c d (by rw[H.ej h _ Is];exact aJ)
 ·rcases we e with⟨rfl,rfl,rfl⟩|⟨_,cD⟩
  ·rcases iz with⟨x,_⟩|⟨x,_⟩
   ·exact .inr ⟨g,aZ,l,jB,bT,x.symm⟩
   ·exact .inl (by omega)
  ·exact .inr ⟨g,k,m,kJ cD e7,cD,rfl⟩
 ·exact H.ej h _ (by rintro rfl;rw[h4]at av;cases av)
 ·rcases we e with⟨rfl,rfl,rfl⟩|⟨_,cD⟩
  ·exact .inr (by rw[aC];rfl)
  ·rw[bA]at cD;cases cD
 ·by_cases cD:f=g
  ·subst cD;rw[aC];rfl
  ·rw[H.ej h _ cD]at e;exact e
theorem anu(r:Rel p M h w.heap){f:P}{xs cV:List V}{aZ dead:Nat}{ty:TypeId}{l dO cr:Loc}(aC:h.get f=some (.cells xs aZ dead .rw ty))(a3:dead<=aZ)(h4:M f 0=some dO)
  (bT:M f aZ=some l) {cL:Obj} (hh:w'.heap[cr.bS]?=some cL) (aq:re p M cr (.cells cV 0 0 .rw ty) cL) (aA:w.heap.size<=w'.heap.size) (qP:cr.bS<w'.heap.size)
  (iz:(cr.bS=l.bS/\∀b,b≠l.bS->b<w.heap.size->w'.heap[b]?=w.heap[b]?)\/(cr.bS=w.heap.size/\∀b,b<w.heap.size->w'.heap[b]?=w.heap[b]?))
  (h1:w'.os=w.os) (ae:w'.output=w.output) (az:w'.tape=w.tape):
  Step p M h w (M.add h.next 0 cr) ((h.set f (.cells xs aZ (aZ+1) .rw ty)).new (.cells cV 0 0 .rw ty)) w':=by
 have jB:h.dE f aZ:=by unfold H.dE;rw[aC];exact⟨a3,a1 _⟩
 have pb:h.jU f aZ:=⟨jB,fun a b c d e=>by rw[aC]at e;cases e⟩;have aAi:∀k,¬(h.set f (.cells xs aZ (aZ+1) .rw ty)).dE f k:=fun k a=>by
  unfold H.dE at a;rw[H.gV]at a;omega
 have kJ:∀{g:P} {k:Nat},(h.set f (.cells xs aZ (aZ+1) .rw ty)).dE g k->g≠f/\h.dE g k:=fun{g k} a=>by
  by_cases e:f=g
  ·subst e;exact absurd a (aAi k)
  ·exact⟨kv e,(H.uo (H.ej h _ e)).1 a⟩
 have je:Rel p M (h.set f (.cells xs aZ (aZ+1) .rw ty)) w.heap:=by
  refine⟨r.i5,fun g cT nK r1 md gF qH h1 av k i6 km=>?_,fun g o m h1 U av=>?_,fun g k m bR j c8 a b c d bV hw=>r.sep g k m bR j c8 (kJ a).2 b (kJ c).2 d bV (hw.imp (H.sm (H.ej h _ (kv (kJ a).1))).1 (H.sm (H.ej h _ (kv (kJ c).1))).1),fun g cT nK r1 md gF k h1 hk=>?_,fun g o k h1 U hk=>?_,r.base,fun g kV=>?_⟩
  ·by_cases e:f=g
   ·subst e;rw[H.gV]at h1;cases h1;omega
   ·rw[H.ej h _ e]at h1;exact r.cells g cT nK r1 md gF qH h1 av k i6 km
  ·by_cases e:f=g
   ·subst e;rw[H.gV]at h1;cases h1;simp[O.k2]at U
   ·rw[H.ej h _ e]at h1;exact r.oh g o m h1 U av
  ·by_cases e:f=g
   ·subst e;rw[H.gV]at h1;cases h1;exact r.n6 f xs aZ dead .rw ty k aC hk
   ·rw[H.ej h _ e]at h1;exact r.n6 g cT nK r1 md gF k h1 hk
  ·by_cases e:f=g
   ·subst e;rw[H.gV]at h1;cases h1;simp[O.k2]at U
   ·rw[H.ej h _ e]at h1;exact r.po g o k h1 U hk
  ·have:=(r.i5 f aZ l bT).2.1;have sU:aH h.next<=aH g:=kV
   rw[H.ej h _ (by rintro rfl;omega)];exact r.lD g sU
 have lQ:∀k,M h.next k=none:=r.sk
 have tE:f≠h.next:=by rintro rfl;rw[lQ]at bT;cases bT
 have dX:=je.BT (.cells cV 0 0 .rw ty);have jn:∀{g:P},h.next≠g->((h.set f (.cells xs aZ (aZ+1) .rw ty)).new (.cells cV 0 0 .rw ty)).get g=(h.set f (.cells xs aZ (aZ+1) .rw ty)).get g:=fun{g} e=>H.lV (h.set f (.cells xs aZ (aZ+1) .rw ty)) _ e
 have bV:∀{g:P} {k:Nat} {m:Loc},M g k=some m->h.next≠g:=fun{g k m} e xh=>by subst xh;rw[lQ]at e;cases e
 have XF:∀{g:P} {k:Nat} {m:Loc},M g k=some m->((h.set f (.cells xs aZ (aZ+1) .rw ty)).new (.cells cV 0 0 .rw ty)).dE g k->g≠f/\h.dE g k:=fun{g k m} hm a=>
  kJ ((H.uo (jn (bV hm))).1 a)
 have e3:=dX.GG (f:=h.next) (kE:=w'.heap) (lQ 0) (by rw[H.fF];simp) (H.vp (h.set f (.cells xs aZ (aZ+1) .rw ty)) _) (l:=cr) (cL:=cL)
  (fun g k m qQ hm=>by
   obtain⟨iv,avM⟩:=XF hm qQ;rcases iz with⟨aN,_⟩|⟨aN,_⟩
   ·rw[aN];exact r.sep g k m f aZ l avM hm jB bT iv (.inr pb)
   ·have:=r.lt hm;omega) aA qP
  (fun b ah mJ=>by
   rcases iz with⟨aN,bd⟩|⟨aN,bd⟩
   ·exact bd b (by rw[<-aN];exact mJ) ah
   ·exact bd b ah) hh (aq.mono (aW.qo (lQ 0)))
 refine⟨e3,aW.qo (lQ 0),by rw[H.fF];simp,aA,fun g k m e bA=>?_,fun b ah db=>?_,fun g k m e7 e=>?_,fun g k m e7 e=>?_,fun g kV av=>?_,h1,ae,az,fun g k m e bA=>?_,fun g kV e=>?_⟩
 ·by_cases pZ:g=h.next/\k=0
  ·exact .inl (by rw[pZ.1];exact a1 _)
  ·rw[aW.mf M cr pZ,bA]at e;cases e
 ·rcases iz with⟨_,bd⟩|⟨_,bd⟩
  ·exact bd b (kv (db f aZ l pb bT)) ah
  ·exact bd b ah
 ·by_cases pZ:g=h.next/\k=0
  ·rw[pZ.1,pZ.2,aW.add_same]at e;cases e;rcases iz with⟨aN,_⟩|⟨aN,_⟩
   ·exact .inr ⟨f,aZ,l,pb,bT,aN.symm⟩
   ·exact .inl (by omega)
  ·rw[aW.mf M cr pZ]at e;obtain⟨iv,qQ⟩:=XF e e7.1;refine .inr ⟨g,k,m,⟨qQ,fun a b c d aJ=>?_⟩,e,rfl⟩;exact e7.2 a b c d (by rw[jn (bV e),H.ej h _ (kv iv)];exact aJ)
 ·by_cases pZ:g=h.next/\k=0
  ·rw[pZ.1,pZ.2,aW.add_same]at e;cases e;rcases iz with⟨aN,_⟩|⟨aN,_⟩
   ·exact .inr ⟨f,aZ,l,jB,bT,aN.symm⟩
   ·exact .inl (by omega)
  ·rw[aW.mf M cr pZ]at e;obtain⟨iv,qQ⟩:=XF e e7;exact .inr ⟨g,k,m,qQ,e,rfl⟩
 ·rw[jn (by rintro rfl;omega),H.ej h _ (by rintro rfl;rw[h4]at av;cases av)]
 ·by_cases pZ:g=h.next/\k=0
  ·exact .inl (by rw[pZ.1];exact a1 _)
  ·rw[aW.mf M cr pZ,bA]at e;cases e
 ·rw[jn (by rintro rfl;omega)]at e;by_cases cD:f=g
  ·subst cD;rw[aC];rfl
  ·rw[H.ej h _ cD]at e;exact e
end
abbrev r8:=@List.mapM_cons
abbrev df:=@Option.bind_eq_bind
abbrev bK:=@Option.bind_eq_some_iff
abbrev ue:=@Option.pure_def
abbrev vb:=@Option.map_eq_some_iff
abbrev cW:=@Go.run_underlying
abbrev ja:=@Go.Sem.run_bind
abbrev jb:=@Go.Result.andThen_ok
abbrev nQ:=@List.map_cons
section
variable {p:Program}
theorem Ey{M:aW}{f:Value->Option V}(aE:∀v x,f v=some x->bm M x v):∀(l:List Value) {xs:List V},l.mapM f=some xs->dq M xs l
 |[],xs,h=>by simp at h;subst h;exact .nil
 |v::l,xs,h=>by
  simp only[r8,df,bK,ue,cN]at h;obtain⟨x,ab,cV,ax,rfl⟩:=h;exact .cons (aE v x ab) (Ey aE l ax)
theorem LC(M:aW):∀(n:Nat) (v:Value) (x:V),wc n v=some x->bm M x v
 |0,v,x,h=>by simp[wc]at h
 |n+1,v,x,h=>by
  have ih:=fun v x=>LC M n v x;unfold wc at h;split at h
  ·cases h;exact .bool _
  ·cases h;exact .int _ _
  ·cases h;exact .str _
  ·cases h;exact .kt
  ·cases h;exact .al
  ·cases h;exact .qh
  ·cases h;exact .lK
  ·cases h;exact .og
  ·rename_i t v;simp only[vb]at h;obtain⟨y,ax,rfl⟩:=h;exact .kD (ih v y ax)
  ·rename_i cs;split at h
   ·rename_i l au;split at h
    ·rename_i u2;cases h;exact .agg (Ey ih _ au) (by simpa using u2)
    ·cases h
   ·cases h
  ·rename_i cs;simp only[vb]at h;obtain⟨l,au,rfl⟩:=h;exact .bk (Ey ih _ au)
  ·simp only[df,bK,cN]at h;obtain⟨a,bN,b,ah,rfl⟩:=h;exact .fn (Ey ih _ bN) (Ey ih _ ah)
  ·cases h
def g0(p:Program)(M:aW):Prop:=∀(g:Nat) (oz:Global) (n:Nat),p.globals[g]?=some oz->gM p oz.type=some n->∃l,M (gQ g) 0=some l/\l.bS=g/\l.base=0/\n<=l.ext
theorem g0.mono{M aT:aW}(h:g0 p M)(hm:M.le aT):g0 p aT:=fun g oz n a b=>let⟨l,c,d⟩:=h g oz n a b;⟨l,hm _ _ _ c,d⟩
theorem wM{M:aW}{N:Nat}{I:Fr}{a:Act}(aE:iX M N I a.tmps)(aC:g0 p M){x:Operand}{kA:X}(h:di p N x=some kA):bm M (kA.a7 I) (a.eval x):=by
 cases x with
 |tmp t=>
  simp only[di]at h;split at h
  ·rename_i bp;cases h;obtain⟨aL,e,ar⟩:=aE.get t bp;have:a.eval (.tmp t)=aL:=by
    show a.tmps.getD t _=aL;simp[e]
   rw[this];exact ar
  ·cases h
 |const v=>
  simp only[di,vb]at h;obtain⟨y,ax,rfl⟩:=h;exact LC M 20 v y ax
 |global g=>
  simp only[di,df,bK,cN]at h;obtain⟨oz,kV,n,aq,rfl⟩:=h;obtain⟨l,au,ah,av,hle⟩:=aC g oz n kV aq;have:=bm.ptr (M:=M) 0 n au (by omega);rw[ah,av]at this;exact this
 |func f=>cases h;exact .fn (hq:=#[]) (gW:=#[]) .nil .nil
theorem Ll{M:aW}{N:Nat}{I:Fr}{a:Act}(aE:iX M N I a.tmps)(aC:g0 p M):∀(l:List Operand) {xs:List X},l.mapM (di p N)=some xs->dq M (hc I xs) (l.map a.eval)
 |[],xs,h=>by simp at h;subst h;exact .nil
 |x::l,xs,h=>by
  simp only[r8,df,bK,ue,cN]at h;obtain⟨y,ax,cV,tF,rfl⟩:=h;exact .cons (wM aE aC ax) (Ll aE aC l tF)
theorem anv{t:TypeId}{z:V}(h:zeroV p t=some z)(M:aW):∃da,bm M z da/\∀w,(zeroValue t).run p w=.ok da w:=by
 simp only[zeroV,df,bK]at h;obtain⟨jI,iR,da,m2,aX⟩:=h;exact⟨da,LC M 20 da z aX,fun w=>by simp[zeroValue,typeInfo,iR,m2]⟩
theorem mC{t:TypeId}{n:Nat}(h:gM p t=some n)(w:World):(sizeOf t).run p w=.ok n w:=by
 simp only[gM,vb]at h;obtain⟨jI,iR,rfl⟩:=h;simp[sizeOf,typeInfo,iR]
theorem Hu{t:TypeId}{b:Bool}(h:lj p t=some b)(w:World):(isAgg t).run p w=.ok b w:=by
 unfold lj hd at h;split at h
 ·rename_i bt a3;cases h;simp[isAgg,cW a3]
 ·rename_i n e a3;cases h;simp[isAgg,cW a3]
 ·rename_i d Cv aM2 a3;cases h;simp only[isAgg,ja,cW a3,jb]
  first|rfl|(split<;>simp_all)
 ·cases h
theorem nr{t:TypeId}{n:Nat}(h:gU p t=some n):gM p t=some n/\n≠0:=by
 simp only[gU,df,bK]at h;obtain⟨m,hm,h⟩:=h;split at h
 ·cases h
 ·cases h;exact⟨hm,by assumption⟩
def kH(p:Program)(M:aW)(v:V)(s:Sem Value):Prop:=∃aL,bm M v aL/\∀w,s.run p w=.ok aL w
section values
variable {M:aW}
theorem yf{v:V}{n:Nat}{r:Value}(h:v.nat=some n)(aI:bm M v r):∃k,r=.int k (Int.ofNat n):=by
 unfold V.nat at h;split at h
 ·cases h;cases aI;exact⟨_,rfl⟩
 ·cases h
theorem aoG{v:V}{b:Bool}{r:Value}(h:v.isTrue=some b)(aI:bm M v r):r=.bool b:=by
 unfold V.isTrue at h;split at h
 ·cases h;cases aI;rfl
 ·cases h
theorem BV(k:IntKind)(n:Int):b8 k n=k.wrap n:=by
 unfold b8;split
 ·split
  ·rename_i m h;have:=Nat.blt_eq.mp h;exact(IntWalk.i64_in _ ⟨by simp,by simp;omega⟩).symm
  ·rfl
 ·split
  ·rename_i m h;have:=Nat.blt_eq.mp h;exact(IntWalk.i64_in _ ⟨by rw[Int.negSucc_eq];omega,by rw[Int.negSucc_eq];omega⟩).symm
  ·rfl
 ·split
  ·rename_i m h;have:=Nat.blt_eq.mp h;exact(IntWalk.u64_in _ ⟨by simp,by simp;omega⟩).symm
  ·rfl
 ·split
  ·rename_i m h;have:=Nat.blt_eq.mp h;exact(IntWalk.u8_in _ ⟨by simp,by simp;omega⟩).symm
  ·rfl
 ·split
  ·rename_i m h;have:=Nat.blt_eq.mp h;exact(IntWalk.i32_in _ ⟨by simp,by simp;omega⟩).symm
  ·rfl
 ·split
  ·rename_i m h;have:=Nat.blt_eq.mp h;exact(IntWalk.u32_in _ ⟨by simp,by simp;omega⟩).symm
  ·rfl
 ·rfl
theorem L1:∀(a b:List UInt8),wC (a.map UInt8.toNat) (b.map UInt8.toNat)=Op.bytesLess a b
 |_,[]=>by simp[wC,Op.bytesLess]
 |[],_::_=>by simp[wC,Op.bytesLess]
 |x::a,y::b=>by
  have h1:Nat.blt x.toNat y.toNat=decide (x<y):=by rw[i9];simp[lv,UInt8.lt_iff_toNat_lt]
  have ae:Nat.beq x.toNat y.toNat=(x==y):=by
   rw[i9];simp[Nat.beq_eq,UInt8.toNat_inj]
  simp only[nQ,wC,Op.bytesLess,h1,ae,L1 a b]
theorem YA(a b:List UInt8):leq (a.map UInt8.toNat) (b.map UInt8.toNat)=(a==b):=by
 rw[i9,X8,beq_iff_eq];constructor
 ·intro h;exact(List.map_inj_right (fun x y h=>UInt8.toNat_inj.1 h)).1 h
 ·rintro rfl;rfl
end values
end
abbrev wN:=@List.mem_of_mem_drop
abbrev wO:=@List.mem_of_mem_take
abbrev D3:=@Nat.add_comm
abbrev wP:=@Go.Addr.add_lit
abbrev i0:=@Nat.mul_le_mul_right
abbrev eP:=@Nat.add_mul
abbrev r9:=@Nat.one_mul
abbrev ij:=@List.getElem?_map
section
variable {p:Program}{M:aW}
theorem aHS{agg:Bool}{cs:Option (List V)}{v:V}(h:one agg cs=some v):∃l,cs=some l/\(agg=true/\v=.agg l\/agg=false/\l=[v]):=by
 unfold one at h;split at h
 ·cases h
 ·rename_i l;split at h
  ·cases h;exact⟨l,rfl,.inl ⟨rfl,rfl⟩⟩
  ·split at h
   ·cases h;exact⟨_,rfl,.inr ⟨rfl,rfl⟩⟩
   ·cases h
theorem aog{xs:List V}{off n:Nat}{r:List V}(h:range xs off n=some r):n<=(xs.drop off).length/\r=(xs.drop off).take n:=by
 unfold range at h;have:=He _ _ h;rwa[si]at this
theorem amF{cs:List V}{aD:Array Value}{agg:Bool}{off n:Nat}{v:V}{t:TypeId}(aI:bm M (.agg cs) (.agg aD))(bN:lj p t=some agg)(aA:gM p t=some n)
  (h:one agg (range cs off n)=some v):kH p M v (part t aD off):=by
 obtain⟨l,au,U⟩:=aHS h;obtain⟨aq,rfl⟩:=aog au;cases aI with
 |agg ar nN=>
  have a3:=(ar.drop off).take n;rcases U with⟨rfl,rfl⟩|⟨rfl,he⟩
  ·refine⟨.agg (aD.extract off (off+n)),.agg ?_ (fun c U=>nN c (wN (wO U))),fun w=>?_⟩
   ·simpa[List.take_drop,D3]using a3
   ·simp[part,Hu bN,mC aA]
  ·rw[he]at a3;generalize aM:(aD.toList.drop off).take n=q at a3;cases a3 with
   |cons ab bp=>
    cases bp;rename_i aL;refine⟨aL,ab,fun w=>?_⟩;have aC:aD[off]?=some aL:=by
     have h1:((aD.toList.drop off).take n)[0]?=some aL:=by rw[aM];rfl
     rw[List.getElem?_take]at h1;split at h1
     ·rw[qq]at h1;simpa using h1
     ·cases h1
    simp[part,Hu bN,aC]
theorem aFq{t:TypeId}{bt:Array Field}{f n:Nat}{fd:Field}{v dg:V}{aL:Value}(hu: p.underlying t=some (.struct bt))(aE:bt[f]?=some fd)(aq:gU p fd.type=some n)
  (aI:bm M v aL) (h:hM fd.offset n v=some dg):kH p M dg (Instr.fieldAt t aL f):=by
 unfold hM at h;split at h
 ·split at h
  ·rename_i f k o room ah;cases h;have ah:=iZ ah;cases aI with
   |ptr off room bT hle=>
    obtain⟨aA,kn⟩:=nr aq;refine⟨_,.ptr _ n bT (by omega),fun w=>?_⟩;simp[Instr.fieldAt,cW hu,aE,Instr.sureAddr,fieldPlace,mC aA,kn,wP,qs]
  ·cases h
 ·cases h
theorem aAj{t:TypeId}{bt:Array Field}{f n:Nat}{fd:Field}{agg:Bool}{v dg:V}{aL:Value}(hu: p.underlying t=some (.struct bt))(aE:bt[f]?=some fd)
  (bN:lj p fd.type=some agg) (aq:gU p fd.type=some n) (aI:bm M v aL) (h:Dj agg fd.offset n v=some dg):kH p M dg (Instr.field t aL f):=by
 unfold Dj at h;split at h
 ·cases aI with
  |agg ar au=>
   obtain⟨E5,h1,ae⟩:=amF (.agg ar au) bN (nr aq).1 h;exact⟨E5,h1,fun w=>by simp[Instr.field,cW hu,aE,asAgg,ae]⟩
 ·cases h
theorem QN(k:IntKind)(n:Int)(w:World):(asIntOf (.int k n)).run p w=.ok (k,n) w:=rfl
theorem aCS{t e:TypeId}{es:Nat}{v i dg:V}{aL vs:Value}(hu: p.underlying t=some (.slice e))(aq:gU p e=some es)
  (aI:bm M v aL) (ai:bm M i vs) (h:jP es v i=some dg):kH p M dg (Instr.indexAt t aL vs):=by
 unfold jP at h;split at h
 ·split at h
  ·rename_i rr qS;split at h
   ·rename_i ah;simp only[dJ]at ah;have ay:=Nat.blt_eq.mp ah.1;have he:=dI ah.2;subst he;cases h;obtain⟨k,rfl⟩:=yf qS ai;cases aI with
    |ag bT au bN hlen hk sD=>
     have rB:=bN.resolve_left (by omega);subst rB;have hmul:=i0 es (show rr+1<=_ from ay);rw[eP,r9]at hmul;refine⟨_,.ptr _ es bT (by omega),fun w=>?_⟩;simp[Instr.indexAt,QN,cW hu,mC (nr aq).1,ay,wP,qs]
   ·cases h
  ·cases h
 ·cases h
theorem aFr{t e:TypeId}{es n:Nat}{v i dg:V}{aL vs:Value}(hu: p.underlying t=some (.array n e))(aq:gU p e=some es)
  (aI:bm M v aL) (ai:bm M i vs) (h:zF es n v i=some dg):kH p M dg (Instr.indexAt t aL vs):=by
 unfold zF at h;split at h
 ·split at h
  ·rename_i rr qS;split at h
   ·rename_i ah;simp only[dJ]at ah;have ay:=Nat.blt_eq.mp ah.1;have aAk:=iZ ah.2;cases h;obtain⟨k,rfl⟩:=yf qS ai;cases aI with
    |ptr off room bT hle=>
     have hmul:(rr+1)*es<=n*es:=i0 es ay;rw[eP,r9]at hmul;refine⟨_,.ptr _ es bT (by omega),fun w=>?_⟩;simp[Instr.indexAt,QN,cW hu,Instr.sureAddr,mC (nr aq).1,ay,wP,qs]
   ·cases h
  ·cases h
 ·cases h
theorem vq(b:ByteArray):(gi b).length=b.size:=by simp[gi]
theorem aKF(b:ByteArray)(i:Nat):(gi b)[i]?=(b[i]?).map UInt8.toNat:=by
 by_cases h:i<b.size
 ·rw[ByteArray.getElem?_lt' b i h];have aa:i<b.data.toList.length:=by simpa using h
  simp only[gi,ij];rw[hN aa];rfl
 ·rw[ByteArray.getElem?_ge' b i h,ei (by rw[vq];omega)];rfl
theorem aFs{t:TypeId}{v i dg:V}{aL vs:Value}(hu: p.underlying t=some .string)(aI:bm M v aL)(ai:bm M i vs)(h:DZ v i=some dg):kH p M dg (Instr.index t aL vs):=by
 unfold DZ at h;split at h
 ·split at h
  ·rename_i rr qS;split at h
   ·rename_i b ah;cases h;obtain⟨k,rfl⟩:=yf qS ai;cases aI with
    |str bs=>
     rw[BH,aKF,vb]at ah;obtain⟨u,sD,rfl⟩:=ah;refine⟨_,.int .u8 _,fun w=>?_⟩;simp[Instr.index,QN,cW hu,sD]
   ·cases h
  ·cases h
 ·cases h
theorem aFt{t e:TypeId}{agg:Bool}{es n:Nat}{v i dg:V}{aL vs:Value}(hu: p.underlying t=some (.array n e))(bN:lj p e=some agg)(aq:gU p e=some es)
  (aI:bm M v aL) (ai:bm M i vs) (h:Bu agg es n v i=some dg):kH p M dg (Instr.index t aL vs):=by
 unfold Bu at h;split at h
 ·split at h
  ·rename_i rr qS;split at h
   ·rename_i ah;have ay:=Nat.blt_eq.mp ah;obtain⟨k,rfl⟩:=yf qS ai;cases aI with
    |agg ar au=>
     obtain⟨E5,h1,ae⟩:=amF (.agg ar au) bN (nr aq).1 h;exact⟨E5,h1,fun w=>by simp[Instr.index,QN,cW hu,mC (nr aq).1,ay,ae]⟩
   ·cases h
  ·cases h
 ·cases h
theorem aCT{i:Nat}{v dg:V}{aL:Value}(aI:bm M v aL)(h:DQ i v=some dg):kH p M dg (Instr.extract aL i):=by
 unfold DQ at h;split at h
 ·cases aI with
  |bk ar=>
   rw[BH]at h;obtain⟨y,ax,g3⟩:=ar.get h;exact⟨y,g3,fun w=>by simp at ax;simp[Instr.extract,ax]⟩
 ·cases h
theorem aAl{t:TypeId}{d:TypeDesc}{v dg:V}{aL:Value}(hu: p.underlying t=some d)(a3:∀ms,d≠.interface ms)(aI:bm M v aL)(h:afv t v=some dg):
  kH p M dg (Instr.makeInterface t aL):=by
 cases h;refine⟨_,.kD aI,fun w=>?_⟩;simp only[Instr.makeInterface,ja,cW hu,jb]
 first
  |rfl
  |(split
    ·rename_i ms;exact absurd rfl (a3 ms)
    ·rfl)
theorem aJH{t QZ:TypeId}{d:TypeDesc}{ok:Bool}{z v dg:V}{aL:Value}(hu: p.underlying t=some d)(a3:∀ms,d≠.interface ms)(aX:zeroV p t=some z)
  (aI:bm M v aL) (h:Yw t z ok v=some dg):kH p M dg (Instr.typeAssert aL QZ t ok):=by
 obtain⟨da,m2,uI⟩:=anv aX M;unfold Yw at h;split at h
 ·rename_i u y;cases aI with
  |kD ax=>
   rename_i ek;split at h
   ·rename_i ah;have:=dI ah;subst this;cases h;cases ok
    ·refine⟨_,ax,fun w=>?_⟩;simp only[Instr.typeAssert,ja,cW hu,jb];split<;>simp_all
    ·refine⟨.tuple #[ek,.bool true],.bk (.cons ax (.cons (.bool _) .nil)),fun w=>?_⟩
     simp only[Instr.typeAssert,ja,cW hu,jb];split<;>simp_all
   ·rename_i ah;have bV:u≠t:=fun e=>by subst e;simp at ah
    split at h
    ·cases h;refine⟨.tuple #[da,.bool false],.bk (.cons m2 (.cons (.bool _) .nil)),fun w=>?_⟩
     simp only[Instr.typeAssert,ja,cW hu,jb];split<;>simp_all
    ·cases h
 ·cases aI;split at h
  ·cases h;refine⟨.tuple #[da,.bool false],.bk (.cons m2 (.cons (.bool _) .nil)),fun w=>?_⟩
   simp only[Instr.typeAssert,ja,cW hu,jb];split<;>simp_all
  ·cases h
 ·cases h
theorem aCU{t ty:TypeId}{v dg:V}{aL:Value}{dZ:Array TypeId}(dU:dZ[0]?=some t)(hu: p.underlying t=some .string)(aI:bm M v aL)
  (h:uZ true v=some dg):kH p M dg (Builtin.len_ dZ ty #[aL]):=by
 simp only[uZ]at h;split at h
 ·cases h;cases aI with
  |str b=>exact⟨_,.int _ _,fun w=>by simp[Builtin.len_,dU,cW hu,goInt,vq]⟩
 ·cases h
theorem aCV{t ty e:TypeId}{v dg:V}{aL:Value}{dZ:Array TypeId}(dU:dZ[0]?=some t)(hu: p.underlying t=some (.slice e))(aI:bm M v aL)
  (h:uZ false v=some dg):kH p M dg (Builtin.len_ dZ ty #[aL]):=by
 simp only[uZ]at h;split at h
 ·cases h;cases aI;exact⟨_,.int _ _,fun w=>by simp[Builtin.len_,dU,cW hu,goInt]⟩
 ·cases h;cases aI;exact⟨_,.int _ _,fun w=>by simp[Builtin.len_,dU,cW hu,goInt]⟩
 ·cases h
theorem aAm{t ty e:TypeId}{v dg:V}{aL:Value}{dZ:Array TypeId}(dU:dZ[0]?=some t)(hu: p.underlying t=some (.slice e))(aI:bm M v aL)
  (h:U5 v=some dg):kH p M dg (Builtin.cap_ dZ ty #[aL]):=by
 unfold U5 at h;split at h
 ·cases h;cases aI;exact⟨_,.int _ _,fun w=>by simp[Builtin.cap_,dU,cW hu,goInt]⟩
 ·cases h;cases aI with
  |ag bT au bN hlen hk sD=>
   rw[(hk _ rfl).1];exact⟨_,.int _ _,fun w=>by simp[Builtin.cap_,dU,cW hu,goInt]⟩
 ·cases h
theorem aAn{ty:TypeId}{v u dg:V}{aL HG:Value}{dZ:Array TypeId}(aI:bm M v aL)(hu:bm M u HG)(h:U6 v u=some dg):kH p M dg (Builtin.min_ dZ ty #[aL,HG]):=by
 unfold U6 at h;split at h
 ·cases h;cases aI;cases hu;rename_i k a ch b;refine⟨_,.int _ _,fun w=>?_⟩;simp only[Builtin.min_,List.foldlM_cons,List.foldlM_nil,Builtin.min2,bind_pure,pE];by_cases ah:b<a<;>simp[ah]
 ·cases h
theorem aAo{ty:TypeId}{v u dg:V}{aL HG:Value}{dZ:Array TypeId}(aI:bm M v aL)(hu:bm M u HG)(h:Dk v u=some dg):kH p M dg (Builtin.max_ dZ ty #[aL,HG]):=by
 unfold Dk at h;split at h
 ·cases h;cases aI;cases hu;rename_i k a ch b;refine⟨_,.int _ _,fun w=>?_⟩;simp only[Builtin.max_,List.foldlM_cons,List.foldlM_nil,Builtin.max2,bind_pure,pE];by_cases ah:a<b<;>simp[ah]
 ·cases h
theorem aFu{ty:TypeId}{dZ:Array TypeId}(a:Addr)(l c:Nat)(U:c≠0)(w:World):(Builtin.unsafeSliceData_ dZ ty #[.slice (some a) l c]).run p w=.ok (.pointer (some a)) w:=by
 have e:Builtin.unsafeSliceData_ dZ ty #[.slice (some a) l c]=(do
   if c≠0 then pure (.pointer (some a))
   else if(<-viewAt a.block).isSome then pure (.pointer (some a))
   else pure (.pointer (some ⟨<-newObj (.view a (<-elemOf ty)),0,none⟩)):Sem Value):=rfl
 rw[e];simp[U]
theorem aAp{ty:TypeId}{v dg:V}{aL:Value}{dZ:Array TypeId}(aI:bm M v aL)(h:U7 v=some dg):kH p M dg (Builtin.unsafeSliceData_ dZ ty #[aL]):=by
 unfold U7 at h;split at h
 ·cases h;cases aI;exact⟨_,.kt,fun w=>rfl⟩
 ·split at h
  ·cases h
  ·cases h;cases aI with
   |ag bT au bN hlen hk sD=>
    have MA:∀{n rc:Nat},n+1<=rc->rc≠0:=fun h=>by omega
    have rB:=bN.resolve_left (MA hlen);subst rB;refine⟨_,.ptr _ _ bT au,fun w=>?_⟩;exact aFu _ _ _ (MA hlen) w
 ·cases h
theorem aAq{s d:TypeId}{ds:TypeDesc}{k:IntKind}{v dg:V}{aL:Value}(aA: p.underlying s=some ds)(a3: p.underlying d=some (.int k))(aI:bm M v aL)(h:JV k v=some dg):
  kH p M dg (convert s d aL):=by
 unfold JV at h;split at h
 ·cases h;cases aI;exact⟨_,.int _ _,fun w=>by rw[BV];simp[convert,cW aA,cW a3,Conv.intToInt]⟩
 ·cases h
theorem aCW{s d:TypeId}{ds:TypeDesc}{v dg:V}{aL:Value}(aA: p.underlying s=some ds)(a3: p.underlying d=some .string)(aI:bm M v aL)(h:W0 v=some dg):
  kH p M dg (convert s d aL):=by
 unfold W0 at h;split at h
 ·cases h;cases aI;exact⟨_,.str _,fun w=>by simp[convert,cW aA,cW a3]⟩
 ·cases h
theorem aCX{s d:TypeId}{ds:TypeDesc}{v dg:V}{aL:Value}(aA: p.underlying s=some ds)(a3: p.underlying d=some .string)(aI:bm M v aL)(h:KI v=some dg):
  kH p M dg (convert s d aL):=by
 unfold KI at h;split at h
 ·split at h
  ·rename_i k n b ah;have ay:=Nat.blt_eq.mp ah;cases h;cases aI;refine⟨.string ⟨#[UInt8.ofNat n]⟩,?_,fun w=>?_⟩
   ·have:gi ⟨#[UInt8.ofNat n]⟩=[n]:=by simp[gi];omega
    rw[<-this];exact .str _
   ·have ar:Utf8.valid (n:Int)=true:=by simp[Utf8.valid];omega
    have he:Utf8.encode (n:Int)=⟨#[UInt8.ofNat n]⟩:=by
     unfold Utf8.encode;simp[ar,show n<128 from ay]
    simp[convert,cW aA,cW a3,Conv.intToString,he]
  ·rename_i k n b ah;generalize bX:Utf8.encode (Int.ofNat n)=e at h;have aqt:Utf8.encode (n:Int)=e:=bX;cases h;cases aI;exact⟨.string e,.str e,fun w=>by simp[convert,cW aA,cW a3,Conv.intToString,aqt]⟩
 ·cases h
theorem avN{op:UnOp}{v dg:V}{aL:Value}(aI:bm M v aL)(h:V.un op v=some dg):kH p M dg (Op.unary op aL):=by
 unfold V.un at h;split at h
 ·cases h;cases aI;exact⟨_,.int _ _,fun w=>rfl⟩
 ·cases h;cases aI;exact⟨_,.int _ _,fun w=>rfl⟩
 ·cases h;cases aI;exact⟨_,.bool _,fun w=>rfl⟩
 ·cases h
end
abbrev pF:=@Go.Sem.run_pure
section
variable {p:Program}{M:aW}
theorem Ez{I:Fr}{d y n:Nat}(h:bound I none d y=some n):n=d:=by simp[bound]at h;exact h.symm
theorem B2{I:Fr}{x:X}{d y n:Nat}{r:Value}(h:bound I (some x) d y=some n)(aI:bm M (x.a7 I) r):n<=y/\∃k,r=.int k (Int.ofNat n):=by
 simp only[bound]at h;split at h
 ·split at h
  ·rename_i m hm b ah;cases h;exact⟨iZ ah,yf hm aI⟩
  ·cases h
 ·cases h
theorem z0(k:IntKind)(n y:Nat)(code:BoundsCode)(h:n<=y)(w:World):(Instr.sliceBound (.int k (n:Int)) y code).run p w=.ok n w:=by
 have:=run_sliceBound (P:=p) w k (n:Int) y code (by omega) (by omega);simpa using this
def vc(M:aW)(I:Fr)(x:Option X)(r:Option Value):Prop:=match x,r with
 |none,none=>True
 |some x,some r=>bm M (x.a7 I) r
 |_,_=>False
theorem Hv{I:Fr}{br ai eo:Option X}{o2 pO gw:Option Value}{len cap nL:Nat}{f:Nat->Nat->Nat->V}{v:V}{Cw:Bool}(au:vc M I br o2)(aJ:vc M I ai pO)(hm:vc M I eo gw)
  (az:eo.isSome=true->ai.isSome=true) (Vd:cap<=nL) (U:eo=none->ai=none\/True) (RJ:len<=cap) (h:uj I br ai eo len cap f=some v):
  ∃l aJ m c8,v=f l aJ m/\l<=aJ/\aJ<=m/\m<=cap/\(eo=none->m=cap/\c8=nL)/\(eo≠none->c8=m)/\m<=c8/\
   ∀w,(Instr.sliceBounds Cw len nL o2 pO gw).run p w=.ok (l,aJ,c8) w:=by
 unfold uj at h;split at h
 ·rename_i m lk;split at h
  ·rename_i aa Iu;split at h
   ·rename_i l eB;cases h;have afA:l<=aa:=by
     cases br with
     |none=>have:=Ez eB;omega
     |some x=>cases o2 with
      |none=>exact au.elim
      |some r=>exact(B2 eB au).1
    cases eo with
    |some x=>
     cases gw with
     |none=>exact hm.elim
     |some r=>
      obtain⟨aqu,Q0,rfl⟩:=B2 lk hm;cases ai with
      |none=>simp at az
      |some y=>
       cases pO with
       |none=>exact aJ.elim
       |some jH=>
        obtain⟨Iv,ca,rfl⟩:=B2 Iu aJ;refine⟨l,aa,m,m,rfl,afA,Iv,aqu,fun e=>(by cases e),fun _=>rfl,a1 _,fun w=>?_⟩;cases br with
        |none=>
         cases o2 with
         |some _=>exact au.elim
         |none=>
          have:=Ez eB;subst this;simp[Instr.sliceBounds,z0 Q0 m nL _ (by omega),z0 ca aa m _ Iv]
        |some z=>
         cases o2 with
         |none=>exact au.elim
         |some aaJ=>
          obtain⟨Iw,B6,rfl⟩:=B2 eB au;simp[Instr.sliceBounds,z0 Q0 m nL _ (by omega),z0 ca aa m _ Iv,z0 B6 l aa _ Iw]
    |none=>
     cases gw with
     |some r=>exact hm.elim
     |none=>
      have:=Ez lk;subst this;have Iv:aa<=m:=by
       cases ai with
       |none=>have:=Ez Iu;omega
       |some y=>cases pO with
        |none=>exact aJ.elim
        |some jH=>exact(B2 Iu aJ).1
      refine⟨l,aa,m,nL,rfl,afA,Iv,a1 _,fun _=>⟨rfl,rfl⟩,fun e=>absurd rfl e,Vd,fun w=>?_⟩;cases ai with
      |none=>
       cases pO with
       |some _=>exact aJ.elim
       |none=>
        have:=Ez Iu;subst this;cases br with
        |none=>
         cases o2 with
         |some _=>exact au.elim
         |none=>have:=Ez eB;subst this;simp[Instr.sliceBounds]
        |some z=>
         cases o2 with
         |none=>exact au.elim
         |some aaJ=>
          obtain⟨Iw,B6,rfl⟩:=B2 eB au;simp[Instr.sliceBounds,z0 B6 l aa _ Iw]
      |some y=>
       cases pO with
       |none=>exact aJ.elim
       |some jH=>
        obtain⟨_,ca,rfl⟩:=B2 Iu aJ;cases br with
        |none=>
         cases o2 with
         |some _=>exact au.elim
         |none=>have:=Ez eB;subst this;simp[Instr.sliceBounds,z0 ca aa nL _ (by omega)]
        |some z=>
         cases o2 with
         |none=>exact au.elim
         |some aaJ=>
          obtain⟨Iw,B6,rfl⟩:=B2 eB au;simp[Instr.sliceBounds,z0 ca aa nL _ (by omega),z0 B6 l aa _ Iw]
   ·cases h
  ·cases h
 ·cases h
theorem Ma{t:TypeId}{d:TypeDesc}(hu: p.underlying t=some d)(a3:∀n e,d≠.array n e)(x:Value)(br ai eo:Option Value)(w:World):
  (Instr.sliceAt t x br ai eo).run p w=(Instr.slice t x br ai eo).run p w:=by
 simp only[Instr.sliceAt,ja,cW hu,jb]
theorem aMh(b:ByteArray)(l h:Nat):gi (b.extract l h)=((gi b).drop l).take (h-l):=by
 simp[gi,ByteArray.data_extract]
theorem aFv{t:TypeId}{I:Fr}{x:X}{br ai:Option X}{aL:Value}{o2 pO:Option Value}{v:V}(hu: p.underlying t=some .string)(aI:bm M (x.a7 I) aL)(au:vc M I br o2)(aJ:vc M I ai pO)
  (h:GD x br ai I=some v):kH p M v (Instr.sliceAt t aL o2 pO none):=by
 unfold GD at h;split at h
 ·rename_i s aA;rw[aA]at aI;cases aI with
  |str b=>
   obtain⟨l,aa,m,c8,rfl,h1,ae,az,bo,_,_,d0⟩:=Hv (p:=p) (nL:=(gi b).length) (gw:=none) (Cw:=false) au aJ (by trivial) (by simp) (a1 _) (fun _=>.inr trivial) (a1 _) h;refine⟨.string (b.extract l aa),?_,fun w=>?_⟩
   ·rw[si,<-aMh];exact .str _
   ·rw[vq]at d0;rw[Ma hu (by simp)];simp[Instr.slice,cW hu,d0 w]
 ·cases h
theorem aCY{t e:TypeId}{es:Nat}{I:Fr}{x:X}{br ai eo:Option X}{aL:Value}{o2 pO gw:Option Value}{v:V}(hu: p.underlying t=some (.slice e))(aq:gU p e=some es)(aI:bm M (x.a7 I) aL)
  (au:vc M I br o2) (aJ:vc M I ai pO) (hm:vc M I eo gw) (az:eo.isSome=true->ai.isSome=true) (h:Gq es x br ai eo I=some v):kH p M v (Instr.sliceAt t aL o2 pO gw):=by
 have aA:=(nr aq).1;unfold Gq at h;split at h
 ·rename_i ab;rw[ab]at aI;cases aI;obtain⟨l,aa,m,c8,rfl,h1,ae,Cx,bo,cb,_,d0⟩:=Hv (p:=p) (nL:=0) (Cw:=true) au aJ hm az (a1 _) (fun _=>.inr trivial) (a1 _) h;have vI:c8=0:=by
   cases eo with
   |none=>exact(bo rfl).2
   |some y=>rw[cb (by simp)];omega
  subst vI;have:l=0:=by omega
  subst this;have:aa=0:=by omega
  subst this;exact⟨_,.al,fun w=>by rw[Ma hu (by simp)];simp[Instr.slice,cW hu,mC aA,d0 w]⟩
 ·rename_i f k off len jA cap ab;split at h
  ·rename_i ah;have:=dI ah;subst this;rw[ab]at aI;cases aI with
   |ag bT eB bN hlen hk sD=>
    rename_i l rc a;cases cap with
    |some c=>
     obtain⟨rfl,aaK⟩:=hk c rfl;obtain⟨lw,aa,m,c8,rfl,h1,ae,Cx,bo,cb,dM,d0⟩:=Hv (p:=p) (nL:=rc) (Cw:=true) au aJ hm az (a1 _) (fun _=>.inr trivial) hlen h;have p0:c8=m:=by
      cases eo with
      |none=>have:=bo rfl;omega
      |some y=>exact cb (by simp)
     subst p0;have aN:lw*es+(aa-lw)*es=aa*es:=by rw[<-eP];congr 1;omega
     have bd:lw*es+(c8-lw)*es=c8*es:=by rw[<-eP];congr 1;omega
     have bO:aa*es<=rc*es:=i0 es (by omega);have fY:c8*es<=rc*es:=i0 es (by omega);refine⟨.slice (some (if c8=lw then a else a.add (lw*es))) (aa-lw) (c8-lw),.ag bT (by omega) ?_ (by omega) (fun c U=>by cases U;exact⟨rfl,by omega⟩) (fun e=>by cases e),fun w=>?_⟩
     ·by_cases ko:c8=lw
      ·exact .inl (by omega)
      ·right;rw[bf ko,bN.resolve_left (by omega),wP,qs]
     ·rw[Ma hu (by simp)];by_cases ko:c8=lw<;>simp[Instr.slice,cW hu,mC aA,d0 w,ko]
    |none=>
     have nC:=sD rfl;cases eo with
     |some y=>
      obtain⟨lw,aa,m,c8,rfl,h1,ae,Cx,bo,cb,dM,d0⟩:=Hv (p:=p) (nL:=rc) (Cw:=true) au aJ hm az hlen (fun _=>.inr trivial) (a1 _) h;have p0:=cb (by simp);subst p0;have aN:lw*es+(aa-lw)*es=aa*es:=by rw[<-eP];congr 1;omega
      have bd:lw*es+(c8-lw)*es=c8*es:=by rw[<-eP];congr 1;omega
      have bO:aa*es<=len*es:=i0 es (by omega);have fY:c8*es<=len*es:=i0 es (by omega);refine⟨.slice (some (if c8=lw then a else a.add (lw*es))) (aa-lw) (c8-lw),.ag bT (by omega) ?_ (by omega) (fun c U=>by cases U;exact⟨rfl,by omega⟩) (fun e=>by cases e),fun w=>?_⟩
      ·by_cases ko:c8=lw
       ·exact .inl (by omega)
       ·right;rw[bf ko,bN.resolve_left (by omega),wP,qs]
      ·rw[Ma hu (by simp)];by_cases ko:c8=lw<;>simp[Instr.slice,cW hu,mC aA,d0 w,ko]
     |none=>
      obtain⟨lw,aa,m,c8,rfl,h1,ae,Cx,bo,cb,dM,d0⟩:=Hv (p:=p) (nL:=rc) (Cw:=true) au aJ hm az hlen (fun _=>.inr trivial) (a1 _) h;obtain⟨rfl,rfl⟩:=bo rfl;have aN:lw*es+(aa-lw)*es=aa*es:=by rw[<-eP];congr 1;omega
      have bd:lw*es+(c8-lw)*es=c8*es:=by rw[<-eP];congr 1;omega
      have bO:aa*es<=m*es:=i0 es (by omega);refine⟨.slice (some (if c8=lw then a else a.add (lw*es))) (aa-lw) (c8-lw),.ag bT (by omega) ?_ (by omega) (fun c U=>by cases U) (fun _=>by omega),fun w=>?_⟩
      ·by_cases ko:c8=lw
       ·exact .inl (by omega)
       ·right;rw[bf ko,bN.resolve_left (by omega),wP,qs]
      ·rw[Ma hu (by simp)];simp only[Instr.slice,ja,cW hu,mC aA,d0 w,jb,pF];split<;>rfl
  ·cases h
 ·cases h
theorem aFw{t e:TypeId}{es n:Nat}{I:Fr}{x:X}{br ai eo:Option X}{aL:Value}{o2 pO gw:Option Value}{v:V}(hu: p.underlying t=some (.array n e))(aq:gU p e=some es)(aI:bm M (x.a7 I) aL)
  (au:vc M I br o2) (aJ:vc M I ai pO) (hm:vc M I eo gw) (az:eo.isSome=true->ai.isSome=true) (h:Pu es n x br ai eo I=some v):kH p M v (Instr.sliceAt t aL o2 pO gw):=by
 have aA:=(nr aq).1;unfold Pu at h;split at h
 ·rename_i f k off room ab;split at h
  ·rename_i ah;have ah:=iZ ah;rw[ab]at aI;cases aI with
   |ptr _ _ bT hle=>
    rename_i l;obtain⟨lw,aa,m,c8,rfl,h1,ae,Cx,bo,cb,dM,d0⟩:=Hv (p:=p) (nL:=n) (Cw:=false) au aJ hm az (a1 _) (fun _=>.inr trivial) (a1 _) h;have p0:c8=m:=by
     cases eo with
     |none=>have:=bo rfl;omega
     |some y=>exact cb (by simp)
    subst p0;have aN:lw*es+(aa-lw)*es=aa*es:=by rw[<-eP];congr 1;omega
    have bd:lw*es+(c8-lw)*es=c8*es:=by rw[<-eP];congr 1;omega
    have bO:aa*es<=n*es:=i0 es (by omega);have fY:c8*es<=n*es:=i0 es (by omega);refine⟨.slice (some (if c8=lw then⟨l.bS,l.base+off,none⟩else⟨l.bS,l.base+off+lw*es,none⟩)) (aa-lw) (c8-lw),.ag bT (by omega) ?_ (by omega) (fun c U=>by cases U;exact⟨rfl,by omega⟩) (fun e=>by cases e),fun w=>?_⟩
    ·by_cases ko:c8=lw
     ·exact .inl (by omega)
     ·right;rw[bf ko,qs]
    ·by_cases ko:c8=lw<;>simp[Instr.sliceAt,Instr.sureAddr,cW hu,mC aA,d0 w,ko,wP]
  ·cases h
 ·cases h
end
end Go.ao
