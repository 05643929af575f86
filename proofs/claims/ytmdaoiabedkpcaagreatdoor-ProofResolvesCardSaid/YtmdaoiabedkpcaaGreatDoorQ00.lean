/- A part of the proof that ProofResolves holds for every input of the given program: ImA, ImB, ImT, ImR, ImS, ImW0, ImPu, ImPv, ImPw. -/
import GoSem.Step
import Derived.Laws.IdiomCopy
import Derived.Laws.Cells
import Derived.Laws.Slices
import Derived.Laws.Strings2
import Derived.Laws.StructEq
import Derived.IntWalk
set_option linter.unusedVariables false
set_option linter.unusedSimpArgs false
namespace Go.Im

/-! tries of eight ways -/
inductive D where | d0 | d1 | d2 | d3 | d4 | d5 | d6 | d7
  deriving DecidableEq, Repr, Inhabited
structure B8 (α : Type) where
  a : α
  b : α
  c : α
  d : α
  e : α
  f : α
  g : α
  h : α
  deriving Inhabited
abbrev P := List D

noncomputable def D.s {α : Type} (d : D) : B8 α → α := @D.rec (fun _ => B8 α → α) B8.a B8.b B8.c B8.d B8.e B8.f B8.g B8.h d
noncomputable def u0 {α : Type} (k : α → α) (t : B8 α) : B8 α := @B8.rec α (fun _ => B8 α) (fun a b c d e f g h => ⟨k a, b, c, d, e, f, g, h⟩) t
noncomputable def u1 {α : Type} (k : α → α) (t : B8 α) : B8 α := @B8.rec α (fun _ => B8 α) (fun a b c d e f g h => ⟨a, k b, c, d, e, f, g, h⟩) t
noncomputable def u2 {α : Type} (k : α → α) (t : B8 α) : B8 α := @B8.rec α (fun _ => B8 α) (fun a b c d e f g h => ⟨a, b, k c, d, e, f, g, h⟩) t
noncomputable def u3 {α : Type} (k : α → α) (t : B8 α) : B8 α := @B8.rec α (fun _ => B8 α) (fun a b c d e f g h => ⟨a, b, c, k d, e, f, g, h⟩) t
noncomputable def u4 {α : Type} (k : α → α) (t : B8 α) : B8 α := @B8.rec α (fun _ => B8 α) (fun a b c d e f g h => ⟨a, b, c, d, k e, f, g, h⟩) t
noncomputable def u5 {α : Type} (k : α → α) (t : B8 α) : B8 α := @B8.rec α (fun _ => B8 α) (fun a b c d e f g h => ⟨a, b, c, d, e, k f, g, h⟩) t
noncomputable def u6 {α : Type} (k : α → α) (t : B8 α) : B8 α := @B8.rec α (fun _ => B8 α) (fun a b c d e f g h => ⟨a, b, c, d, e, f, k g, h⟩) t
noncomputable def u7 {α : Type} (k : α → α) (t : B8 α) : B8 α := @B8.rec α (fun _ => B8 α) (fun a b c d e f g h => ⟨a, b, c, d, e, f, g, k h⟩) t
noncomputable def D.u {α : Type} (d : D) : (α → α) → B8 α → B8 α := @D.rec (fun _ => (α → α) → B8 α → B8 α) u0 u1 u2 u3 u4 u5 u6 u7 d

inductive HT (α : Type) where | e | n (v : Option α) (c : B8 (HT α))
instance {α : Type} : Inhabited (HT α) := ⟨.e⟩
def HT.e8 {α : Type} : B8 (HT α) := ⟨.e, .e, .e, .e, .e, .e, .e, .e⟩
def HT.val {α : Type} (t : HT α) : Option α := match t with | .e => none | .n v _ => v
def HT.kid {α : Type} (t : HT α) : B8 (HT α) := match t with | .e => HT.e8 | .n _ c => c
noncomputable def HT.get0 {α : Type} (t : HT α) : Option α := @HT.casesOn α (fun _ => Option α) t none fun v _ => v
noncomputable def HT.get1 {α : Type} (d : D) (ih : HT α → Option α) (t : HT α) : Option α := @HT.casesOn α (fun _ => Option α) t none fun _ c => ih (d.s c)
noncomputable def HT.set0 {α : Type} (x : α) (t : HT α) : HT α := @HT.casesOn α (fun _ => HT α) t (.n (some x) HT.e8) fun _ c => .n (some x) c
noncomputable def HT.set1 {α : Type} (d : D) (ih : HT α → HT α) (t : HT α) : HT α := @HT.casesOn α (fun _ => HT α) t (.n none (d.u ih HT.e8)) fun v c => .n v (d.u ih c)
noncomputable def HT.get {α : Type} (k : P) : HT α → Option α :=
  @List.rec D (fun _ => HT α → Option α) HT.get0 (fun d _ ih => HT.get1 d ih) k
noncomputable def HT.set {α : Type} (x : α) (k : P) : HT α → HT α :=
  @List.rec D (fun _ => HT α → HT α) (HT.set0 x) (fun d _ ih => HT.set1 d ih) k

def D.val (d : D) : Nat := match d with | .d0 => 0 | .d1 => 1 | .d2 => 2 | .d3 => 3 | .d4 => 4 | .d5 => 5 | .d6 => 6 | .d7 => 7
def D.of (n : Nat) : D := match n with | 0 => .d0 | 1 => .d1 | 2 => .d2 | 3 => .d3 | 4 => .d4 | 5 => .d5 | 6 => .d6 | _ => .d7
def pSucc : P → P
  | [] => [.d1]
  | .d0 :: k => .d1 :: k
  | .d1 :: k => .d2 :: k
  | .d2 :: k => .d3 :: k
  | .d3 :: k => .d4 :: k
  | .d4 :: k => .d5 :: k
  | .d5 :: k => .d6 :: k
  | .d6 :: k => .d7 :: k
  | .d7 :: k => .d0 :: pSucc k
def pNat : P → Nat
  | [] => 0
  | d :: k => d.val + 8 * pNat k
def pOfF : Nat → Nat → P
  | 0, _ => []
  | f + 1, n => match n with
    | 0 => []
    | m + 1 => D.of ((m + 1) % 8) :: pOfF f ((m + 1) / 8)
def pOf (n : Nat) : P := pOfF 64 n
def pEq : P → P → Bool
  | [], [] => true
  | d :: k, e :: l => match Nat.beq d.val e.val with | true => pEq k l | false => false
  | _, _ => false

/-! values -/
inductive V where
  | bool (b : Bool) | int (k : IntKind) (n : Int) | str (s : List Nat)
  | pnil | ptr (f : P) (k off room : Nat)
  | snil | sl (f : P) (k off len es : Nat) (cap : Option Nat)
  | mnil | map (f : P)
  | fnil | fn (g : Fn) (first cap : List V) | yld (f : P)
  | inil | ifc (t : TypeId) (v : V)
  | agg (cs : List V) | tup (vs : List V) | unk | num (k : IntKind)
  deriving Inhabited

/-- frames: 512 places -/
abbrev Fr := B8 (B8 (B8 V))
structure S where
  a : D
  b : D
  c : D
  deriving DecidableEq, Repr, Inhabited
def V.undef : V := .tup []
def Fr.e : Fr :=
  let z : B8 V := ⟨.tup [], .tup [], .tup [], .tup [], .tup [], .tup [], .tup [], .tup []⟩
  let y : B8 (B8 V) := ⟨z, z, z, z, z, z, z, z⟩
  ⟨y, y, y, y, y, y, y, y⟩
noncomputable def Fr.get (fr : Fr) (s : S) : V := s.c.s (s.b.s (s.a.s fr))
noncomputable def Fr.set (fr : Fr) (v : V) (s : S) : Fr := s.a.u (s.b.u (s.c.u (fun _ => v))) fr
def sOf (n : Nat) : S := ⟨D.of (n / 64), D.of (n / 8 % 8), D.of (n % 8)⟩

/-- what a family of cells is: to be written, shared with a string, or to be read alone -/
inductive Md where | rw | fz | ro
  deriving DecidableEq, Inhabited

/-- operands -/
inductive X where | t (p : S) | c (v : V)
  deriving Inhabited

/-- what '==' compares -/
inductive LK where | lb | li | ls
  deriving DecidableEq, Inhabited
inductive Q where | bool | int | str | ptr | sl | map | fn | ifc | ifcn | agg (ks : List LK) | bad
  deriving DecidableEq, Inhabited

/-- pure operations -/
inductive IP where
  | mv (x : X) | pick (c a b : X) | build (z : List V) (ps : List (Nat × Nat × X)) | nilchk (x : X)
  | bin (op : BinOp) (q : Q) (x y : X) | un (op : UnOp) (x : X)
  | cvi (k : IntKind) (x : X) | cvid (x : X) | cvis (x : X)
  | mki (t : TypeId) (x : X) | mkf (g : Fn) (first cap : List X)
  | slstr (x : X) (lo hi : Option X) | slsl (es : Nat) (x : X) (lo hi mx : Option X) | slarr (es n : Nat) (x : X) (lo hi mx : Option X)
  | faddr (off n : Nat) (x : X) | fld (agg : Bool) (off n : Nat) (x : X)
  | iasl (es : Nat) (x i : X) | iaarr (es n : Nat) (x i : X) | ixstr (x i : X) | ixarr (agg : Bool) (es n : Nat) (x i : X)
  | tassert (t : TypeId) (z : V) (ok : Bool) (x : X) | extr (i : Nat) (x : X)
  | lenv (s : Bool) (x : X) | lenc (n : Nat) | capv (x : X) | imin (x y : X) | imax (x y : X) | usd (x : X)
  deriving Inhabited
/-- readers of one object -/
inductive IR where
  | load (agg : Bool) (n : Nat) (x : X) | cvbs (x : X) | lookup (q : Q) (z : V) (ok : Bool) (x k : X) | lenm (x : X) | cvpu (x : X) | cvup (ty s : Nat) (x : X)
  deriving Inhabited
/-- makers of one object -/
inductive IM where
  | alloc (ty : Nat) (z : List V) | box (ty n : Nat) (x : X) | bslice (ty es : Nat) (len : Nat) (z : List V) (ps : List (Nat × Nat × X))
  | cvsb (ty : Nat) (x : X) | cvsr (ty : Nat) (x : X) | mkmap | mksl (ty es bytes : Nat) (z : List V) (len cap : X) | rngs (x : X)
  deriving Inhabited
/-- writers -/
inductive IW where
  | store (n : Nat) (a x : X) | mapupd (q : Q) (m k v : X) | rngm (x : X) | nxt (s : Bool) (x : X) | entry (x : X)
  | app (ty es bytes : Nat) (a b : X) | appz (ty es bytes : Nat) (z : List V) (a n : X) | copy (es : Nat) (a b : X) | del (q : Q) (m k : X)
  | clrs (es : Nat) (z : List V) (x : X) | clrm (x : X) | ustr (ty : Nat) (p n : X)
  deriving Inhabited
inductive I where
  | pu (i : IP) | rd (i : IR) | mk (i : IM) | wr (i : IW)
  | call (f : X) (args : List X) | defer (f : X) (args : List X) | bad (why : Nat)
  deriving Inhabited

/-- an operation of a region -/
structure Iop where
  dst : Option S
  op : I
  guard : Option (S × Bool)
  deriving Inhabited

inductive C where
  | skip | reg (ops : List Iop) | dreg (ops : List (Iop × List Nat)) | seq (a b : C) | cond (x : X) (a b : C)
  | block (id : Nat) (c : C) | loop (c : C) | rf (x : X) (ps : List S) (assign body : C)
  | exit (id : Nat) | scope (c : C) | label | goto (l : Nat) | ret | bad (why : Nat)
  deriving Inhabited

inductive RV where | tmp (p : S) | cell (p : S) (agg : Bool) (n : Nat)
  deriving Inhabited

structure F where
  n : Nat
  body : C
  res : List RV
  deriving Inhabited

/-- exits -/
inductive Ex where | norm | exit (id : Nat) | goto (l : Nat) | ret
  deriving DecidableEq, Inhabited

inductive LS where | ready | busy | done | exh
  deriving DecidableEq, Inhabited

inductive O where
  | cells (xs : List V) (ver dead : Nat) (md : Md) (ty : TypeId)
  | map (es : List (V × V × Nat)) (clk : Nat)
  | siter (s : List Nat) (pos : Nat)
  | miter (m : Option P) (since : Nat) (seen : List Nat) (stepped : Nat)
  | loop (st : LS) (pend : Option Ex) (snap : Fr) (ps : List S) (assign body : C)
  deriving Inhabited

structure H where
  m : HT O
  next : P
  deriving Inhabited

noncomputable def H.get (h : H) (f : P) : Option O := h.m.get f
noncomputable def H.set (h : H) (f : P) (o : O) : H := H.mk (h.m.set o f) h.next
noncomputable def H.new (h : H) (o : O) : H := H.mk (h.m.set o h.next) (pSucc h.next)

/-! evaluation -/
noncomputable def X.ev (x : X) (fr : Fr) : V := @X.rec (fun _ => V) (Fr.get fr) (fun v => v) x

def nthD {α : Type} : List α → Nat → Option α
  | [], _ => none
  | x :: _, 0 => some x
  | _ :: xs, n + 1 => nthD xs n
def lset {α : Type} : List α → Nat → α → List α
  | [], _, _ => []
  | _ :: xs, 0, v => v :: xs
  | x :: xs, n + 1, v => x :: lset xs n v
def ldrop {α : Type} : List α → Nat → List α
  | xs, 0 => xs
  | [], _ + 1 => []
  | _ :: xs, n + 1 => ldrop xs n
/-- the first n, if there are so many -/
def ltake {α : Type} : List α → Nat → Option (List α)
  | _, 0 => some []
  | [], _ + 1 => none
  | x :: xs, n + 1 => match ltake xs n with
    | some r => some (x :: r)
    | none => none
/-- overwrite from a place on, if all lie within -/
def lput {α : Type} : List α → Nat → List α → Option (List α)
  | xs, _, [] => some xs
  | [], _, _ :: _ => none
  | _ :: xs, 0, v :: vs => match lput xs 0 vs with
    | some r => some (v :: r)
    | none => none
  | x :: xs, n + 1, v :: vs => match lput xs n (v :: vs) with
    | some r => some (x :: r)
    | none => none

def leq : List Nat → List Nat → Bool
  | [], [] => true
  | x :: xs, y :: ys => match Nat.beq x y with | true => leq xs ys | false => false
  | _, _ => false
def lless : List Nat → List Nat → Bool
  | _, [] => false
  | [], _ :: _ => true
  | a :: x, b :: y => Nat.blt a b || (Nat.beq a b && lless x y)

def V.leaf (v : V) : Bool := match v with | .agg _ => false | .tup _ => false | _ => true
def V.cells (v : V) : List V := match v with
  | .agg cs => cs
  | .tup _ => []
  | v => [v]

def V.nat (v : V) : Option Nat := match v with | .int _ (.ofNat n) => some n | _ => none
def V.isTrue (v : V) : Option Bool := match v with | .bool b => some b | _ => none

def ieq (a b : Int) : Bool := match a, b with
  | .ofNat x, .ofNat y => Nat.beq x y
  | .negSucc x, .negSucc y => Nat.beq x y
  | _, _ => false
def ilt (a b : Int) : Bool := match a, b with
  | .ofNat x, .ofNat y => Nat.blt x y
  | .negSucc x, .negSucc y => Nat.blt y x
  | .negSucc _, .ofNat _ => true
  | .ofNat _, .negSucc _ => false

def kindEq : IntKind → IntKind → Bool
  | .i8, .i8 | .i16, .i16 | .i32, .i32 | .i64, .i64 | .u8, .u8 | .u16, .u16 | .u32, .u32 | .u64, .u64 => true
  | _, _ => false

/-- wrap, quick where nothing is to be done -/
def wrapF (k : IntKind) (n : Int) : Int :=
  match k, n with
  | .i64, .ofNat m => match Nat.blt m 9223372036854775808 with | true => .ofNat m | false => IntKind.wrap .i64 (.ofNat m)
  | .i64, .negSucc m => match Nat.blt m 9223372036854775808 with | true => .negSucc m | false => IntKind.wrap .i64 (.negSucc m)
  | .u64, .ofNat m => match Nat.blt m 18446744073709551616 with | true => .ofNat m | false => IntKind.wrap .u64 (.ofNat m)
  | .u8, .ofNat m => match Nat.blt m 256 with | true => .ofNat m | false => IntKind.wrap .u8 (.ofNat m)
  | .i32, .ofNat m => match Nat.blt m 2147483648 with | true => .ofNat m | false => IntKind.wrap .i32 (.ofNat m)
  | .u32, .ofNat m => match Nat.blt m 4294967296 with | true => .ofNat m | false => IntKind.wrap .u32 (.ofNat m)
  | k, n => k.wrap n

/-- leaves that may be compared -/
def LK.eq (k : LK) (x y : V) : Option Bool := match k, x, y with
  | .li, .int j a, .int k b => match kindEq j k with | true => some (ieq a b) | false => none
  | .lb, .bool a, .bool b => some (a == b)
  | .ls, .str a, .str b => some (leq a b)
  | _, _, _ => none
def leafsEq : List LK → List V → List V → Option Bool
  | [], [], [] => some true
  | k :: ks, x :: xs, y :: ys => match k.eq x y with
    | some true => leafsEq ks xs ys
    | r => r
  | _, _, _ => none

def eqPtr (x y : V) : Option Bool := match x, y with
  | .pnil, .pnil => some true
  | .pnil, .ptr _ _ _ _ => some false
  | .ptr _ _ _ _, .pnil => some false
  | .ptr f k i _, .ptr g l j _ => match pEq f g && Nat.beq k l with | true => some (Nat.beq i j) | false => none
  | _, _ => none
def eqSl (x y : V) : Option Bool := match x, y with
  | .snil, .snil => some true
  | .snil, .sl .. => some false
  | .sl .., .snil => some false
  | _, _ => none
def eqMap (x y : V) : Option Bool := match x, y with
  | .mnil, .mnil => some true
  | .mnil, .map _ => some false
  | .map _, .mnil => some false
  | _, _ => none
def eqFn (x y : V) : Option Bool := match x, y with
  | .fnil, .fnil => some true
  | .fnil, .fn .. => some false
  | .fn .., .fnil => some false
  | .fnil, .yld _ => some false
  | .yld _, .fnil => some false
  | _, _ => none
def eqIfc (x y : V) : Option Bool := match x, y with
  | .inil, .ifc .. => some false
  | .ifc .., .inil => some false
  | .ifc t _, .ifc u _ => match Nat.beq t u with | true => none | false => some false
  | _, _ => none
def eqIfcN (x y : V) : Option Bool := match x, y with
  | .inil, .inil => some true
  | .inil, .ifc .. => some false
  | .ifc .., .inil => some false
  | _, _ => none
def eqAgg (ks : List LK) (x y : V) : Option Bool := match x, y with
  | .agg xs, .agg ys => match Nat.beq xs.length ks.length && Nat.beq ys.length ks.length with | true => leafsEq ks xs ys | false => none
  | _, _ => none
def eqBad (_ _ : V) : Option Bool := none

def Q.eq (q : Q) : V → V → Option Bool := match q with
  | .bool => LK.eq .lb | .int => LK.eq .li | .str => LK.eq .ls | .ptr => eqPtr | .sl => eqSl | .map => eqMap | .fn => eqFn | .ifc => eqIfc | .ifcn => eqIfcN | .agg ks => eqAgg ks | .bad => eqBad

def bAdd (_ : Q) (x y : V) : Option V := match x, y with
  | .int k a, .int k' b => match kindEq k k' with | true => some (.int k (wrapF k (a + b))) | false => none
  | .str a, .str b => match Nat.ble (a.length + b.length) 9223372036854775807 with | true => some (.str (a ++ b)) | false => none
  | _, _ => none
def bSub (_ : Q) (x y : V) : Option V := match x, y with
  | .int k a, .int k' b => match kindEq k k' with | true => some (.int k (wrapF k (a - b))) | false => none
  | _, _ => none
def bMul (_ : Q) (x y : V) : Option V := match x, y with
  | .int k a, .int k' b => match kindEq k k' with | true => some (.int k (wrapF k (a * b))) | false => none
  | _, _ => none
def bQuo (_ : Q) (x y : V) : Option V := match x, y with
  | .int k a, .int k' b => match kindEq k k' && !ieq b 0 with | true => some (.int k (wrapF k (a.tdiv b))) | false => none
  | _, _ => none
def bRem (_ : Q) (x y : V) : Option V := match x, y with
  | .int k a, .int k' b => match kindEq k k' && !ieq b 0 with | true => some (.int k (a.tmod b)) | false => none
  | _, _ => none
def bBit (f : (n : Nat) → BitVec n → BitVec n → BitVec n) (x y : V) : Option V := match x, y with
  | .int k a, .int k' b => match kindEq k k' with | true => some (.int k (k.wrap (f k.bits (BitVec.ofInt k.bits a) (BitVec.ofInt k.bits b)).toNat)) | false => none
  | _, _ => none
def bAnd (_ : Q) (x y : V) : Option V := bBit (fun _ a b => a &&& b) x y
def bOr (_ : Q) (x y : V) : Option V := bBit (fun _ a b => a ||| b) x y
def bXor (_ : Q) (x y : V) : Option V := bBit (fun _ a b => a ^^^ b) x y
def bAndNot (_ : Q) (x y : V) : Option V := bBit (fun _ a b => a &&& ~~~b) x y
def bShl (_ : Q) (x y : V) : Option V := match x, y with
  | .int k a, .int _ b => match ilt b 0 with | true => none | false => some (.int k (k.wrap (a * 2 ^ (min b.toNat k.bits))))
  | _, _ => none
def bShr (_ : Q) (x y : V) : Option V := match x, y with
  | .int k a, .int _ b => match ilt b 0 with | true => none | false => some (.int k (a.fdiv (2 ^ (min b.toNat k.bits))))
  | _, _ => none
def bEql (q : Q) (x y : V) : Option V := match q.eq x y with | some b => some (.bool b) | none => none
def bNeq (q : Q) (x y : V) : Option V := match q.eq x y with | some b => some (.bool (!b)) | none => none
def bLss (_ : Q) (x y : V) : Option V := match x, y with
  | .int j a, .int k b => match kindEq j k with | true => some (.bool (ilt a b)) | false => none
  | .str a, .str b => some (.bool (lless a b))
  | _, _ => none
def bLeq (_ : Q) (x y : V) : Option V := match x, y with
  | .int j a, .int k b => match kindEq j k with | true => some (.bool (!ilt b a)) | false => none
  | .str a, .str b => some (.bool (lless a b || leq a b))
  | _, _ => none
def bGtr (_ : Q) (x y : V) : Option V := match x, y with
  | .int j a, .int k b => match kindEq j k with | true => some (.bool (ilt b a)) | false => none
  | .str a, .str b => some (.bool (!(lless a b || leq a b)))
  | _, _ => none
def bGeq (_ : Q) (x y : V) : Option V := match x, y with
  | .int j a, .int k b => match kindEq j k with | true => some (.bool (!ilt a b)) | false => none
  | .str a, .str b => some (.bool (!lless a b))
  | _, _ => none
def V.bin (op : BinOp) : Q → V → V → Option V := match op with
  | .add => bAdd | .sub => bSub | .mul => bMul | .quo => bQuo | .rem => bRem | .and => bAnd | .or => bOr | .xor => bXor | .shl => bShl | .shr => bShr | .andNot => bAndNot
  | .eql => bEql | .neq => bNeq | .lss => bLss | .leq => bLeq | .gtr => bGtr | .geq => bGeq

def V.un (op : UnOp) (x : V) : Option V :=
  match op, x with
  | .neg, .int k n => some (.int k (k.wrap (0 - n)))
  | .xor, .int k n => some (.int k (k.wrap (BitVec.ofInt k.bits (if k.signed then -1 else k.max) ^^^ BitVec.ofInt k.bits n).toNat))
  | .not, .bool b => some (.bool (!b))
  | _, _ => none

/-- a bound of a slice expression -/
noncomputable def bound (fr : Fr) (x : Option X) (d y : Nat) : Option Nat :=
  match x with
  | none => some d
  | some x => match (x.ev fr).nat with
    | some n => match Nat.ble n y with | true => some n | false => none
    | none => none

/-- the live cells of a family at a version -/
def O.live (o : O) (k : Nat) : Option (List V) := match o with
  | .cells xs ver dead _ _ => match Nat.ble dead k && Nat.ble k ver with | true => some xs | false => none
  | _ => none
noncomputable def live (h : H) (f : P) (k : Nat) : Option (List V) := match h.get f with
  | some o => o.live k
  | none => none

/-- the cells of a range -/
def range (xs : List V) (off n : Nat) : Option (List V) := ltake (ldrop xs off) n
def rangeO (xs : Option (List V)) (off n : Nat) : Option (List V) := match xs with | some xs => range xs off n | none => none

def Md.notRo (m : Md) : Bool := match m with | .ro => false | _ => true
def Md.isRw (m : Md) : Bool := match m with | .rw => true | _ => false
noncomputable def wcells (h : H) (f : P) (k off : Nat) (vs : List V) : Option H :=
  match h.get f with
  | some (.cells xs ver dead md ty) =>
    match Nat.beq k ver && md.isRw && Nat.ble dead ver with
    | true => match lput xs off vs with
      | some xs' => some (h.set f (.cells xs' ver ver .rw ty))
      | none => none
    | false => none
  | _ => none

def one (agg : Bool) (cs : Option (List V)) : Option V := match cs with
  | none => none
  | some cs => match agg with
    | true => some (.agg cs)
    | false => match cs with | [v] => some v | _ => none

noncomputable def fill (fr : Fr) : List V → List (Nat × Nat × X) → Option (List V)
  | z, [] => some z
  | z, (off, n, x) :: ps =>
    match Nat.beq (x.ev fr).cells.length n with
    | true => match lput z off (x.ev fr).cells with
      | some z' => fill fr z' ps
      | none => none
    | false => none

def rep {α : Type} (z : List α) : Nat → List α
  | 0 => []
  | n + 1 => z ++ rep z n

/-- find a key -/
def findKey (q : Q) (k : V) : List (V × V × Nat) → Nat → Option (Option (Nat × V))
  | [], _ => some none
  | (k', v, _) :: es, i => match q.eq k k' with
    | some true => some (some (i, v))
    | some false => findKey q k es (i + 1)
    | none => none

def decodeU (s : List Nat) : Nat × Nat :=
  let at' (k : Nat) : Nat := (nthD s k).getD 0
  let sz := s.length
  let cont (k : Nat) : Bool := Nat.blt k sz && Nat.beq (at' k / 64) 2
  let b0 := at' 0
  if Nat.blt b0 0x80 then (b0, 1)
  else if Nat.beq (b0 / 32) 6 && cont 1 then
    let c := (b0 % 32) * 64 + at' 1 % 64
    if Nat.ble 0x80 c then (c, 2) else (0xFFFD, 1)
  else if Nat.beq (b0 / 16) 14 && cont 1 && cont 2 then
    let c := (b0 % 16) * 4096 + (at' 1 % 64) * 64 + at' 2 % 64
    if Nat.ble 0x800 c && (Nat.blt c 0xD800 || Nat.ble 0xE000 c) then (c, 3) else (0xFFFD, 1)
  else if Nat.beq (b0 / 8) 30 && cont 1 && cont 2 && cont 3 then
    let c := (b0 % 8) * 262144 + (at' 1 % 64) * 4096 + (at' 2 % 64) * 64 + at' 3 % 64
    if Nat.ble 0x10000 c && Nat.ble c 0x10FFFF then (c, 4) else (0xFFFD, 1)
  else (0xFFFD, 1)
def runes : Nat → List Nat → List Nat
  | 0, _ => []
  | n + 1, s => match s with
    | [] => []
    | _ => (decodeU s).1 :: runes n (ldrop s (decodeU s).2)

def bytesOf : List Nat → List V
  | [] => []
  | b :: s => .int .u8 (.ofNat b) :: bytesOf s
def toBytes : List V → Option (List Nat)
  | [] => some []
  | .int .u8 (.ofNat n) :: vs => match Nat.blt n 256 with
    | true => match toBytes vs with
      | some s => some (n :: s)
      | none => none
    | false => none
  | _ => none

/-- the source of an append or a copy: its first n elements' cells -/
noncomputable def srcCells (h : H) (es n : Nat) (v : V) : Option (List V) := match v with
  | .snil => match Nat.beq n 0 with | true => some [] | false => none
  | .sl f k off len es' _ => match Nat.beq es es' && Nat.ble n len with
    | true => rangeO (live h f k) off (n * es)
    | false => none
  | .str s => match Nat.beq es 1 with
    | true => match ltake s n with | some s => some (bytesOf s) | none => none
    | false => none
  | _ => none
def srcLen (v : V) : Option Nat := match v with
  | .snil => some 0
  | .sl _ _ _ len _ _ => some len
  | .str s => some s.length
  | _ => none

noncomputable def rangeM (es : Nat) (xs : List V) (off n : Nat) : Option (List V) := match Nat.beq (off % es) 0 with | true => range xs off n | false => none
/-- the append of cells to a slice whose capacity is not known -/
noncomputable def appU (h : H) (ty es n : Nat) (new : List V) (f : P) (k off len : Nat) : Option (V × H) :=
  match h.get f with
  | some (.cells xs ver dead md ty') =>
    match Nat.beq k ver && md.isRw && Nat.beq ty ty' && Nat.ble dead ver with
    | true => match Nat.beq (off + len * es) xs.length && Nat.beq off 0 with
      | true => some (.sl f (ver + 1) 0 (len + n) es none, h.set f (.cells (xs ++ new) (ver + 1) dead .rw ty))
      | false => match rangeM es xs off (len * es) with
        | some old => some (.sl h.next 0 0 (len + n) es none, (h.set f (.cells xs ver (ver + 1) .rw ty)).new (.cells (old ++ new) 0 0 .rw ty))
        | none => none
    | false => none
  | _ => none
/-- with a known capacity -/
noncomputable def appK (h : H) (ty es n : Nat) (new : List V) (f : P) (k off len c : Nat) : Option (V × H) :=
  match Nat.ble (len + n) c with
  | true => match wcells h f k (off + len * es) new with
      | some h => some (.sl f k off (len + n) es (some c), h)
      | none => none
  | false => match rangeO (live h f k) off (len * es) with
    | some old => some (.sl h.next 0 0 (len + n) es none, h.new (.cells (old ++ new) 0 0 .rw ty))
    | none => none
noncomputable def append (h : H) (ty es bytes n : Nat) (new : List V) (a : V) : Option (V × H) :=
  match a with
  | .snil => match Nat.beq n 0 with
    | true => some (.snil, h)
    | false => match Nat.ble n 1099511627776 && Nat.ble (n * bytes) 1099511627776 with
      | true => some (.sl h.next 0 0 n es none, h.new (.cells new 0 0 .rw ty))
      | false => none
  | .sl f k off len es' cap => match Nat.beq es es' && Nat.ble (len + n) 1099511627776 && Nat.ble ((len + n) * bytes) 1099511627776 with
    | true => match Nat.beq n 0 with
      | true => some (.sl f k off len es cap, h)
      | false => match cap with
        | some c => appK h ty es n new f k off len c
        | none => appU h ty es n new f k off len
    | false => none
  | _ => none

/-! the operations, one by one -/
/-- pure -/
abbrev Pu := Fr → Option V
noncomputable def pMv (x : X) : Pu := fun fr => some (x.ev fr)
noncomputable def pPick (c a b : X) : Pu := fun fr => match (c.ev fr).isTrue with
  | some true => some (a.ev fr)
  | some false => some (b.ev fr)
  | none => none
noncomputable def pBuild (z : List V) (ps : List (Nat × Nat × X)) : Pu := fun fr => match fill fr z ps with
  | some cs => some (.agg cs)
  | none => none
noncomputable def pNil (x : X) : Pu := fun fr => match x.ev fr with
  | .pnil => none | .inil => none | .fnil => none | .unk => none
  | .fn (.method _) _ _ => none
  | v => some v
noncomputable def pBin (f : V → V → Option V) (x y : X) : Pu := fun fr => f (x.ev fr) (y.ev fr)
noncomputable def pUn (f : V → Option V) (x : X) : Pu := fun fr => f (x.ev fr)
def vCvi (k : IntKind) (v : V) : Option V := match v with | .int _ n => some (.int k (wrapF k n)) | _ => none
def vCvid (v : V) : Option V := match v with | .str s => some (.str s) | _ => none
def vCvis (v : V) : Option V := match v with
  | .int _ (.ofNat n) => match Nat.blt n 128 with | true => some (.str [n]) | false => none
  | _ => none
def vMki (t : TypeId) (v : V) : Option V := some (.ifc t v)
noncomputable def evs (fr : Fr) : List X → List V
  | [] => []
  | x :: xs => x.ev fr :: evs fr xs
noncomputable def pMkf (g : Fn) (first cap : List X) : Pu := fun fr => some (.fn g (evs fr first) (evs fr cap))
noncomputable def bounds3 (fr : Fr) (lo hi mx : Option X) (len cap : Nat) (k : Nat → Nat → Nat → V) : Option V :=
  match bound fr mx cap cap with
  | some m => match bound fr hi len m with
    | some h => match bound fr lo 0 h with
      | some l => some (k l h m)
      | none => none
    | none => none
  | none => none
noncomputable def pSlstr (x : X) (lo hi : Option X) : Pu := fun fr => match x.ev fr with
  | .str s => bounds3 fr lo hi none s.length s.length fun l h _ => .str ((ldrop s l).take (h - l))
  | _ => none
noncomputable def pSlsl (es : Nat) (x : X) (lo hi mx : Option X) : Pu := fun fr => match x.ev fr with
  | .snil => bounds3 fr lo hi mx 0 0 fun _ _ _ => .snil
  | .sl f k off len es' cap => match Nat.beq es es' with
    | true => match cap with
      | some c => bounds3 fr lo hi mx len c fun l h m => .sl f k (off + l * es) (h - l) es (some (m - l))
      | none => match mx with
        | some _ => bounds3 fr lo hi mx len len fun l h m => .sl f k (off + l * es) (h - l) es (some (m - l))
        | none => bounds3 fr lo hi none len len fun l h _ => .sl f k (off + l * es) (h - l) es none
    | false => none
  | _ => none
noncomputable def pSlarr (es n : Nat) (x : X) (lo hi mx : Option X) : Pu := fun fr => match x.ev fr with
  | .ptr f k off room => match Nat.ble (n * es) room with
    | true => bounds3 fr lo hi mx n n fun l h m => .sl f k (off + l * es) (h - l) es (some (m - l))
    | false => none
  | _ => none
def vFaddr (off n : Nat) (v : V) : Option V := match v with
  | .ptr f k o room => match Nat.ble (off + n) room with | true => some (.ptr f k (o + off) n) | false => none
  | _ => none
def vFld (agg : Bool) (off n : Nat) (v : V) : Option V := match v with | .agg cs => one agg (range cs off n) | _ => none
def vIasl (es : Nat) (v i : V) : Option V := match v with
  | .sl f k off len es' _ => match i.nat with
    | some i => match Nat.blt i len && Nat.beq es es' with | true => some (.ptr f k (off + i * es) es) | false => none
    | none => none
  | _ => none
def vIaarr (es n : Nat) (v i : V) : Option V := match v with
  | .ptr f k off room => match i.nat with
    | some i => match Nat.blt i n && Nat.ble (n * es) room with | true => some (.ptr f k (off + i * es) es) | false => none
    | none => none
  | _ => none
def vIxstr (v i : V) : Option V := match v with
  | .str s => match i.nat with
    | some i => match nthD s i with
      | some b => some (.int .u8 (.ofNat b))
      | none => none
    | none => none
  | _ => none
def vIxarr (agg : Bool) (es n : Nat) (v i : V) : Option V := match v with
  | .agg cs => match i.nat with
    | some i => match Nat.blt i n with | true => one agg (range cs (i * es) es) | false => none
    | none => none
  | _ => none
def vTassert (t : TypeId) (z : V) (ok : Bool) (v : V) : Option V := match v with
  | .ifc u v => match Nat.beq t u with
    | true => some (match ok with | true => .tup [v, .bool true] | false => v)
    | false => match ok with | true => some (.tup [z, .bool false]) | false => none
  | .inil => match ok with | true => some (.tup [z, .bool false]) | false => none
  | _ => none
def zdo (i : Nat) (v : V) : Option V := match v with | .tup vs => nthD vs i | _ => none
def vLen (s : Bool) (v : V) : Option V := match s with
  | true => match v with
    | .str s => some (.int .i64 (.ofNat s.length))
    | _ => none
  | false => match v with
    | .snil => some (.int .i64 (.ofNat 0))
    | .sl _ _ _ len _ _ => some (.int .i64 (.ofNat len))
    | _ => none
def vCap (v : V) : Option V := match v with
  | .snil => some (.int .i64 (.ofNat 0))
  | .sl _ _ _ _ _ (some c) => some (.int .i64 (.ofNat c))
  | _ => none
def vMin (v w : V) : Option V := match v, w with | .int k a, .int _ b => some (.int k (match ilt b a with | true => b | false => a)) | _, _ => none
def vMax (v w : V) : Option V := match v, w with | .int k a, .int _ b => some (.int k (match ilt a b with | true => b | false => a)) | _, _ => none
def vUsd (v : V) : Option V := match v with
  | .snil => some .pnil
  | .sl f k off len es _ => match len with | 0 => none | n + 1 => some (.ptr f k off ((n + 1) * es))
  | _ => none
noncomputable def pC (v : V) : Pu := fun _ => some v

/-- readers: of one object -/
abbrev Rd := Fr → H → Option V
noncomputable def rLoad (agg : Bool) (n : Nat) (x : X) : Rd := fun fr h => match x.ev fr with
  | .ptr f k off room => match Nat.ble n room with | true => one agg (rangeO (live h f k) off n) | false => none
  | _ => none
noncomputable def rCvbs (x : X) : Rd := fun fr h => match x.ev fr with
  | .snil => some (.str [])
  | .sl f k off len es _ => match Nat.beq es 1 with
    | true => match rangeO (live h f k) off len with
      | some cs => match toBytes cs with
        | some s => some (.str s)
        | none => none
      | none => none
    | false => none
  | _ => none
noncomputable def mapEs (h : H) (v : V) : Option (List (V × V × Nat)) := match v with
  | .mnil => some []
  | .map f => match h.get f with
    | some (.map es _) => some es
    | _ => none
  | _ => none
noncomputable def rLookup (q : Q) (z : V) (ok : Bool) (x k : X) : Rd := fun fr h => match mapEs h (x.ev fr) with
  | some es => match findKey q (k.ev fr) es 0 with
    | some (some (_, v)) => some (match ok with | true => .tup [v, .bool true] | false => v)
    | some none => some (match ok with | true => .tup [z, .bool false] | false => z)
    | none => none
  | none => none
noncomputable def rLenm (x : X) : Rd := fun fr h => match mapEs h (x.ev fr) with
  | some es => some (.int .i64 (.ofNat es.length))
  | none => none

/-- a pointer as an unsafe.Pointer, and back: at a variable of the type -/
noncomputable def rCvpu (x : X) : Rd := fun fr h => match x.ev fr with
  | .pnil => some .pnil
  | .ptr f k off room => match live h f k with
    | some _ => match room with | 0 => none | n + 1 => some (.ptr f k off (n + 1))
    | none => none
  | _ => none
noncomputable def rCvup (ty s : Nat) (x : X) : Rd := fun fr h => match x.ev fr with
  | .pnil => some .pnil
  | .ptr f k off room => match h.get f with
    | some (.cells _ ver dead md ty') => match Nat.ble dead k && Nat.ble k ver && Nat.beq ty ty' && Nat.beq (off % s) 0 && Nat.ble s room && md.notRo with
      | true => some (.ptr f k off room)
      | false => none
    | _ => none
  | _ => none

/-- makers: of one object -/
abbrev Mk := Fr → Option (O × (P → V))
noncomputable def mAlloc (ty : Nat) (z : List V) : Mk := fun _ => some (.cells z 0 0 .rw ty, fun f => .ptr f 0 0 z.length)
noncomputable def mBox (ty n : Nat) (x : X) : Mk := fun fr => match Nat.beq (x.ev fr).cells.length n with
  | true => some (.cells (x.ev fr).cells 0 0 .rw ty, fun f => .ptr f 0 0 n)
  | false => none
noncomputable def mBslice (ty es len : Nat) (z : List V) (ps : List (Nat × Nat × X)) : Mk := fun fr => match fill fr (rep z len) ps with
  | some cs => some (.cells cs 0 0 .rw ty, fun f => .sl f 0 0 len es (some len))
  | none => none
noncomputable def mCvsb (ty : Nat) (x : X) : Mk := fun fr => match x.ev fr with
  | .str s => some (.cells (bytesOf s) 0 0 .rw ty, fun f => .sl f 0 0 s.length 1 none)
  | _ => none
noncomputable def mCvsr (ty : Nat) (x : X) : Mk := fun fr => match x.ev fr with
  | .str s => some (.cells ((runes s.length s).map fun b => .int .i32 (.ofNat b)) 0 0 .rw ty, fun f => .sl f 0 0 (runes s.length s).length 1 none)
  | _ => none
noncomputable def mMap : Mk := fun _ => some (.map [] 0, fun f => .map f)
noncomputable def mMksl (ty es bytes : Nat) (z : List V) (len cap : X) : Mk := fun fr => match (len.ev fr).nat with
  | some l => match (cap.ev fr).nat with
    | some c => match Nat.ble l c && Nat.ble c 1099511627776 && Nat.ble (bytes * c) 140737488355328 with
      | true => some (.cells (rep z c) 0 0 .rw ty, fun f => .sl f 0 0 l es (some c))
      | false => none
    | none => none
  | none => none
noncomputable def mRngs (x : X) : Mk := fun fr => match x.ev fr with
  | .str s => some (.siter s 0, fun f => .ptr f 0 0 0)
  | _ => none

/-- writers -/
abbrev Wr := Fr → H → Option (V × H)
noncomputable def wStore (n : Nat) (a x : X) : Wr := fun fr h => match a.ev fr with
  | .ptr f k off room => match Nat.beq (x.ev fr).cells.length n && Nat.ble n room with
    | true => match wcells h f k off (x.ev fr).cells with
      | some h => some (.tup [], h)
      | none => none
    | false => none
  | _ => none
noncomputable def wMapupd (q : Q) (m k v : X) : Wr := fun fr h => match m.ev fr with
  | .map f => match h.get f with
    | some (.map es clk) => match findKey q (k.ev fr) es 0 with
      | some (some (i, _)) => match nthD es i with
        | some (k', _, b) => some (.tup [], h.set f (.map (lset es i (k', v.ev fr, b)) clk))
        | none => none
      | some none => some (.tup [], h.set f (.map (es ++ [(k.ev fr, v.ev fr, clk)]) (clk + 1)))
      | none => none
    | _ => none
  | _ => none
noncomputable def wRngm (x : X) : Wr := fun fr h => match x.ev fr with
  | .mnil => some (.ptr h.next 0 0 0, h.new (.miter none 0 [] 0))
  | .map m => match h.get m with
    | some (.map _ clk) => some (.ptr h.next 0 0 0, h.new (.miter (some m) clk [] clk))
    | _ => none
  | _ => none
noncomputable def nxtS (h : H) (f : P) (s : List Nat) (pos : Nat) : Option (V × H) := match s with
  | [] => some (.tup [.bool false], h)
  | _ => some (.tup [.bool true, .int .i64 (.ofNat pos), .int .i32 (.ofNat (decodeU s).1)], h.set f (.siter (ldrop s (decodeU s).2) (pos + (decodeU s).2)))
noncomputable def nxtM (h : H) (f m : P) (since : Nat) (seen : List Nat) (last : Nat) : Option (V × H) := match h.get m with
  | some (.map es clk) =>
    match !seen.isEmpty && !es.isEmpty && es.all (fun e => Nat.ble last e.2.2) with
    | true => none
    | false =>
      match (es.filter fun e => !seen.any (Nat.beq e.2.2)).filter (fun e => Nat.blt e.2.2 since), (es.filter fun e => !seen.any (Nat.beq e.2.2)).filter (fun e => Nat.ble since e.2.2) with
      | [], [] => some (.tup [.bool false], h)
      | [(k, v, b)], [] => some (.tup [.bool true, k, v], h.set f (.miter (some m) since (seen ++ [b]) clk))
      | _, _ => none
  | _ => none
noncomputable def wNxt (s : Bool) (x : X) : Wr := fun fr h => match x.ev fr with
  | .ptr f _ 0 _ => match h.get f with
    | some (.siter str pos) => match s with | true => nxtS h f str pos | false => none
    | some (.miter none _ _ _) => match s with | true => none | false => some (.tup [.bool false], h)
    | some (.miter (some m) since seen last) => match s with | true => none | false => nxtM h f m since seen last
    | _ => none
  | _ => none
noncomputable def wEntry (x : X) : Wr := fun fr h => match x.ev fr with
  | .ptr f _ 0 _ => match h.get f with
    | some (.miter (some m) _ seen stepped) => match h.get m with
      | some (.map es clk) => match seen.getLast? with
        | some b => match Nat.beq clk stepped with
          | true => match es.find? (fun e => Nat.beq e.2.2 b) with
            | some (k, v, _) => some (.tup [k, v], h)
            | none => none
          | false => none
        | none => none
      | _ => none
    | _ => none
  | _ => none
noncomputable def wApp (ty es bytes : Nat) (a b : X) : Wr := fun fr h => match srcLen (b.ev fr) with
  | some n => match srcCells h es n (b.ev fr) with
    | some new => append h ty es bytes n new (a.ev fr)
    | none => none
  | none => none
noncomputable def wAppz (ty es bytes : Nat) (z : List V) (a n : X) : Wr := fun fr h => match (n.ev fr).nat with
  | some n => match Nat.ble n 1099511627776 && Nat.ble (n * bytes) 1099511627776 with
    | true => append h ty es bytes n (rep z n) (a.ev fr)
    | false => none
  | none => none
noncomputable def wCopy (es : Nat) (a b : X) : Wr := fun fr h => match a.ev fr with
  | .snil => match srcLen (b.ev fr) with | some _ => some (.int .i64 (.ofNat 0), h) | none => none
  | .sl f k off len es' _ => match srcLen (b.ev fr) with
    | some m => match Nat.beq (Nat.min m len) 0 with
      | true => some (.int .i64 (.ofNat 0), h)
      | false => match Nat.beq es es' with
        | true => match srcCells h es (Nat.min m len) (b.ev fr) with
          | some cs => match wcells h f k off cs with
            | some h => some (.int .i64 (.ofNat (Nat.min m len)), h)
            | none => none
          | none => none
        | false => none
    | none => none
  | _ => none
noncomputable def wDel (q : Q) (m k : X) : Wr := fun fr h => match m.ev fr with
  | .mnil => some (.tup [], h)
  | .map f => match h.get f with
    | some (.map es clk) => match findKey q (k.ev fr) es 0 with
      | some (some (i, _)) => some (.tup [], h.set f (.map (es.eraseIdx i) clk))
      | some none => some (.tup [], h)
      | none => none
    | _ => none
  | _ => none
noncomputable def wClrs (es : Nat) (z : List V) (x : X) : Wr := fun fr h => match x.ev fr with
  | .snil => some (.tup [], h)
  | .sl f k off len es' _ => match Nat.beq len 0 with
    | true => some (.tup [], h)
    | false => match Nat.beq es es' with
      | true => match wcells h f k off (rep z len) with
        | some h => some (.tup [], h)
        | none => none
      | false => none
  | _ => none
noncomputable def wClrm (x : X) : Wr := fun fr h => match x.ev fr with
  | .mnil => some (.tup [], h)
  | .map f => match h.get f with
    | some (.map _ clk) => some (.tup [], h.set f (.map [] clk))
    | _ => none
  | _ => none
noncomputable def wUstr (ty : Nat) (p n : X) : Wr := fun fr h => match (n.ev fr).nat with
  | some 0 => match p.ev fr with
    | .ptr _ _ _ _ => some (.str [], h)
    | .pnil => some (.str [], h)
    | _ => none
  | some (n + 1) => match p.ev fr with
    | .ptr f k off room => match h.get f with
      | some (.cells xs ver dead md ty') => match Nat.beq k ver && Nat.ble (n + 1) room && Nat.beq ty ty' && Nat.ble dead ver && Nat.ble (n + 1) 1099511627776 with
        | true => match md with
          | .ro => none
          | _ => match range xs off (n + 1) with
            | some cs => match toBytes cs with
              | some s => some (.str s, h.set f (.cells xs ver ver .fz ty))
              | none => none
            | none => none
        | false => none
      | _ => none
    | _ => none
  | none => none

noncomputable def IP.f (i : IP) : Pu := match i with
  | .mv x => pMv x | .pick c a b => pPick c a b | .build z ps => pBuild z ps | .nilchk x => pNil x
  | .bin op q x y => pBin (V.bin op q) x y | .un op x => pUn (V.un op) x
  | .cvi k x => pUn (vCvi k) x | .cvid x => pUn vCvid x | .cvis x => pUn vCvis x
  | .mki t x => pUn (vMki t) x | .mkf g first cap => pMkf g first cap
  | .slstr x lo hi => pSlstr x lo hi | .slsl es x lo hi m => pSlsl es x lo hi m | .slarr es n x lo hi m => pSlarr es n x lo hi m
  | .faddr off n x => pUn (vFaddr off n) x | .fld agg off n x => pUn (vFld agg off n) x
  | .iasl es x i => pBin (vIasl es) x i | .iaarr es n x i => pBin (vIaarr es n) x i | .ixstr x i => pBin vIxstr x i | .ixarr agg es n x i => pBin (vIxarr agg es n) x i
  | .tassert t z ok x => pUn (vTassert t z ok) x | .extr i x => pUn (zdo i) x
  | .lenv s x => pUn (vLen s) x | .lenc n => pC (.int .i64 (.ofNat n)) | .capv x => pUn vCap x | .imin x y => pBin vMin x y | .imax x y => pBin vMax x y | .usd x => pUn vUsd x
noncomputable def IR.f (i : IR) : Rd := match i with
  | .load agg n x => rLoad agg n x | .cvbs x => rCvbs x | .lookup q z ok x k => rLookup q z ok x k | .lenm x => rLenm x | .cvpu x => rCvpu x | .cvup ty s x => rCvup ty s x
noncomputable def IM.f (i : IM) : Mk := match i with
  | .alloc ty z => mAlloc ty z | .box ty n x => mBox ty n x | .bslice ty es len z ps => mBslice ty es len z ps | .cvsb ty x => mCvsb ty x | .cvsr ty x => mCvsr ty x | .mkmap => mMap
  | .mksl ty es bytes z len cap => mMksl ty es bytes z len cap | .rngs x => mRngs x
noncomputable def IW.f (i : IW) : Wr := match i with
  | .store n a x => wStore n a x | .mapupd q m k v => wMapupd q m k v | .rngm x => wRngm x | .nxt s x => wNxt s x | .entry x => wEntry x
  | .app ty es bytes a b => wApp ty es bytes a b | .appz ty es bytes z a n => wAppz ty es bytes z a n | .copy es a b => wCopy es a b | .del q m k => wDel q m k | .clrs es z x => wClrs es z x | .clrm x => wClrm x | .ustr ty p n => wUstr ty p n
end Go.Im
namespace Go.Im

abbrev CallT := V → List V → H → Option (V × H)
abbrev DS := List (V × List V)

structure St where
  fr : Fr
  ds : DS
  h : H
  deriving Inhabited

/-- how a piece of code is left -/
inductive Out where
  | no | norm (s : St) | exit (id : Nat) (s : St) | goto (l : Nat) (s : St) | ret (s : St)
  deriving Inhabited

structure Prog where
  funcs : FuncId → Option F
  spec : FuncId → List V → H → Option (V × H)
  quiet : FuncId → Bool

noncomputable def putD (dst : Option S) (v : V) (fr : Fr) : Fr := @Option.rec S (fun _ => Fr) fr (Fr.set fr v) dst

/-- is the operation wanted -/
def guardV (v : V) (b : Bool) : Option Bool := match v with
  | .bool c => some (c == b)
  | .unk => none
  | _ => some false
noncomputable def wanted (g : Option (S × Bool)) (fr : Fr) : Option Bool := match g with
  | none => some true
  | some (p, b) => guardV (fr.get p) b

/-- one operation, and then -/
abbrev Kn := V → H → DS → Out
noncomputable def kPu (f : Pu) : Prog → CallT → Fr → H → DS → Kn → Out := fun _ _ fr h ds k => @Option.rec V (fun _ => Out) .no (fun v => k v h ds) (f fr)
noncomputable def kRd (f : Rd) : Prog → CallT → Fr → H → DS → Kn → Out := fun _ _ fr h ds k => @Option.rec V (fun _ => Out) .no (fun v => k v h ds) (f fr h)
noncomputable def kMk (f : Mk) : Prog → CallT → Fr → H → DS → Kn → Out := fun _ _ fr h ds k => match f fr with
  | some (o, g) => k (g h.next) (h.new o) ds
  | none => .no
noncomputable def kWr (f : Wr) : Prog → CallT → Fr → H → DS → Kn → Out := fun _ _ fr h ds k => match f fr h with
  | some (v, h) => k v h ds
  | none => .no
noncomputable def kCall (f : X) (args : List X) : Prog → CallT → Fr → H → DS → Kn → Out := fun _ call fr h ds k => match call (f.ev fr) (evs fr args) h with
  | some (v, h) => k v h ds
  | none => .no
noncomputable def kDefer (f : X) (args : List X) : Prog → CallT → Fr → H → DS → Kn → Out := fun _ _ fr h ds k => match f.ev fr with
  | .fn g first cap => k (.tup []) h ((.fn g first cap, evs fr args) :: ds)
  | _ => .no
def kBad : Prog → CallT → Fr → H → DS → Kn → Out := fun _ _ _ _ _ _ => .no
noncomputable def I.k (o : I) : Prog → CallT → Fr → H → DS → Kn → Out := match o with
  | .pu i => kPu i.f | .rd i => kRd i.f | .mk i => kMk i.f | .wr i => kWr i.f | .call f args => kCall f args | .defer f args => kDefer f args | .bad _ => kBad

noncomputable def kThen (dst : Option S) (rest : Fr → H → DS → Out) (fr : Fr) : Kn := fun v h ds => rest (putD dst v fr) h ds
noncomputable def kOp (o : Iop) (rest : Fr → H → DS → Out) (Pr : Prog) (call : CallT) (fr : Fr) (h : H) (ds : DS) : Out :=
  o.op.k Pr call fr h ds (kThen o.dst rest fr)
noncomputable def kIO (Pr : Prog) (call : CallT) (o : Iop) (rest : Fr → H → DS → Out) (fr : Fr) (h : H) (ds : DS) : Out :=
  match o.guard with
  | none => kOp o rest Pr call fr h ds
  | some g => match wanted (some g) fr with
    | some true => kOp o rest Pr call fr h ds
    | some false => rest (putD o.dst (.tup []) fr) h ds
    | none => .no
noncomputable def runReg (Pr : Prog) (call : CallT) (l : List Iop) : Fr → H → DS → Out :=
  @List.rec Iop (fun _ => Fr → H → DS → Out) (fun fr h ds => .norm ⟨fr, ds, h⟩) (fun o _ ih => kIO Pr call o ih) l

/-! value equality for the checks of drawn regions -/
mutual
def V.same (a b : V) : Bool := match a, b with
  | .bool a, .bool b => a == b
  | .int j a, .int k b => kindEq j k && ieq a b
  | .str a, .str b => leq a b
  | .pnil, .pnil | .snil, .snil | .mnil, .mnil | .fnil, .fnil | .inil, .inil => true
  | .ptr f k i r, .ptr g l j q => pEq f g && Nat.beq k l && Nat.beq i j && Nat.beq r q
  | .sl f k o n e c, .sl g l p m e' d => pEq f g && Nat.beq k l && Nat.beq o p && Nat.beq n m && Nat.beq e e' && (match c, d with | none, none => true | some x, some y => Nat.beq x y | _, _ => false)
  | .map f, .map g => pEq f g
  | .fn f xs ys, .fn g zs ws => decide (f = g) && V.sames xs zs && V.sames ys ws
  | .yld f, .yld g => pEq f g
  | .ifc t x, .ifc u y => Nat.beq t u && V.same x y
  | .agg xs, .agg ys => V.sames xs ys
  | .tup xs, .tup ys => V.sames xs ys
  | .num j, .num k => kindEq j k
  | _, _ => false
def V.sames (a b : List V) : Bool := match a, b with
  | [], [] => true
  | x :: xs, y :: ys => V.same x y && V.sames xs ys
  | _, _ => false
end

/-- a reader's record: its number, its operation, the frame that it saw, its value -/
structure Rec where
  i : Nat
  f : IR
  fr : Fr
  v : V

noncomputable def check1 (h : H) (r : Rec) : Bool := match r.f.f r.fr h with
  | some v => V.same v r.v
  | none => false
noncomputable def check (h : H) (is : List Nat) : List Rec → Bool
  | [] => true
  | r :: rs => match is.any (Nat.beq r.i) with
    | true => match check1 h r with
      | true => check h is rs
      | false => false
    | false => check h is rs
noncomputable def checks (h : H) (is : List Nat) (rs : List Rec) : Bool := match is with
  | [] => true
  | _ => check h is rs

/-- drawn, in an order of its own: 'rs': the readers that have run; behind a writer these are read again that may come behind it -/
noncomputable def runDreg (Pr : Prog) (call : CallT) : List (Iop × List Nat) → Nat → List Rec → Fr → H → DS → Out
  | [], _, _, fr, h, ds => .norm ⟨fr, ds, h⟩
  | (o, b) :: os, i, rs, fr, h, ds => match wanted o.guard fr with
    | none => .no
    | some true => match o.op with
      | .rd f => match f.f fr h with
        | some v => runDreg Pr call os (i + 1) (⟨i, f, fr, v⟩ :: rs) (putD o.dst v fr) h ds
        | none => .no
      | .mk f => match h.get h.next with
        | none => (I.mk f).k Pr call fr h ds fun v h' ds => runDreg Pr call os (i + 1) rs (putD o.dst v fr) h' ds
        | some _ => .no
      | op => op.k Pr call fr h ds fun v h' ds => match checks h' b rs with
        | true => runDreg Pr call os (i + 1) rs (putD o.dst v fr) h' ds
        | false => .no
    | some false => runDreg Pr call os (i + 1) rs (putD o.dst (.tup []) fr) h ds

noncomputable def setParams : List S → List V → Fr → Option Fr
  | [], [], fr => some fr
  | p :: ps, v :: vs, fr => setParams ps vs (fr.set v p)
  | _, _, _ => none

noncomputable def initF : List V → Nat → Fr → Fr
  | [], _, fr => fr
  | v :: vs, n, fr => initF vs (n + 1) (fr.set v (sOf n))

noncomputable def results (h : H) (fr : Fr) : List RV → Option (List V)
  | [] => some []
  | .tmp p :: rs => match results h fr rs with
    | some vs => some ((X.t p).ev fr :: vs)
    | none => none
  | .cell p agg n :: rs => match rLoad agg n (.t p) fr h with
    | some v => match results h fr rs with
      | some vs => some (v :: vs)
      | none => none
    | none => none

def packRes (vs : List V) : V := match vs with
  | [v] => v
  | vs => .tup vs

/-- deferred calls: only of functions that do nothing where nothing panics -/
def quietD (Pr : Prog) : DS → Bool
  | [] => true
  | (.fn (.func g) [] _, []) :: ds => Pr.quiet g && quietD Pr ds
  | _ => false

abbrev Self := C → St → Out

noncomputable def leave (Pr : Prog) (res : List RV) (s : St) : Option (V × H) := match quietD Pr s.ds with
  | true => match results s.h s.fr res with
    | some vs => some (packRes vs, s.h)
    | none => none
  | false => none

noncomputable def callBody (self : Self) (Pr : Prog) (g : FuncId) (args : List V) (h : H) : Option (V × H) :=
  match Pr.funcs g with
  | some fn => match Nat.ble args.length fn.n with
    | true => match self fn.body ⟨initF args 0 Fr.e, [], h⟩ with
      | .norm s => leave Pr fn.res s
      | .ret s => leave Pr fn.res s
      | _ => none
    | false => none
  | none => none
noncomputable def callFn (self : Self) (Pr : Prog) (g : FuncId) (args : List V) (h : H) : Option (V × H) :=
  match Pr.spec g args h with
  | some r => some r
  | none => callBody self Pr g args h

noncomputable def endRound (l : P) (s : St) (pend : Option Ex) : Option (V × H) := match s.h.get l with
  | some (.loop _ _ snap ps assign body) => match pend with
    | none => some (.bool true, s.h.set l (.loop .ready none snap ps assign body))
    | e => some (.bool false, s.h.set l (.loop .done e snap ps assign body))
  | _ => none

noncomputable def callYld (self : Self) (l : P) (args : List V) (h : H) : Option (V × H) :=
  match h.get l with
  | some (.loop .ready _ snap ps assign body) => match setParams ps args snap with
    | some fr => match self assign ⟨fr, [], h⟩ with
      | .norm s => match s.h.get l with
        | some (.loop .ready pend snap ps assign body') => match self body ⟨s.fr, s.ds, s.h.set l (.loop .busy pend snap ps assign body')⟩ with
          | .norm s => endRound l s none
          | .ret s => endRound l s (some .ret)
          | .exit i s => endRound l s (some (.exit i))
          | .goto i s => endRound l s (some (.goto i))
          | .no => none
        | _ => none
      | _ => none
    | none => none
  | _ => none

/-- one call, the code being run by 'self' -/
noncomputable def callS (self : Self) (Pr : Prog) (f : V) (args : List V) (h : H) : Option (V × H) :=
  match f with
  | .fn (.func g) first cap => match first, cap with
    | [], [] => callFn self Pr g args h
    | _, _ => callFn self Pr g (first ++ args ++ cap) h
  | .yld l => callYld self l args h
  | _ => none

/-! code -/
abbrev Ce := Self → Prog → St → Out
def cSkip : Ce := fun _ _ s => .norm s
noncomputable def cReg (ops : List Iop) : Ce := fun self Pr s => runReg Pr (callS self Pr) ops s.fr s.h s.ds
noncomputable def cDreg (ops : List (Iop × List Nat)) : Ce := fun self Pr s => runDreg Pr (callS self Pr) ops 0 [] s.fr s.h s.ds
def cSeq (a b : C) : Ce := fun self _ s => match self a s with
  | .norm s => self b s
  | o => o
noncomputable def cCond (x : X) (a b : C) : Ce := fun self _ s => match (x.ev s.fr) with
  | .bool true => self a s
  | .bool false => self b s
  | _ => .no
def cBlock (id : Nat) (c : C) : Ce := fun self _ s => match self c s with
  | .exit j s => match Nat.beq j id with | true => .norm s | false => .exit j s
  | o => o
def cLoop (c : C) : Ce := fun self _ s => match self c s with
  | .norm s => self (.loop c) s
  | o => o
noncomputable def endRf (l : P) (fr : Fr) (ds : DS) (h : H) : Out := match h.get l with
  | some (.loop .busy _ _ _ _ _) => .no
  | some (.loop _ pend snap ps assign body) =>
    match pend with
    | none => .norm ⟨fr, ds, h.set l (.loop .exh pend snap ps assign body)⟩
    | some .norm => .no
    | some .ret => .ret ⟨fr, ds, h.set l (.loop .exh pend snap ps assign body)⟩
    | some (.exit i) => .exit i ⟨fr, ds, h.set l (.loop .exh pend snap ps assign body)⟩
    | some (.goto i) => .goto i ⟨fr, ds, h.set l (.loop .exh pend snap ps assign body)⟩
  | _ => .no
noncomputable def cRf (x : X) (ps : List S) (assign body : C) : Ce := fun self Pr s =>
  match x.ev s.fr with
  | .fn (.func g) first cap => match callBody self Pr g (first ++ [.yld s.h.next] ++ cap) (s.h.new (.loop .ready none s.fr ps assign body)) with
    | some (_, h) => endRf s.h.next s.fr s.ds h
    | none => .no
  | _ => .no
def cExit (id : Nat) : Ce := fun _ _ s => .exit id s
def cGoto (l : Nat) : Ce := fun _ _ s => .goto l s
def cScope (c : C) : Ce := fun self _ s => match self c s with
  | .goto _ _ => .no
  | o => o
def cRet : Ce := fun _ _ s => .ret s
def cBad : Ce := fun _ _ _ => .no
noncomputable def C.e (c : C) : Ce := match c with
  | .skip => cSkip | .label => cSkip | .reg ops => cReg ops | .dreg ops => cDreg ops | .seq a b => cSeq a b | .cond x a b => cCond x a b
  | .block id c => cBlock id c | .loop c => cLoop c | .rf x ps a b => cRf x ps a b | .exit id => cExit id | .goto l => cGoto l | .scope c => cScope c | .ret => cRet | .bad _ => cBad

noncomputable def exec (Pr : Prog) (n : Nat) : C → St → Out :=
  @Nat.rec (fun _ => C → St → Out) (fun _ _ => .no) (fun _ self c s => c.e self Pr s) n
noncomputable def icall (Pr : Prog) (n : Nat) : CallT := callS (exec Pr n) Pr

/-! what the functions that are not walked do -/
def idxB : List Nat → Nat → Int
  | [], _ => .negSucc 0
  | b :: l, c => match Nat.beq b c with
    | true => .ofNat 0
    | false => match idxB l c with
      | .ofNat n => .ofNat (n + 1)
      | .negSucc _ => .negSucc 0
def pfx : List Nat → List Nat → Bool
  | [], _ => true
  | _ :: _, [] => false
  | a :: x, b :: y => match Nat.beq a b with
    | true => pfx x y
    | false => false
def idxS : List Nat → List Nat → Int
  | [], sub => match sub with
    | [] => .ofNat 0
    | _ => .negSucc 0
  | b :: l, sub => match pfx sub (b :: l) with
    | true => .ofNat 0
    | false => match idxS l sub with
      | .ofNat n => .ofNat (n + 1)
      | .negSucc _ => .negSucc 0
def cntB : List Nat → Nat → Nat
  | [], _ => 0
  | b :: l, c => match Nat.beq b c with
    | true => cntB l c + 1
    | false => cntB l c
def insI (x : Int) : List Int → List Int
  | [] => [x]
  | y :: ys => match ilt y x with
    | true => y :: insI x ys
    | false => x :: y :: ys
def sortI : List Int → List Int
  | [] => []
  | x :: xs => insI x (sortI xs)
abbrev Sp := List V → H → Option (V × H)
def spNoEsc : Sp := fun args h => match args with
  | [x] => some (x, h)
  | _ => none
def spCount : Sp := fun args h => match args with
  | [.str s, .int .u8 (.ofNat b)] => match Nat.blt b 256 with
    | true => some (.int .i64 (.ofNat (cntB s b)), h)
    | false => none
  | _ => none
def spIdxB : Sp := fun args h => match args with
  | [.str s, .int .u8 (.ofNat b)] => match Nat.blt b 256 with
    | true => some (.int .i64 (idxB s b), h)
    | false => none
  | _ => none
def cmpN (a b : List Nat) : Int := match leq a b with
  | true => .ofNat 0
  | false => match lless a b with
    | true => .negSucc 0
    | false => .ofNat 1
def spCmp : Sp := fun args h => match args with
  | [.str s, .str b] => some (.int .i64 (cmpN s b), h)
  | _ => none
noncomputable def spIndex (gm : P) : Sp := fun args h => match args with
  | [.str s, .str b] => match h.get gm with
    | some (.cells [.num .i64] 0 0 _ _) => match Nat.blt s.length 4294967281 with
      | true => some (.int .i64 (idxS s b), h)
      | false => none
    | _ => none
  | _ => none
noncomputable def spMake (ty : TypeId) : Sp := fun args h => match args with
  | [.int .i64 (.ofNat n)] => match Nat.ble n 1099511627776 with
    | true => some (.sl h.next 0 0 n 1 none, h.new (.cells (rep [.unk] n) 0 0 .rw ty))
    | false => none
  | _ => none
def keepT (e : V × V × Nat) : Bool := match e.2.1 with
  | .bool b => b
  | _ => true
def bornIn (b : Nat) (k : Int) : List (V × V × Nat) → Bool
  | [] => false
  | (.int .i64 k', _, b') :: es => match Nat.beq b b' with
    | true => true
    | false => match ieq k k' with
      | true => true
      | false => bornIn b k es
  | _ => true
/-- entries of a map of numbers to truth, each number and each birth once -/
def delOk (c : Nat) : List (V × V × Nat) → Bool
  | [] => true
  | (.int .i64 k, .bool _, b) :: es => match Nat.blt b c with
    | true => match bornIn b k es with
      | true => false
      | false => delOk c es
    | false => false
  | _ => false
def keysI : List (V × V × Nat) → Option (List Int)
  | [] => some []
  | (.int .i64 n, _, _) :: es => match ilt n (.negSucc 9223372036854775807) || ilt (.ofNat 9223372036854775807) n with
    | true => none
    | false => match keysI es with
      | some l => some (n :: l)
      | none => none
  | _ => none
noncomputable def spSorted (gk : FuncId) (ty tm : TypeId) : Sp := fun args h => match args with
  | [.fn (.func g) [] [.ptr b 0 0 1]] => match Nat.beq g gk with
    | true => match h.get b with
      | some (.cells [.map mm] 0 0 md tb) => match h.get mm with
        | some (.map es c) => match md.notRo && Nat.beq tb tm && delOk c es && Nat.ble es.length 1048576 with
          | true => match keysI es with
            | some ks => match sortI ks with
              | [] => some (.snil, h)
              | n :: ns => some (.sl h.next 0 0 (n :: ns).length 1 none, h.new (.cells ((n :: ns).map fun n => .int .i64 n) 0 0 .rw ty))
            | none => none
          | false => none
        | _ => none
      | _ => none
    | false => none
  | _ => none
noncomputable def spDel (gd : FuncId) : Sp := fun args h => match args with
  | [.map mm, .fn (.func g) [] []] => match Nat.beq g gd with
    | true => match h.get mm with
      | some (.map es c) => match delOk c es with
        | true => some (.tup [], (h.new (.cells [] 0 1 .ro 0)).set mm (.map (es.filter keepT) c))
        | false => none
      | _ => none
    | false => none
  | _ => none
structure SpecIds where
  noEscape : FuncId
  count : FuncId
  idxB : FuncId
  index : FuncId
  make : FuncId
  cmp : FuncId
  sorted : FuncId
  keys : FuncId
  del : FuncId
  delF : FuncId
  maxLen : P
  byteTy : TypeId
  intTy : TypeId
  mapTy : TypeId
noncomputable def specK (S : SpecIds) (f : FuncId) : Sp := fun args h =>
  match Nat.beq f S.noEscape with
  | true => spNoEsc args h
  | false => match Nat.beq f S.count with
    | true => spCount args h
    | false => match Nat.beq f S.idxB with
      | true => spIdxB args h
      | false => match Nat.beq f S.index with
        | true => spIndex S.maxLen args h
        | false => match Nat.beq f S.make with
          | true => spMake S.byteTy args h
          | false => match Nat.beq f S.cmp with
            | true => spCmp args h
            | false => match Nat.beq f S.sorted with
              | true => spSorted S.keys S.intTy S.mapTy args h
              | false => match Nat.beq f S.del with
                | true => spDel S.delF args h
                | false => none

/-! compiling -/
section comp
variable (p : Program) (N : Nat)

def cval : Nat → Value → Option V
  | 0, _ => none
  | n + 1, v =>
    match v with
    | .bool b => some (.bool b)
    | .int k i => some (.int k i)
    | .string s => some (.str (s.data.toList.map UInt8.toNat))
    | .pointer none => some .pnil
    | .slice none 0 0 => some .snil
    | .map none => some .mnil
    | .nilFunc => some .fnil
    | .nilIface => some .inil
    | .iface t v => (cval n v).map (.ifc t)
    | .agg cs => match cs.toList.mapM (cval n) with
      | some l => if l.all V.leaf then some (.agg l) else none
      | none => none
    | .tuple cs => (cs.toList.mapM (cval n)).map .tup
    | .func g first cap => do some (.fn g (← first.toList.mapM (cval n)) (← cap.toList.mapM (cval n)))
    | _ => none

def und (t : TypeId) : Option TypeDesc := p.underlying t
def sz (t : TypeId) : Option Nat := (p.info? t).map (·.size)
def isMapT (t : TypeId) : Bool := match und p t with | some (.map ..) => true | _ => false
def isA (t : TypeId) : Option Bool := match und p t with
  | some (.struct _) | some (.array _ _) => some true
  | some _ => some false
  | none => none
def zeroC (t : TypeId) : Option (List V) := do
  let z ← (← p.info? t).zero
  let l ← z.cells.toList.mapM (cval 20)
  if l.all V.leaf then some l else none
def zeroV (t : TypeId) : Option V := do cval 20 (← (← p.info? t).zero)

def cX : Operand → Option X
  | .tmp t => if t < N then some (.t (sOf t)) else none
  | .const v => (cval 20 v).map .c
  | .global g => do some (.c (.ptr (pOf g) 0 0 (← sz p (← p.globals[g]?).type)))
  | .func f => some (.c (.fn (.func f) [] []))

/-- the cells of fields, one behind the other -/
def flatFs (g : TypeId → Option (List LK)) : List Field → List LK → Option (List LK)
  | [], acc => some acc
  | f :: fs, acc => if f.name ≠ "_" ∧ f.offset = acc.length then
      match g f.type with
      | some k => flatFs g fs (acc ++ k)
      | none => none
    else none
/-- what cells, if only numbers, bools and strings lie inside, one behind the other -/
def flat : Nat → TypeId → Option (List LK)
  | 0, _ => none
  | n + 1, t =>
    match (match p.underlying t with
      | some .bool => some [.lb]
      | some (.int _) => some [.li]
      | some .string => some [.ls]
      | some (.struct fs) => if p.stoodInHeld t then none else flatFs (flat n) fs.toList []
      | some (.array m e) => match flat n e with
        | some k => some (rep k m)
        | none => none
      | _ => none : Option (List LK)) with
    | some k => if sz p t = some k.length then some k else none
    | none => none

def qOf (t : TypeId) : Q := match p.underlying t with
  | some .bool => .bool | some (.int _) => .int | some .string => .str | some (.pointer e) => (if (sz p e).getD 0 = 0 then .bad else .ptr)
  | some (.slice _) => .sl | some (.map ..) => .map | some (.func ..) => .fn | some (.interface _) => .ifc
  | some (.struct _) | some (.array ..) => match flat p 20 t with | some ks => if p.eqGuardType p.depth t then .bad else .agg ks | none => .bad
  | _ => .bad

/-- what may be a map's key -/
def kOf (t : TypeId) : Option Q := match qOf p t with
  | .bool => some .bool | .int => some .int | .str => some .str | .ptr => some .ptr | _ => none

def posSize (t : TypeId) : Option Nat := do
  let n ← sz p t
  if n = 0 then none else some n

def cPu (o : Oper) : Option IP :=
  match o.op with
  | .move x | .assign x => do some (.mv (← cX p N x))
  | .pick c a b => do some (.pick (← cX p N c) (← cX p N a) (← cX p N b))
  | .build t ps => do
    let z ← zeroC p t
    match ← und p t with
    | .struct fs => do
      if !fs.all (fun f => (sz p f.type).isSome) then none
      let ps ← ps.toList.mapM fun (i, x) => do
        let f ← fs[i]?
        some (f.offset, ← posSize p f.type, ← cX p N x)
      some (.build z ps)
    | .array _ e => do
      let n ← posSize p e
      let ps ← ps.toList.mapM fun (i, x) => do some (i * n, n, ← cX p N x)
      some (.build z ps)
    | _ => none
  | .nilCheck x => do some (.nilchk (← cX p N x))
  | .binOp op t x y _ => do some (.bin op (match qOf p t, x, y with | .ifc, .const _, _ => .ifcn | .ifc, _, .const _ => .ifcn | q, _, _ => q) (← cX p N x) (← cX p N y))
  | .unOp op _ x => do some (.un op (← cX p N x))
  | .convert s d x => do
    let x ← cX p N x
    match ← und p s, ← und p d with
    | .int _, .int k => some (.cvi k x)
    | .string, .string => some (.cvid x)
    | .int _, .string => some (.cvis x)
    | _, _ => none
  | .makeInterface t x => do
    match ← und p t with
    | .interface _ => none
    | _ => some (.mki t (← cX p N x))
  | .makeFunc g first cap => do some (.mkf g (← first.toList.mapM (cX p N)) (← cap.toList.mapM (cX p N)))
  | .slice t x lo hi mx => do
    let x ← cX p N x
    let lo ← lo.mapM (cX p N)
    let hi ← hi.mapM (cX p N)
    let mx ← mx.mapM (cX p N)
    if mx.isSome && hi.isNone then none
    match ← und p t with
    | .string => match mx with | none => some (.slstr x lo hi) | some _ => none
    | .slice e => do some (.slsl (← posSize p e) x lo hi mx)
    | .array n e => do some (.slarr (← posSize p e) n x lo hi mx)
    | _ => none
  | .fieldAddr t x f => do
    let .struct fs ← und p t | none
    let f ← fs[f]?
    some (.faddr f.offset (← posSize p f.type) (← cX p N x))
  | .field t x f => do
    let .struct fs ← und p t | none
    let f ← fs[f]?
    some (.fld (← isA p f.type) f.offset (← posSize p f.type) (← cX p N x))
  | .indexAddr t x i => do
    match ← und p t with
    | .slice e => do some (.iasl (← posSize p e) (← cX p N x) (← cX p N i))
    | .array n e => do some (.iaarr (← posSize p e) n (← cX p N x) (← cX p N i))
    | _ => none
  | .index t x i => do
    match ← und p t with
    | .string => do some (.ixstr (← cX p N x) (← cX p N i))
    | .array n e => do some (.ixarr (← isA p e) (← posSize p e) n (← cX p N x) (← cX p N i))
    | _ => none
  | .typeAssert x _ t ok => do
    match ← und p t with
    | .interface _ => none
    | _ => some (.tassert t (← zeroV p t) ok (← cX p N x))
  | .extract x i => do some (.extr i (← cX p N x))
  | .call c => do
    let args ← c.args.toList.mapM (cX p N)
    match c.callee, args with
    | .builtin .len, [x] => do
      match ← und p (← c.argTypes[0]?) with
      | .array n _ => some (.lenc n)
      | .pointer a => match ← und p a with | .array n _ => some (.lenc n) | _ => none
      | .string => some (.lenv true x)
      | .slice _ => some (.lenv false x)
      | _ => none
    | .builtin .cap, [x] => do
      match ← und p (← c.argTypes[0]?) with
      | .slice _ => some (.capv x)
      | _ => none
    | .builtin .min, [a, b] => some (.imin a b)
    | .builtin .max, [a, b] => some (.imax a b)
    | .builtin .unsafeSliceData, [x] => some (.usd x)
    | _, _ => none
  | _ => none

def cRd (o : Oper) : Option IR :=
  match o.op with
  | .load t a => do some (.load (← isA p t) (← posSize p t) (← cX p N a))
  | .convert s d x => do
    let x ← cX p N x
    match ← und p s, ← und p d with
    | .slice e, .string => match ← und p e with | .int .u8 => some (.cvbs x) | _ => none
    | .pointer e, .unsafePointer => do
      let _ ← posSize p e
      some (.cvpu x)
    | .unsafePointer, .pointer e => do some (.cvup e (← posSize p e) x)
    | _, _ => none
  | .lookup t x i ok => do
    let .map k e ← und p t | none
    some (.lookup (← kOf p k) (← zeroV p e) ok (← cX p N x) (← cX p N i))
  | .call c => do
    let args ← c.args.toList.mapM (cX p N)
    match c.callee, args with
    | .builtin .len, [x] => do
      match ← und p (← c.argTypes[0]?) with
      | .map .. => some (.lenm x)
      | _ => none
    | _, _ => none
  | _ => none

def cMk (o : Oper) : Option IM :=
  match o.op with
  | .alloc t => do
    let z ← zeroC p t
    let n ← posSize p t
    if z.length = n then some (.alloc t z) else none
  | .box t x => do some (.box t (← posSize p t) (← cX p N x))
  | .buildSlice t len ps => do
    let .slice e ← und p t | none
    let n ← posSize p e
    let z ← zeroC p e
    let ps ← ps.toList.mapM fun (i, x) => do some (i * n, n, ← cX p N x)
    if z.length = n ∧ len * n ≤ 2 ^ 24 then some (.bslice e n len z ps) else none
  | .convert s d x => do
    let x ← cX p N x
    match ← und p s, ← und p d with
    | .string, .slice e => match ← und p e with | .int .u8 => some (.cvsb e x) | .int .i32 => some (.cvsr e x) | _ => none
    | _, _ => none
  | .makeMap _ none => some .mkmap
  | .makeSlice t l c => do
    let .slice e ← und p t | none
    let z ← zeroC p e
    let n ← posSize p e
    if z.length = n then some (.mksl e n (← p.info? e).bytes z (← cX p N l) (← cX p N c)) else none
  | .range t x => do
    match ← und p t with
    | .string => do some (.rngs (← cX p N x))
    | _ => none
  | _ => none

def cWr (o : Oper) : Option IW :=
  match o.op with
  | .store t a x => do some (.store (← posSize p t) (← cX p N a) (← cX p N x))
  | .mapUpdate t m k x | .insert t m k x => do
    let .map kt _ ← und p t | none
    some (.mapupd (← kOf p kt) (← cX p N m) (← cX p N k) (← cX p N x))
  | .range t x => do
    match ← und p t with
    | .map .. => do some (.rngm (← cX p N x))
    | _ => none
  | .next it s => do some (.nxt s (← cX p N it))
  | .entry it => do some (.entry (← cX p N it))
  | .call c => do
    let args ← c.args.toList.mapM (cX p N)
    match c.callee, args with
    | .builtin .append, [a, b] => match c.argTypes.toList with
      | [t0, t1] => do
        let .slice e ← und p t0 | none
        let n ← posSize p e
        let z ← zeroC p e
        if z.length = n ∧ isMapT p e = false then
          match ← und p t1 with
          | .int _ => some (.appz e n (← p.info? e).bytes z a b)
          | .slice _ | .string => some (.app e n (← p.info? e).bytes a b)
          | _ => none
        else none
      | _ => none
    | .builtin .copy, [a, b] => do
      let .slice e ← und p (← c.argTypes[0]?) | none
      some (.copy (← posSize p e) a b)
    | .builtin .delete, [m, k] => do
      let .map kt _ ← und p (← c.argTypes[0]?) | none
      some (.del (← kOf p kt) m k)
    | .builtin .clear, [x] => do
      match ← und p (← c.argTypes[0]?) with
      | .map .. => some (.clrm x)
      | .slice e => do
        let z ← zeroC p e
        let n ← posSize p e
        if z.length = n then some (.clrs n z x) else none
      | _ => none
    | .builtin .unsafeString, [a, b] => do
      let .pointer e ← und p (← c.argTypes[0]?) | none
      match ← posSize p e with
      | 1 => some (.ustr e a b)
      | _ => none
    | _, _ => none
  | _ => none

def cOp (r : Bool) (o : Oper) : I :=
  match cPu p N o with
  | some i => .pu i
  | none => match cRd p N o with
    | some i => .rd i
    | none => match cMk p N o with
      | some i => .mk i
      | none => match cWr p N o with
        | some i => .wr i
        | none => match o.op with
          | .call { callee := .value f, args, .. } => match cX p N f, args.toList.mapM (cX p N) with
            | some f, some args => .call f args
            | _, _ => .bad 1
          | .defer { callee := .value f, args, .. } => match r, cX p N f, args.toList.mapM (cX p N) with
            | false, some f, some args => .defer f args
            | _, _, _ => .bad 3
          | _ => .bad 4

def cDst (t : Option Nat) : Option (Option S) := match t with
  | none => some none
  | some t => if t < N then some (some (sOf t)) else none

def cIO (r : Bool) (ops : Array Oper) (o : Oper) : Option Iop := do
  let g ← match o.guard with
    | none => some none
    | some (j, b) => match (ops[j]?).bind (·.dst) with
      | some d => if d < N then some (some (sOf d, b)) else none
      | none => none
  some { dst := ← cDst N o.dst, op := cOp p N r o, guard := g }

def I.isRd : I → Bool | .rd _ => true | _ => false
def I.isWr : I → Bool | .pu _ | .rd _ | .mk _ => false | _ => true

/-- ancestors, as bits, of the operations in their order -/
def ancE (acc : List Nat) (s : Nat) (e : Edge) : Nat := match Region.binds .any e with
  | true => (s ||| 2 ^ e.on) ||| (nthD acc e.on).getD 0
  | false => s
def ancF (l : List Oper) (acc : List Nat) : List Nat := match l with
  | [] => acc
  | o :: l => ancF l (acc ++ [o.after.toList.foldl (ancE acc) 0])
/-- the edges, as bits -/
def edgM (o : Oper) : Nat := o.after.toList.foldl (ancE []) 0

def bitO (t : Option Nat) : Nat := match t with
  | none => 0
  | some t => 2 ^ t
def bitX (s : Nat) (q : Operand) : Nat := match q with
  | .tmp t => s ||| 2 ^ t
  | _ => s
/-- slots that an operation names -/
def namesM (ops : Array Oper) (o : Oper) : Nat :=
  (o.op.operands.toList.foldl bitX (bitO o.dst)) ||| (match o.guard with | some (j, _) => bitO ((ops[j]?).bind (·.dst)) | none => 0)

/-- what is to be known of an operation of a drawn region -/
structure Inf where
  id : Nat
  an : Nat
  em : Nat
  wr : Bool
  rd : Bool
  d : Nat
  n : Nat
  io : Iop

def infs (ops : Array Oper) : List Oper → List Iop → List Nat → Nat → List Inf
  | o :: os, io :: ios, an :: ans, i => { id := i, an, em := edgM o, wr := io.op.isWr, rd := io.op.isRd, d := bitO o.dst, n := namesM ops o, io } :: infs ops os ios ans (i + 1)
  | _, _, _, _ => []

def wmask (l : List Inf) : Nat := l.foldl (fun s x => match x.wr with | true => s ||| 2 ^ x.id | false => s) 0
def goes (wm : Nat) (x : Inf) : Bool := match x.wr with
  | true => false
  | false => Nat.beq (x.an &&& wm) 0
/-- what writes nothing as early as may be -/
def canon : Nat → List Inf → List Inf
  | 0, l => l
  | f + 1, l =>
    let wm := wmask l
    let b := l.filter fun x => !goes wm x
    l.filter (goes wm) ++ match b.find? Inf.wr with
      | none => b
      | some y => y :: canon f (b.filter fun x => !Nat.beq x.id y.id)

def pairOk (y x : Inf) : Bool := match y.an.testBit x.id with
  | true => true
  | false => match x.wr with
    | true => false
    | false => Nat.beq (x.d &&& y.n) 0 && Nat.beq (y.d &&& x.n) 0
def canonOk (full : Nat) : List Inf → List Inf → Nat → Bool
  | [], _, m => Nat.beq m full
  | y :: ys, acc, m => match acc.all (pairOk y) && Nat.beq (y.em &&& m) y.em && !m.testBit y.id with
    | true => canonOk full ys (y :: acc) (m ||| 2 ^ y.id)
    | false => false
/-- with the numbers of the readers that may come behind -/
def backs (y : Inf) : List (Nat × Inf) → List Nat
  | [] => []
  | (k, x) :: l => match y.an.testBit x.id with
    | true => backs y l
    | false => k :: backs y l
def items : List Inf → List (Nat × Inf) → Nat → List (Iop × List Nat)
  | [], _, _ => []
  | y :: ys, rs, k => (y.io, match y.wr with | true => backs y rs | false => []) :: items ys (match y.rd with | true => (k, y) :: rs | false => rs) (k + 1)

def cDraw (ops : Array Oper) (ios : List Iop) : C :=
  let l := canon ops.size (infs ops ops.toList ios (ancF ops.toList []) 0)
  match canonOk (2 ^ ops.size - 1) l [] 0 with
  | true => .dreg (items l [] 0)
  | false => .bad 902

def cRegion (r : Bool) (ops : Array Oper) (draw : Bool) : C :=
  match ops.toList.mapM (cIO p N r ops) with
  | none => .bad 901
  | some ios => match draw with
    | true => cDraw ops ios
    | false => .reg ios

def cCode (r : Bool) : Code → C
  | .skip => .skip
  | .region _ ops d => cRegion p N r ops d
  | .seq a b => .seq (cCode r a) (cCode r b)
  | .cond c a b => match cX p N c with
    | some x => .cond x (cCode r a) (cCode r b)
    | none => .bad 903
  | .block id c => .block id (cCode r c)
  | .loop c => .loop (cCode r c)
  | .rangeFunc f ps a b => match r, cX p N f with
    | false, some x => if ps.all (fun t => decide (t < N)) then .rf x (ps.toList.map sOf) (cCode true a) (cCode true b) else .bad 906
    | _, _ => .bad 904
  | .exit i => .exit i
  | .scope c => .scope (cCode r c)
  | .label _ => .label
  | .goto l => .goto l
  | .ret => .ret
  | .refuse _ => .bad 905

def cRes : ResultVar → Option RV
  | .tmp t => if t < N then some (RV.tmp (sOf t)) else none
  | .cell a t => do if a < N then some (RV.cell (sOf a) (← isA p t) (← posSize p t)) else none
end comp

def cFunc (p : Program) (f : Func) : Option F := do
  let b ← f.body
  if 512 < f.ntmps then none
  let res ← f.results.toList.mapM (cRes p f.ntmps)
  some { n := f.ntmps, body := cCode p f.ntmps false b, res }
end Go.Im
namespace Go.Im

/-! laws of the tries -/
theorem D.s_u_same {α : Type} (d : D) (k : α → α) (t : B8 α) : d.s (d.u k t) = k (d.s t) := by cases d <;> rfl
theorem D.s_u_ne {α : Type} {d e : D} (h : d ≠ e) (k : α → α) (t : B8 α) : e.s (d.u k t) = e.s t := by
  cases d <;> cases e <;> first | rfl | exact absurd rfl h

theorem HT.get_nil {α : Type} (t : HT α) : HT.get [] t = t.val := by cases t <;> rfl
theorem HT.get_cons {α : Type} (d : D) (k : P) (t : HT α) : HT.get (d :: k) t = HT.get k (d.s t.kid) := by
  cases t with
  | e => show none = HT.get k (d.s HT.e8); cases k <;> cases d <;> rfl
  | n v c => rfl
theorem HT.set_nil {α : Type} (x : α) (t : HT α) : HT.set x [] t = .n (some x) t.kid := by cases t <;> rfl
theorem HT.set_cons {α : Type} (x : α) (d : D) (k : P) (t : HT α) : HT.set x (d :: k) t = .n t.val (d.u (HT.set x k) t.kid) := by
  cases t <;> rfl

theorem HT.get_set_same {α : Type} (x : α) : ∀ (k : P) (t : HT α), HT.get k (HT.set x k t) = some x
  | [], t => by rw [HT.set_nil, HT.get_nil]; rfl
  | d :: k, t => by
    rw [HT.set_cons, HT.get_cons]
    show HT.get k (d.s (d.u (HT.set x k) t.kid)) = some x
    rw [D.s_u_same]
    exact HT.get_set_same x k _
theorem HT.get_set_ne {α : Type} (x : α) : ∀ (k l : P) (t : HT α), k ≠ l → HT.get l (HT.set x k t) = HT.get l t
  | [], [], _, h => absurd rfl h
  | [], q :: l, t, _ => by rw [HT.set_nil, HT.get_cons, HT.get_cons]; rfl
  | d :: k, [], t, _ => by rw [HT.set_cons, HT.get_nil, HT.get_nil]; rfl
  | d :: k, q :: l, t, h => by
    rw [HT.set_cons, HT.get_cons, HT.get_cons]
    show HT.get l (q.s (d.u (HT.set x k) t.kid)) = _
    by_cases hde : d = q
    · subst hde
      rw [D.s_u_same]
      exact HT.get_set_ne x k l _ (fun hkl => h (by rw [hkl]))
    · rw [D.s_u_ne hde]

/-! frames -/
theorem Fr.get_set_same (fr : Fr) (v : V) (s : S) : (fr.set v s).get s = v := by
  simp only [Fr.get, Fr.set, D.s_u_same]
theorem Fr.get_set_ne (fr : Fr) (v : V) {s t : S} (h : s ≠ t) : (fr.set v s).get t = fr.get t := by
  obtain ⟨a, b, c⟩ := s
  obtain ⟨x, y, z⟩ := t
  simp only [Fr.get, Fr.set]
  by_cases hax : a = x
  · subst hax
    rw [D.s_u_same]
    by_cases hby : b = y
    · subst hby
      rw [D.s_u_same]
      have hcz : c ≠ z := fun e => h (by rw [e])
      rw [D.s_u_ne hcz]
    · rw [D.s_u_ne hby]
  · rw [D.s_u_ne hax]

theorem D.of_val : ∀ n, n < 8 → (D.of n).val = n
  | 0, _ => rfl | 1, _ => rfl | 2, _ => rfl | 3, _ => rfl | 4, _ => rfl | 5, _ => rfl | 6, _ => rfl | 7, _ => rfl
  | n + 8, h => by omega
theorem D.of_inj {m n : Nat} (hm : m < 8) (hn : n < 8) (h : D.of m = D.of n) : m = n := by
  have := congrArg D.val h
  rwa [D.of_val m hm, D.of_val n hn] at this
theorem sOf_inj {m n : Nat} (hm : m < 512) (hn : n < 512) (h : sOf m = sOf n) : m = n := by
  simp only [sOf, S.mk.injEq] at h
  obtain ⟨h1, h2, h3⟩ := h
  have a := D.of_inj (by omega) (by omega) h1
  have b := D.of_inj (by omega) (by omega) h2
  have c := D.of_inj (by omega) (by omega) h3
  omega
theorem Fr.e_get (s : S) : Fr.e.get s = .tup [] := by
  obtain ⟨a, b, c⟩ := s
  cases a <;> cases b <;> cases c <;> rfl

/-! numbers of families -/
theorem pSucc_nat : ∀ k : P, pNat (pSucc k) = pNat k + 1
  | [] => rfl
  | .d0 :: k => by simp [pSucc, pNat, D.val]; omega
  | .d1 :: k => by simp [pSucc, pNat, D.val]; omega
  | .d2 :: k => by simp [pSucc, pNat, D.val]; omega
  | .d3 :: k => by simp [pSucc, pNat, D.val]; omega
  | .d4 :: k => by simp [pSucc, pNat, D.val]; omega
  | .d5 :: k => by simp [pSucc, pNat, D.val]; omega
  | .d6 :: k => by simp [pSucc, pNat, D.val]; omega
  | .d7 :: k => by simp [pSucc, pNat, D.val, pSucc_nat k]; omega
theorem D.val_inj : ∀ {d e : D}, d.val = e.val → d = e := by
  intro d e h; cases d <;> cases e <;> first | rfl | (simp [D.val] at h)
theorem pEq_iff : ∀ {k l : P}, pEq k l = true ↔ k = l
  | [], [] => by simp [pEq]
  | [], e :: l => by simp [pEq]
  | d :: k, [] => by simp [pEq]
  | d :: k, e :: l => by
    unfold pEq
    split
    · rename_i h
      have h' : d = e := D.val_inj (Nat.eq_of_beq_eq_true h)
      subst h'
      rw [pEq_iff (k := k) (l := l)]
      simp
    · rename_i h
      simp only [Bool.false_eq_true, List.cons.injEq, false_iff, not_and]
      rintro rfl
      simp at h

/-! lists -/
theorem nthD_eq {α : Type} : ∀ (l : List α) (n : Nat), nthD l n = l[n]?
  | [], n => by simp [nthD]
  | x :: l, 0 => rfl
  | x :: l, n + 1 => by simp [nthD, nthD_eq l n]
theorem ldrop_eq {α : Type} : ∀ (l : List α) (n : Nat), ldrop l n = l.drop n
  | l, 0 => by cases l <;> rfl
  | [], n + 1 => rfl
  | x :: l, n + 1 => by simp [ldrop, ldrop_eq l n]
theorem ltake_eq {α : Type} : ∀ (l : List α) (n : Nat) {r : List α}, ltake l n = some r → n ≤ l.length ∧ r = l.take n
  | l, 0, r, h => by cases l <;> (simp only [ltake, Option.some.injEq] at h; subst h; simp)
  | [], n + 1, r, h => by simp [ltake] at h
  | x :: l, n + 1, r, h => by
    simp only [ltake] at h
    split at h
    · rename_i r' h'
      obtain ⟨a, b⟩ := ltake_eq l n h'
      simp only [Option.some.injEq] at h
      subst h b
      exact ⟨by simp; omega, by simp⟩
    · simp at h
theorem ltake_some {α : Type} : ∀ (l : List α) (n : Nat), n ≤ l.length → ltake l n = some (l.take n)
  | l, 0, _ => by cases l <;> simp [ltake]
  | [], n + 1, h => by simp at h
  | x :: l, n + 1, h => by simp [ltake, ltake_some l n (by simpa using h)]
theorem lset_eq {α : Type} : ∀ (l : List α) (n : Nat) (v : α), lset l n v = l.set n v
  | [], n, v => by simp [lset]
  | x :: l, 0, v => rfl
  | x :: l, n + 1, v => by simp [lset, lset_eq l n v]
theorem lput_spec {α : Type} : ∀ (l : List α) (n : Nat) (vs : List α) {r : List α}, lput l n vs = some r →
    r.length = l.length ∧ (vs ≠ [] → n + vs.length ≤ l.length) ∧ ∀ i, r[i]? = if n ≤ i ∧ i < n + vs.length then vs[i - n]? else l[i]?
  | l, n, [], r, h => by
    have : r = l := by cases l <;> cases n <;> simp [lput] at h <;> first | exact h.symm | exact h
    subst this
    refine ⟨rfl, fun h => absurd rfl h, fun i => ?_⟩
    rw [if_neg (by simp)]
  | [], n, v :: vs, r, h => by cases n <;> simp [lput] at h
  | x :: l, 0, v :: vs, r, h => by
    simp only [lput] at h
    split at h
    · rename_i r' h'
      obtain ⟨a, b, c⟩ := lput_spec l 0 vs h'
      simp only [Option.some.injEq] at h
      subst h
      refine ⟨by simp [a], fun _ => ?_, fun i => ?_⟩
      · by_cases hv : vs = []
        · subst hv; simp
        · have := b hv; simp at this ⊢; omega
      · cases i with
        | zero => simp
        | succ i =>
          have := c i
          simp only [List.getElem?_cons_succ, this, List.length_cons]
          by_cases hi : i < vs.length
          · rw [if_pos (by omega), if_pos (by omega)]; simp
          · rw [if_neg (by omega), if_neg (by omega)]
    · simp at h
  | x :: l, n + 1, v :: vs, r, h => by
    simp only [lput] at h
    split at h
    · rename_i r' h'
      obtain ⟨a, b, c⟩ := lput_spec l n (v :: vs) h'
      simp only [Option.some.injEq] at h
      subst h
      refine ⟨by simp [a], fun _ => ?_, fun i => ?_⟩
      · have := b (by simp); simp at this ⊢; omega
      · cases i with
        | zero => rw [if_neg (by omega)]; simp
        | succ i =>
          have := c i
          simp only [List.getElem?_cons_succ, this]
          by_cases hi : n ≤ i ∧ i < n + (v :: vs).length
          · rw [if_pos hi, if_pos (by omega), show i + 1 - (n + 1) = i - n by omega]
          · rw [if_neg hi, if_neg (by omega)]
    · simp at h

theorem leq_iff : ∀ {a b : List Nat}, leq a b = true ↔ a = b
  | [], [] => by simp [leq]
  | [], _ :: _ => by simp [leq]
  | _ :: _, [] => by simp [leq]
  | x :: a, y :: b => by
    unfold leq
    split
    · rename_i h
      have := Nat.eq_of_beq_eq_true h
      subst this
      rw [leq_iff (a := a) (b := b)]; simp
    · rename_i h
      simp only [Bool.false_eq_true, List.cons.injEq, false_iff, not_and]
      rintro rfl
      simp at h
theorem ieq_eq (a b : Int) : ieq a b = (a == b) := by
  cases a with
  | ofNat x => cases b with
    | ofNat y => simp only [ieq]; rw [Bool.eq_iff_iff]; simp [Nat.beq_eq]; omega
    | negSucc y => rfl
  | negSucc x => cases b with
    | ofNat y => rfl
    | negSucc y => simp only [ieq]; rw [Bool.eq_iff_iff]; simp [Nat.beq_eq]
theorem ilt_eq (a b : Int) : ilt a b = decide (a < b) := by
  cases a with
  | ofNat x => cases b with
    | ofNat y => simp only [ilt]; rw [Bool.eq_iff_iff]; simp [Nat.blt_eq]
    | negSucc y => simp only [ilt]; rw [Bool.eq_iff_iff]; simp; omega
  | negSucc x => cases b with
    | ofNat y => simp only [ilt]; rw [Bool.eq_iff_iff]; simp; omega
    | negSucc y => simp only [ilt]; rw [Bool.eq_iff_iff]; simp [Nat.blt_eq]; omega
theorem kindEq_iff {j k : IntKind} : kindEq j k = true ↔ j = k := by cases j <;> cases k <;> simp [kindEq]

end Go.Im
namespace Go.Im

/-! relations between ideal and real -/
structure Loc where
  blk : Nat
  base : Nat
  ext : Nat
  lim : Nat

abbrev Mp := P → Nat → Option Loc

def Mp.le (M M' : Mp) : Prop := ∀ f k l, M f k = some l → M' f k = some l
theorem Mp.le_refl (M : Mp) : M.le M := fun _ _ _ h => h
theorem Mp.le_trans {A B C : Mp} (h : A.le B) (g : B.le C) : A.le C := fun f k l e => g f k l (h f k l e)

def vleaf (v : Value) : Bool := match v with | .agg _ => false | .tuple _ => false | _ => true

inductive F2 {α β : Type} (R : α → β → Prop) : List α → List β → Prop
  | nil : F2 R [] []
  | cons {a b zs bs} : R a b → F2 R zs bs → F2 R (a :: zs) (b :: bs)

def bytesN (b : ByteArray) : List Nat := b.data.toList.map UInt8.toNat

mutual
inductive VRel (M : Mp) : V → Value → Prop
  | bool (b : Bool) : VRel M (.bool b) (.bool b)
  | int (k : IntKind) (n : Int) : VRel M (.int k n) (.int k n)
  | str (b : ByteArray) : VRel M (.str (bytesN b)) (.string b)
  | pnil : VRel M .pnil (.pointer none)
  | ptr {f : P} {k : Nat} {l : Loc} (off room : Nat) (h : M f k = some l) (hr : off + room ≤ l.ext) :
      VRel M (.ptr f k off room) (.pointer (some ⟨l.blk, l.base + off, none⟩))
  | snil : VRel M .snil (.slice none 0 0)
  | sl {f : P} {k : Nat} {l : Loc} {off len es rc : Nat} {cap : Option Nat} {a : Addr} (h : M f k = some l) (hl : off + len * es ≤ l.ext)
      (ha : rc = 0 ∨ a = ⟨l.blk, l.base + off, none⟩) (hlen : len ≤ rc)
      (hk : ∀ c, cap = some c → rc = c ∧ off + c * es ≤ l.ext) (hu : cap = none → off + rc * es ≤ l.lim) : VRel M (.sl f k off len es cap) (.slice (some a) len rc)
  | mnil : VRel M .mnil (.map none)
  | map {f : P} {l : Loc} (h : M f 0 = some l) : VRel M (.map f) (.map (some l.blk))
  | fnil : VRel M .fnil .nilFunc
  | fn {g : Fn} {a b : List V} {ra rb : Array Value} (ha : VsRel M a ra.toList) (hb : VsRel M b rb.toList) : VRel M (.fn g a b) (.func g ra rb)
  | yld {f : P} {l : Loc} (h : M f 0 = some l) : VRel M (.yld f) (.func (.yield l.blk) #[] #[])
  | inil : VRel M .inil .nilIface
  | ifc {t : TypeId} {v : V} {rv : Value} (h : VRel M v rv) : VRel M (.ifc t v) (.iface t rv)
  | agg {cs : List V} {rs : Array Value} (h : VsRel M cs rs.toList) (hl : ∀ c ∈ cs, c.leaf = true) : VRel M (.agg cs) (.agg rs)
  | tup {cs : List V} {rs : Array Value} (h : VsRel M cs rs.toList) : VRel M (.tup cs) (.tuple rs)
  | unk {r : Value} (h : vleaf r = true) : VRel M .unk r
  | num (k : IntKind) (n : Int) : VRel M (.num k) (.int k n)
inductive VsRel (M : Mp) : List V → List Value → Prop
  | nil : VsRel M [] []
  | cons {v : V} {rv : Value} {vs : List V} {rvs : List Value} : VRel M v rv → VsRel M vs rvs → VsRel M (v :: vs) (rv :: rvs)
end

mutual
theorem VRel.mono {M M' : Mp} (hm : M.le M') : ∀ {v : V} {r : Value}, VRel M v r → VRel M' v r
  | _, _, .bool b => .bool b
  | _, _, .int k n => .int k n
  | _, _, .str b => .str b
  | _, _, .pnil => .pnil
  | _, _, .ptr off room h hr => .ptr off room (hm _ _ _ h) hr
  | _, _, .snil => .snil
  | _, _, .sl h hl ha hlen hk hu => .sl (hm _ _ _ h) hl ha hlen hk hu
  | _, _, .mnil => .mnil
  | _, _, .map h => .map (hm _ _ _ h)
  | _, _, .fnil => .fnil
  | _, _, .fn ha hb => .fn (ha.mono hm) (hb.mono hm)
  | _, _, .yld h => .yld (hm _ _ _ h)
  | _, _, .inil => .inil
  | _, _, .ifc h => .ifc (h.mono hm)
  | _, _, .agg h hl => .agg (h.mono hm) hl
  | _, _, .tup h => .tup (h.mono hm)
  | _, _, .unk h => .unk h
  | _, _, .num k n => .num k n
theorem VsRel.mono {M M' : Mp} (hm : M.le M') : ∀ {v : List V} {r : List Value}, VsRel M v r → VsRel M' v r
  | _, _, .nil => .nil
  | _, _, .cons h t => .cons (h.mono hm) (t.mono hm)
end

theorem VRel.undef (M : Mp) : VRel M (.tup []) undef := .tup (rs := #[]) .nil
theorem VRel.leaf_iff {M : Mp} {v : V} {r : Value} (h : VRel M v r) : vleaf r = v.leaf := by cases h <;> first | rfl | assumption

theorem VsRel.length {M : Mp} : ∀ {v : List V} {r : List Value}, VsRel M v r → v.length = r.length
  | _, _, .nil => rfl
  | _, _, .cons _ t => by simp [t.length]
theorem VsRel.get {M : Mp} : ∀ {v : List V} {r : List Value}, VsRel M v r → ∀ {i : Nat} {x : V}, v[i]? = some x → ∃ y, r[i]? = some y ∧ VRel M x y
  | _, _, .nil, _, _, h => by simp at h
  | _, _, .cons hx t, i, x, h => by
    cases i with
    | zero => simp at h; subst h; exact ⟨_, by simp, hx⟩
    | succ i => simp at h; obtain ⟨y, hy, hr⟩ := t.get h; exact ⟨y, by simpa using hy, hr⟩
theorem VsRel.append {M : Mp} : ∀ {v : List V} {r : List Value}, VsRel M v r → ∀ {v' : List V} {r' : List Value}, VsRel M v' r' → VsRel M (v ++ v') (r ++ r')
  | _, _, .nil, _, _, h => h
  | _, _, .cons hx t, _, _, h => .cons hx (t.append h)
theorem VsRel.take {M : Mp} : ∀ {v : List V} {r : List Value}, VsRel M v r → ∀ n, VsRel M (v.take n) (r.take n)
  | _, _, .nil, n => by simp; exact .nil
  | _, _, .cons hx t, 0 => by simp; exact .nil
  | _, _, .cons hx t, n + 1 => by simp; exact .cons hx (t.take n)
theorem VsRel.drop {M : Mp} : ∀ {v : List V} {r : List Value}, VsRel M v r → ∀ n, VsRel M (v.drop n) (r.drop n)
  | _, _, .nil, n => by simp; exact .nil
  | _, _, .cons hx t, 0 => by simp; exact .cons hx t
  | _, _, .cons hx t, n + 1 => by simp; exact t.drop n
theorem VsRel.of_get {M : Mp} : ∀ {v : List V} {r : List Value}, v.length = r.length → (∀ (i : Nat) (x : V) (y : Value), v[i]? = some x → r[i]? = some y → VRel M x y) → VsRel M v r
  | [], [], _, _ => .nil
  | [], _ :: _, h, _ => by simp at h
  | _ :: _, [], h, _ => by simp at h
  | x :: v, y :: r, h, hg => .cons (hg 0 x y (by simp) (by simp)) (VsRel.of_get (by simpa using h) fun i a b ha hb => hg (i + 1) a b (by simpa using ha) (by simpa using hb))

/-! frames -/
structure FrRel (M : Mp) (N : Nat) (fr : Fr) (tmps : Array Value) : Prop where
  size : tmps.size = N
  le : N ≤ 512
  get : ∀ n, n < N → ∃ rv, tmps[n]? = some rv ∧ VRel M (fr.get (sOf n)) rv

theorem FrRel.mono {M M' : Mp} {N : Nat} {fr : Fr} {tmps : Array Value} (h : FrRel M N fr tmps) (hm : M.le M') : FrRel M' N fr tmps :=
  ⟨h.size, h.le, fun n hn => let ⟨rv, a, b⟩ := h.get n hn; ⟨rv, a, b.mono hm⟩⟩
theorem FrRel.set {M : Mp} {N : Nat} {fr : Fr} {tmps : Array Value} (h : FrRel M N fr tmps) {t : Nat} (ht : t < N) {v : V} {rv : Value} (hv : VRel M v rv) :
    FrRel M N (fr.set v (sOf t)) (tmps.setIfInBounds t rv) := by
  refine ⟨by simp [h.size], h.le, fun n hn => ?_⟩
  by_cases hnt : t = n
  · subst hnt
    refine ⟨rv, by simp [h.size, hn], ?_⟩
    rw [Fr.get_set_same]; exact hv
  · obtain ⟨r, a, b⟩ := h.get n hn
    refine ⟨r, by rw [Array.getElem?_setIfInBounds_ne hnt]; exact a, ?_⟩
    rw [Fr.get_set_ne]
    · exact b
    · intro e
      exact hnt (sOf_inj (by have := h.le; omega) (by have := h.le; omega) e)

/-! objects that are no cells -/
def entRel (M : Mp) (e : V × V × Nat) (r : MapEntry) : Prop := VRel M e.1 r.key ∧ VRel M e.2.1 r.val ∧ e.2.2 = r.born
theorem F2.imp {α β : Type} {R S : α → β → Prop} (h : ∀ a b, R a b → S a b) : ∀ {zs : List α} {bs : List β}, F2 R zs bs → F2 S zs bs
  | _, _, .nil => .nil
  | _, _, .cons x t => .cons (h _ _ x) (t.imp h)

def lsOf (s : LS) : LoopState := match s with | .ready => .ready | .busy => .busy | .done => .done | .exh => .exhausted
def exOf (e : Option Ex) : Option Code := match e with
  | none => none
  | some .norm => some .skip
  | some .ret => some .ret
  | some (.exit i) => some (.exit i)
  | some (.goto i) => some (.goto i)

inductive ORel (p : Program) (M : Mp) : O → Obj → Prop
  | map {es : List (V × V × Nat)} {rs : Array MapEntry} {clk : Nat} (h : F2 (entRel M) es rs.toList) : ORel p M (.map es clk) (.map rs clk)
  | siter (b : ByteArray) (pos : Nat) : ORel p M (.siter ((bytesN b).drop pos) pos) (.stringIter b pos)
  | miter0 {since st : Nat} {seen : Array Nat} : ORel p M (.miter none since seen.toList st) (.mapIter none since seen st)
  | miter {m : P} {l : Loc} {since st : Nat} {seen : Array Nat} (h : M m 0 = some l) : ORel p M (.miter (some m) since seen.toList st) (.mapIter (some l.blk) since seen st)
  | loop {st : LS} {pend : Option Ex} {snap : Fr} {N : Nat} {l : Loop} (hs : l.state = lsOf st) (hp : l.pending = exOf pend) (hf : FrRel M N snap l.tmps)
      (hps : ∀ t ∈ l.params.toList, t < N) : ORel p M (.loop st pend snap (l.params.toList.map sOf) (cCode p N true l.assign) (cCode p N true l.body)) (.loop l)

theorem ORel.mono {p : Program} {M M' : Mp} (hm : M.le M') {o : O} {ob : Obj} (h : ORel p M o ob) : ORel p M' o ob := by
  cases h with
  | map h => exact .map (h.imp fun _ _ ⟨a, b, c⟩ => ⟨a.mono hm, b.mono hm, c⟩)
  | siter b pos => exact .siter b pos
  | miter0 => exact .miter0
  | miter h => exact .miter (hm _ _ _ h)
  | loop hs hp hf hps => exact .loop hs hp (hf.mono hm) hps

def O.isCells (o : O) : Bool := match o with | .cells .. => true | _ => false
def obCells (o : Obj) : Bool := match o with | .cells .. => true | _ => false
theorem ORel.noCells {p : Program} {M : Mp} {o : O} {ob : Obj} (h : ORel p M o ob) : o.isCells = false ∧ obCells ob = false := by cases h <;> exact ⟨rfl, rfl⟩

/-! the heap -/
def H.liveAt (h : H) (f : P) (k : Nat) : Prop := match h.get f with
  | some (.cells _ ver dead _ _) => dead ≤ k ∧ k ≤ ver
  | some _ => k = 0
  | none => False
def H.writable (h : H) (f : P) (k : Nat) : Prop := h.liveAt f k ∧ ∀ xs ver dead ty, h.get f ≠ some (.cells xs ver dead .ro ty)

/-- where a row's cells begin: at a whole number of elements; a map's variable at its block's begin -/
def ModOk (p : Program) (ty : TypeId) (b : Nat) : Prop := (∀ s, sz p ty = some s → b % s = 0) ∧ (isMapT p ty = true → b = 0)
theorem ModOk.zero (p : Program) (ty : TypeId) : ModOk p ty 0 := ⟨fun s _ => Nat.zero_mod s, fun _ => rfl⟩
structure CellsOk (p : Program) (M : Mp) (xs : List V) (md : Md) (ty : TypeId) (own : Bool) (l : Loc) (hp : Array Obj) : Prop where
  mod : md ≠ .ro → ModOk p ty l.base
  ext : l.ext ≤ xs.length
  own : own = true → l.ext = xs.length
  cells : ∃ c frz, hp[l.blk]? = some (.cells c ty frz) ∧ l.base + l.lim ≤ c.size ∧
    (∀ i v, i < l.ext → xs[i]? = some v → ∃ rv, c[l.base + i]? = some rv ∧ VRel M v rv ∧ v.leaf = true) ∧
    (md = .rw → ∀ i, i < l.lim → ¬(frz.1 ≤ l.base + i ∧ l.base + i < frz.2))

structure Rel (p : Program) (M : Mp) (h : H) (hp : Array Obj) : Prop where
  dom : ∀ f k l, M f k = some l → l.blk < hp.size ∧ pNat f < pNat h.next ∧ l.ext ≤ l.lim ∧ ∃ l0, M f 0 = some l0
  cells : ∀ f xs ver dead md ty l0, h.get f = some (.cells xs ver dead md ty) → M f 0 = some l0 → ∀ k, dead ≤ k → k ≤ ver →
    ∃ l, M f k = some l ∧ CellsOk p M xs md ty (k == ver) l hp
  objs : ∀ f o l, h.get f = some o → o.isCells = false → M f 0 = some l → l.base = 0 ∧ ∃ ob, hp[l.blk]? = some ob ∧ ORel p M o ob
  sep : ∀ f k l g j m, h.liveAt f k → M f k = some l → h.liveAt g j → M g j = some m → f ≠ g → (h.writable f k ∨ h.writable g j) → l.blk ≠ m.blk
  fut : ∀ f xs ver dead md ty k, h.get f = some (.cells xs ver dead md ty) → ver < k → M f k = none
  futo : ∀ f o k, h.get f = some o → o.isCells = false → 0 < k → M f k = none
  base : ∀ f k l j m, M f k = some l → M f j = some m → l.blk = m.blk → l.base = m.base
  hfr : ∀ f, pNat h.next ≤ pNat f → h.get f = none

structure Step (p : Program) (M : Mp) (h : H) (w : World) (M' : Mp) (h' : H) (w' : World) : Prop where
  rel : Rel p M' h' w'.heap
  mono : M.le M'
  next : pNat h.next ≤ pNat h'.next
  size : w.heap.size ≤ w'.heap.size
  fresh : ∀ f k l, M' f k = some l → M f k = none → pNat h.next ≤ pNat f ∨ (M f 0).isSome = true
  rframe : ∀ b, b < w.heap.size → (∀ f k l, h.writable f k → M f k = some l → l.blk ≠ b) → w'.heap[b]? = w.heap[b]?
  img : ∀ f k l, h'.writable f k → M' f k = some l → w.heap.size ≤ l.blk ∨ ∃ g j m, h.writable g j ∧ M g j = some m ∧ m.blk = l.blk
  imgl : ∀ f k l, h'.liveAt f k → M' f k = some l → w.heap.size ≤ l.blk ∨ ∃ g j m, h.liveAt g j ∧ M g j = some m ∧ m.blk = l.blk
  iframe : ∀ f, pNat f < pNat h.next → M f 0 = none → h'.get f = h.get f
  os : w'.os = w.os
  out : w'.output = w.output
  tape : w'.tape = w.tape
  fresh2 : ∀ f k l, M' f k = some l → M f k = none → pNat h.next ≤ pNat f ∨ (h.get f).isSome = true
  gd : ∀ f, pNat f < pNat h.next → (h'.get f).isSome = true → (h.get f).isSome = true

theorem Step.refl {p : Program} {M : Mp} {h : H} {w w' : World} (hr : Rel p M h w.heap) (hh : w'.heap = w.heap) (h1 : w'.os = w.os) (h2 : w'.output = w.output)
    (h3 : w'.tape = w.tape) : Step p M h w M h w' :=
  { rel := by rw [hh]; exact hr
    mono := Mp.le_refl M
    next := Nat.le_refl _
    size := by rw [hh]; exact Nat.le_refl _
    fresh := fun f k l a b => by rw [a] at b; cases b
    rframe := fun b _ _ => by rw [hh]
    img := fun f k l a b => .inr ⟨f, k, l, a, b, rfl⟩
    imgl := fun f k l a b => .inr ⟨f, k, l, a, b, rfl⟩
    iframe := fun _ _ _ => rfl
    os := h1, out := h2, tape := h3
    fresh2 := fun f k l a b => by rw [a] at b; cases b
    gd := fun _ _ a => a }

theorem Step.trans {p : Program} {M M1 M2 : Mp} {h h1 h2 : H} {w w1 w2 : World} (a : Step p M h w M1 h1 w1) (b : Step p M1 h1 w1 M2 h2 w2) : Step p M h w M2 h2 w2 :=
  { rel := b.rel
    mono := Mp.le_trans a.mono b.mono
    next := Nat.le_trans a.next b.next
    size := Nat.le_trans a.size b.size
    fresh := fun f k l h2 h0 => by
      cases h1 : M1 f k with
      | none =>
        rcases b.fresh f k l h2 h1 with hb | hb
        · exact .inl (Nat.le_trans a.next hb)
        · cases h00 : M f 0 with
          | some x => exact .inr (by simp)
          | none =>
            obtain ⟨l1, hl1⟩ := Option.isSome_iff_exists.1 hb
            rcases a.fresh f 0 l1 hl1 h00 with ha | ha
            · exact .inl ha
            · rw [h00] at ha; cases ha
      | some l1 => exact a.fresh f k l1 h1 h0
    rframe := fun blk hb hno => by
      rw [b.rframe blk (Nat.lt_of_lt_of_le hb a.size) ?_, a.rframe blk hb hno]
      intro f k l hw hm e
      rcases a.img f k l hw hm with h' | ⟨g, j, m, hg, hm', he⟩
      · omega
      · exact hno g j m hg hm' (he.trans e)
    img := fun f k l hw hm => by
      rcases b.img f k l hw hm with h' | ⟨g, j, m, hg, hm', he⟩
      · exact .inl (Nat.le_trans a.size h')
      · rcases a.img g j m hg hm' with h'' | ⟨g', j', m', hg', hm'', he'⟩
        · exact .inl (he ▸ h'')
        · exact .inr ⟨g', j', m', hg', hm'', he'.trans he⟩
    imgl := fun f k l hw hm => by
      rcases b.imgl f k l hw hm with h' | ⟨g, j, m, hg, hm', he⟩
      · exact .inl (Nat.le_trans a.size h')
      · rcases a.imgl g j m hg hm' with h'' | ⟨g', j', m', hg', hm'', he'⟩
        · exact .inl (he ▸ h'')
        · exact .inr ⟨g', j', m', hg', hm'', he'.trans he⟩
    iframe := fun f hf h0 => by
      rw [b.iframe f (Nat.lt_of_lt_of_le hf a.next) ?_, a.iframe f hf h0]
      cases h1 : M1 f 0 with
      | none => rfl
      | some l1 =>
        rcases a.fresh f 0 l1 h1 h0 with ha | ha
        · omega
        · rw [h0] at ha; cases ha
    os := b.os.trans a.os
    out := b.out.trans a.out
    tape := b.tape.trans a.tape
    fresh2 := fun f k l h2 h0 => by
      cases h1 : M1 f k with
      | none =>
        rcases b.fresh2 f k l h2 h1 with hb | hb
        · exact .inl (Nat.le_trans a.next hb)
        · rcases Nat.lt_or_ge (pNat f) (pNat h.next) with hf | hf
          · exact .inr (a.gd f hf hb)
          · exact .inl hf
      | some l1 => exact a.fresh2 f k l1 h1 h0
    gd := fun f hf e => a.gd f hf (b.gd f (Nat.lt_of_lt_of_le hf a.next) e) }

end Go.Im
namespace Go.Im

theorem H.get_set_same (h : H) (f : P) (o : O) : (h.set f o).get f = some o := HT.get_set_same o f h.m
theorem H.get_set_ne (h : H) {f g : P} (o : O) (e : f ≠ g) : (h.set f o).get g = h.get g := HT.get_set_ne o f g h.m e
@[simp] theorem H.next_set (h : H) (f : P) (o : O) : (h.set f o).next = h.next := rfl
theorem H.get_new_same (h : H) (o : O) : (h.new o).get h.next = some o := HT.get_set_same o h.next h.m
theorem H.get_new_ne (h : H) {g : P} (o : O) (e : h.next ≠ g) : (h.new o).get g = h.get g := HT.get_set_ne o h.next g h.m e
theorem H.next_new (h : H) (o : O) : pNat (h.new o).next = pNat h.next + 1 := pSucc_nat h.next

def Mp.add (M : Mp) (f : P) (j : Nat) (l : Loc) : Mp := fun g k => if g = f ∧ k = j then some l else M g k
theorem Mp.add_same (M : Mp) (f : P) (j : Nat) (l : Loc) : M.add f j l f j = some l := by simp [Mp.add]
theorem Mp.add_ne (M : Mp) {f g : P} {j k : Nat} (l : Loc) (h : ¬(g = f ∧ k = j)) : M.add f j l g k = M g k := by simp [Mp.add, h]
theorem Mp.le_add {M : Mp} {f : P} {j : Nat} {l : Loc} (h : M f j = none) : M.le (M.add f j l) := fun g k m hm => by
  rw [Mp.add_ne]
  · exact hm
  · rintro ⟨rfl, rfl⟩
    rw [h] at hm; cases hm

theorem H.liveAt_congr {h h' : H} {f : P} {k : Nat} (e : h'.get f = h.get f) : h'.liveAt f k ↔ h.liveAt f k := by
  unfold H.liveAt; rw [e]
theorem H.writable_congr {h h' : H} {f : P} {k : Nat} (e : h'.get f = h.get f) : h'.writable f k ↔ h.writable f k := by
  unfold H.writable; rw [H.liveAt_congr e, e]

variable {p : Program} {M : Mp} {h : H} {hp : Array Obj}

theorem Rel.lt (r : Rel p M h hp) {f : P} {k : Nat} {l : Loc} (e : M f k = some l) : l.blk < hp.size := (r.dom f k l e).1
theorem Rel.none_of_ge (r : Rel p M h hp) {f : P} (hf : pNat h.next ≤ pNat f) (k : Nat) : M f k = none := by
  cases e : M f k with
  | none => rfl
  | some l => have := (r.dom f k l e).2.1; omega
theorem Rel.none_of_zero (r : Rel p M h hp) {f : P} (h0 : M f 0 = none) (k : Nat) : M f k = none := by
  cases e : M f k with
  | none => rfl
  | some l => obtain ⟨l0, e0⟩ := (r.dom f k l e).2.2.2; rw [h0] at e0; cases e0
theorem Rel.next_none (r : Rel p M h hp) (k : Nat) : M h.next k = none := r.none_of_ge (Nat.le_refl _) k

theorem CellsOk.congr {M M' : Mp} (hm : M.le M') {xs : List V} {md : Md} {ty : TypeId} {own : Bool} {l : Loc} {hp hp' : Array Obj} (c : CellsOk p M xs md ty own l hp)
    (e : hp'[l.blk]? = hp[l.blk]?) : CellsOk p M' xs md ty own l hp' := by
  obtain ⟨a0, a, b, cs, frz, h1, h2, h3, h4⟩ := c
  refine ⟨a0, a, b, cs, frz, e.trans h1, h2, fun i v hi hx => ?_, h4⟩
  obtain ⟨rv, x, y, z⟩ := h3 i v hi hx
  exact ⟨rv, x, y.mono hm, z⟩

/-- The real heap turned only where nothing live lies. -/
theorem Rel.congr (r : Rel p M h hp) {hp' : Array Obj} (hs : hp.size ≤ hp'.size)
    (he : ∀ f k l, h.liveAt f k → M f k = some l → hp'[l.blk]? = hp[l.blk]?) : Rel p M h hp' :=
  { dom := fun f k l e => let ⟨a, b⟩ := r.dom f k l e; ⟨Nat.lt_of_lt_of_le a hs, b⟩
    cells := fun f xs ver dead md ty l0 hg h0 k h1 h2 => by
      obtain ⟨l, hl, c⟩ := r.cells f xs ver dead md ty l0 hg h0 k h1 h2
      exact ⟨l, hl, c.congr (Mp.le_refl M) (he f k l (by unfold H.liveAt; rw [hg]; exact ⟨h1, h2⟩) hl)⟩
    objs := fun f o l hg hc h0 => by
      obtain ⟨hb, ob, ho, hr⟩ := r.objs f o l hg hc h0
      refine ⟨hb, ob, ?_, hr⟩
      rw [he f 0 l ?_ h0]; exact ho
      unfold H.liveAt; rw [hg]
      cases o <;> first | rfl | (simp [O.isCells] at hc)
    sep := r.sep
    fut := r.fut
    futo := r.futo
    base := r.base
    hfr := r.hfr }

/-- A new ideal object that nothing real answers to. -/
theorem Rel.newIdeal (r : Rel p M h hp) (o : O) : Rel p M (h.new o) hp := by
  have hne : ∀ {f : P} {k : Nat} {l : Loc}, M f k = some l → h.next ≠ f := fun {f k l} e hn => by
    subst hn; rw [r.next_none] at e; cases e
  have hg : ∀ {f : P} {k : Nat} {l : Loc}, M f k = some l → (h.new o).get f = h.get f := fun e => H.get_new_ne h o (hne e)
  refine ⟨fun f k l e => ?_, fun f xs ver dead md ty l0 h1 h0 => ?_, fun f o' l h1 hc h0 => ?_, fun f k l g j m a b c d => ?_, fun f xs ver dead md ty k h1 hk => ?_, fun f o' k h1 hc hk => ?_, r.base, fun f hf => ?_⟩
  · obtain ⟨a, b, c⟩ := r.dom f k l e
    exact ⟨a, by rw [H.next_new]; omega, c⟩
  · rw [hg h0] at h1; exact r.cells f xs ver dead md ty l0 h1 h0
  · rw [hg h0] at h1; exact r.objs f o' l h1 hc h0
  · exact fun hne hw => r.sep f k l g j m ((H.liveAt_congr (hg b)).1 a) b ((H.liveAt_congr (hg d)).1 c) d hne (hw.imp (H.writable_congr (hg b)).1 (H.writable_congr (hg d)).1)
  · cases e : M f k with
    | none => rfl
    | some l => rw [hg e] at h1; rw [r.fut f xs ver dead md ty k h1 hk] at e; cases e
  · cases e : M f k with
    | none => rfl
    | some l => rw [hg e] at h1; rw [r.futo f o' k h1 hc hk] at e; cases e
  · rw [H.next_new] at hf
    rw [H.get_new_ne h o (by rintro rfl; omega)]
    exact r.hfr f (by omega)

/-- What lies at a new real block, of an object. -/
inductive NewOk (p : Program) (M : Mp) (l : Loc) : O → Obj → Prop
  | cells {xs : List V} {c : Array Value} {ty : TypeId} {frz : Nat × Nat} (hmod : ModOk p ty l.base) (he : l.ext = xs.length) (hl : l.ext ≤ l.lim) (hb : l.base + l.lim ≤ c.size)
      (hc : ∀ (i : Nat) (v : V), xs[i]? = some v → ∃ rv, c[l.base + i]? = some rv ∧ VRel M v rv ∧ v.leaf = true)
      (hz : ∀ i, i < l.lim → ¬(frz.1 ≤ l.base + i ∧ l.base + i < frz.2)) : NewOk p M l (.cells xs 0 0 .rw ty) (.cells c ty frz)
  | obj {o : O} {ob : Obj} (hb : l.base = 0) (he : l.ext ≤ l.lim) (hr : ORel p M o ob) : NewOk p M l o ob

theorem NewOk.mono {M M' : Mp} (hm : M.le M') {l : Loc} {o : O} {ob : Obj} (h : NewOk p M l o ob) : NewOk p M' l o ob := by
  cases h with
  | cells hmod he hl hb hc hz => exact .cells hmod he hl hb (fun i v hx => let ⟨rv, a, b, c⟩ := hc i v hx; ⟨rv, a, b.mono hm, c⟩) hz
  | obj hb he hr => exact .obj hb he (hr.mono hm)

/-- An ideal object to which nothing real answered is now that of a block that nothing live has. -/
theorem Rel.addMap (r : Rel p M h hp) {f : P} (hf : M f 0 = none) (hlt : pNat f < pNat h.next) {o : O} (ho : h.get f = some o) {l : Loc} {ob : Obj} {hp' : Array Obj}
    (hfree : ∀ g k m, h.liveAt g k → M g k = some m → m.blk ≠ l.blk) (hs : hp.size ≤ hp'.size) (hlb : l.blk < hp'.size)
    (hold' : ∀ b, b < hp.size → b ≠ l.blk → hp'[b]? = hp[b]?) (hnew : hp'[l.blk]? = some ob) (hn : NewOk p (M.add f 0 l) l o ob) : Rel p (M.add f 0 l) h hp' := by
  have hle : M.le (M.add f 0 l) := Mp.le_add hf
  have hfk := r.none_of_zero hf
  have hold : ∀ {g : P} {k : Nat} {m : Loc}, h.liveAt g k → M g k = some m → hp'[m.blk]? = hp[m.blk]? := fun {g k m} hl' hm => hold' _ (r.lt hm) (hfree g k m hl' hm)
  have hel : l.ext ≤ l.lim := by cases hn with | cells _ _ a _ _ _ => exact a | obj _ a _ => exact a
  have hcase : ∀ {g : P} {k : Nat} {m : Loc}, M.add f 0 l g k = some m → (g = f ∧ k = 0 ∧ m = l) ∨ (g ≠ f ∧ M g k = some m) := fun {g k m} e => by
    by_cases hg : g = f
    · subst hg
      by_cases hk : k = 0
      · subst hk; rw [Mp.add_same] at e; cases e; exact .inl ⟨rfl, rfl, rfl⟩
      · rw [Mp.add_ne M l (fun ⟨_, h⟩ => hk h), hfk] at e; cases e
    · rw [Mp.add_ne M l (fun ⟨h, _⟩ => hg h)] at e; exact .inr ⟨hg, e⟩
  refine ⟨fun g k m e => ?_, fun g xs ver dead md ty l0 h1 h0 k hk1 hk2 => ?_, fun g o' m h1 hc h0 => ?_, fun g k m g' j m' a b c d hne hw => ?_, fun g xs ver dead md ty k h1 hk => ?_, fun g o' k h1 hc hk => ?_, fun g k m j m' a b hb => ?_, r.hfr⟩
  · rcases hcase e with ⟨rfl, rfl, rfl⟩ | ⟨_, e'⟩
    · exact ⟨hlb, hlt, hel, m, Mp.add_same _ _ _ _⟩
    · obtain ⟨a, b, c, l0, d⟩ := r.dom g k m e'
      exact ⟨Nat.lt_of_lt_of_le a hs, b, c, l0, hle _ _ _ d⟩
  · rcases hcase h0 with ⟨rfl, -, rfl⟩ | ⟨hgf, e'⟩
    · rw [ho] at h1
      cases h1
      cases hn with
      | cells hmod he hl' hb hc hz =>
        have hk : k = 0 := by omega
        subst hk
        exact ⟨l0, Mp.add_same _ _ _ _, fun _ => hmod, by omega, fun _ => he, _, _, hnew, hb, fun i v _ hx => hc i v hx, fun _ => hz⟩
      | obj _ _ hr => have := hr.noCells.1; simp [O.isCells] at this
    · obtain ⟨m, hm, hc⟩ := r.cells g xs ver dead md ty l0 h1 e' k hk1 hk2
      exact ⟨m, hle _ _ _ hm, hc.congr hle (hold (by unfold H.liveAt; rw [h1]; exact ⟨hk1, hk2⟩) hm)⟩
  · rcases hcase h0 with ⟨rfl, -, rfl⟩ | ⟨hgf, e'⟩
    · rw [ho] at h1
      cases h1
      cases hn with
      | cells _ _ _ _ _ _ => simp [O.isCells] at hc
      | obj hb _ hr => exact ⟨hb, ob, hnew, hr⟩
    · obtain ⟨hb, ob', h2, hr⟩ := r.objs g o' m h1 hc e'
      refine ⟨hb, ob', ?_, hr.mono hle⟩
      rw [hold ?_ e']; exact h2
      unfold H.liveAt; rw [h1]; cases o' <;> first | rfl | (simp [O.isCells] at hc)
  · rcases hcase b with ⟨rfl, -, rfl⟩ | ⟨_, e1⟩ <;> rcases hcase d with ⟨rfl, -, rfl⟩ | ⟨_, e2⟩
    · exact absurd rfl hne
    · exact Ne.symm (hfree _ _ _ c e2)
    · exact hfree _ _ _ a e1
    · exact r.sep g k m g' j m' a e1 c e2 hne hw
  · cases e : M.add f 0 l g k with
    | none => rfl
    | some m =>
      rcases hcase e with ⟨rfl, rfl, rfl⟩ | ⟨_, e'⟩
      · omega
      · rw [r.fut g xs ver dead md ty k h1 hk] at e'; cases e'
  · cases e : M.add f 0 l g k with
    | none => rfl
    | some m =>
      rcases hcase e with ⟨rfl, rfl, rfl⟩ | ⟨_, e'⟩
      · omega
      · rw [r.futo g o' k h1 hc hk] at e'; cases e'
  · rcases hcase a with ⟨e1, -, e2⟩ | ⟨hne, a'⟩ <;> rcases hcase b with ⟨e3, -, e4⟩ | ⟨hne', b'⟩
    · rw [e2, e4]
    · exact absurd e1 hne'
    · exact absurd e3 hne
    · exact r.base g k m j m' a' b' hb

/-- A new object, here and there. -/
theorem step_new {w w' : World} (r : Rel p M h w.heap) {o : O} {ob : Obj} {l : Loc} (hl : l.blk = w.heap.size) (hn : NewOk p (M.add h.next 0 l) l o ob)
    (hw : w'.heap = w.heap.push ob) (h1 : w'.os = w.os) (h2 : w'.output = w.output) (h3 : w'.tape = w.tape) :
    Step p M h w (M.add h.next 0 l) (h.new o) w' := by
  have hnone := r.next_none
  have r' := (r.newIdeal o).addMap (hnone 0) (by rw [H.next_new]; omega) (H.get_new_same h o) (hp' := w.heap.push ob)
    (fun g k m _ e => by have := r.lt e; omega) (by simp) (by rw [hl]; simp) (fun b hb _ => by rw [Array.getElem?_push]; simp; omega) (by rw [hl]; simp) hn
  refine ⟨by rw [hw]; exact r', Mp.le_add (hnone 0), by rw [H.next_new]; omega, by rw [hw]; simp, fun f k m e e0 => ?_, fun b hb _ => ?_, fun f k m hwr e => ?_, fun f k m hwr e => ?_, fun f hf h0 => ?_, h1, h2, h3, fun f k m e e0 => ?_, fun f hf e => ?_⟩
  · by_cases hf : f = h.next ∧ k = 0
    · exact .inl (by rw [hf.1]; exact Nat.le_refl _)
    · rw [Mp.add_ne M l hf, e0] at e; cases e
  · rw [hw, Array.getElem?_push]; simp; omega
  · by_cases hf : f = h.next ∧ k = 0
    · rw [hf.1, hf.2, Mp.add_same] at e; cases e; exact .inl (by omega)
    · rw [Mp.add_ne M l hf] at e
      refine .inr ⟨f, k, m, ?_, e, rfl⟩
      refine (H.writable_congr (H.get_new_ne h o ?_)).1 hwr
      rintro rfl; rw [hnone] at e; cases e
  · by_cases hf : f = h.next ∧ k = 0
    · rw [hf.1, hf.2, Mp.add_same] at e; cases e; exact .inl (by omega)
    · rw [Mp.add_ne M l hf] at e
      refine .inr ⟨f, k, m, ?_, e, rfl⟩
      refine (H.liveAt_congr (H.get_new_ne h o ?_)).1 hwr
      rintro rfl; rw [hnone] at e; cases e
  · exact H.get_new_ne h o (by rintro rfl; omega)
  · by_cases hf : f = h.next ∧ k = 0
    · exact .inl (by rw [hf.1]; exact Nat.le_refl _)
    · rw [Mp.add_ne M l hf, e0] at e; cases e
  · rw [H.get_new_ne h o (by rintro rfl; omega)] at e; exact e

/-- An object that is no cells is turned, here and there. -/
theorem step_obj {w w' : World} (r : Rel p M h w.heap) {f : P} {o o' : O} {ob : Obj} {l : Loc} (hf : M f 0 = some l) (hg : h.get f = some o) (hc : o.isCells = false)
    (hr : ORel p M o' ob) (hw : w'.heap = w.heap.setIfInBounds l.blk ob) (h1 : w'.os = w.os) (h2 : w'.output = w.output) (h3 : w'.tape = w.tape) :
    Step p M h w M (h.set f o') w' := by
  have hlt := r.lt hf
  have hc' := hr.noCells.1
  have hl1 : ∀ k, h.liveAt f k ↔ k = 0 := fun k => by
    unfold H.liveAt; rw [hg]; cases o <;> first | exact Iff.rfl | (simp [O.isCells] at hc)
  have hl2 : ∀ k, (h.set f o').liveAt f k ↔ k = 0 := fun k => by
    unfold H.liveAt; rw [H.get_set_same]; cases o' <;> first | exact Iff.rfl | (simp [O.isCells] at hc')
  have hlive : ∀ {g : P} {k : Nat}, (h.set f o').liveAt g k ↔ h.liveAt g k := fun {g k} => by
    by_cases e : f = g
    · subst e; rw [hl1, hl2]
    · exact H.liveAt_congr (H.get_set_ne h o' e)
  have hwf : h.writable f 0 := ⟨(hl1 0).2 rfl, fun xs ver dead ty e => by rw [hg] at e; cases e; simp [O.isCells] at hc⟩
  have hwrit : ∀ {g : P} {k : Nat}, (h.set f o').liveAt g k → (h.set f o').writable g k → h.writable g k := fun {g k} a b => by
    by_cases e : f = g
    · subst e; rw [(hl2 k).1 a]; exact hwf
    · exact (H.writable_congr (H.get_set_ne h o' e)).1 b
  have hother : ∀ {g : P} {k : Nat} {m : Loc}, g ≠ f → h.liveAt g k → M g k = some m → (w.heap.setIfInBounds l.blk ob)[m.blk]? = w.heap[m.blk]? := fun {g k m} hne hlv e => by
    rw [Array.getElem?_setIfInBounds_ne]
    exact r.sep f 0 l g k m ((hl1 0).2 rfl) hf hlv e (Ne.symm hne) (.inl hwf)
  refine ⟨?_, Mp.le_refl M, Nat.le_refl _, by rw [hw]; simp, fun g k m e e0 => (by rw [e0] at e; cases e), fun b hb hno => ?_, fun g k m hwr e => ?_, fun g k m hwr e => .inr ⟨g, k, m, hlive.1 hwr, e, rfl⟩, fun g _ h0 => ?_, h1, h2, h3, fun g k m e e0 => (by rw [e0] at e; cases e), fun g _ e => ?_⟩
  · rw [hw]
    refine ⟨fun g k m e => ?_, fun g xs ver dead md ty l0 h1 h0 k hk1 hk2 => ?_, fun g o'' m h1 hc'' h0 => ?_, fun g k m g' j m' a b c d => ?_, fun g xs ver dead md ty k h1 hk => ?_, fun g o'' k h1 hc'' hk => ?_, r.base, fun g hgl => ?_⟩
    · have := r.dom g k m e; simpa using this
    · by_cases e : f = g
      · subst e; rw [H.get_set_same] at h1; cases h1; simp [O.isCells] at hc'
      · rw [H.get_set_ne h o' e] at h1
        obtain ⟨m, hm, hc⟩ := r.cells g xs ver dead md ty l0 h1 h0 k hk1 hk2
        exact ⟨m, hm, hc.congr (Mp.le_refl M) (hother (Ne.symm e) (by unfold H.liveAt; rw [h1]; exact ⟨hk1, hk2⟩) hm)⟩
    · by_cases e : f = g
      · subst e
        rw [H.get_set_same] at h1; cases h1
        rw [hf] at h0; cases h0
        exact ⟨(r.objs f o l hg hc hf).1, ob, by simp [hlt], hr⟩
      · rw [H.get_set_ne h o' e] at h1
        obtain ⟨hb, ob', h2, hr'⟩ := r.objs g o'' m h1 hc'' h0
        refine ⟨hb, ob', ?_, hr'⟩
        rw [hother (Ne.symm e) ?_ h0]; exact h2
        unfold H.liveAt; rw [h1]; cases o'' <;> first | rfl | (simp [O.isCells] at hc'')
    · exact fun hne hw => r.sep g k m g' j m' (hlive.1 a) b (hlive.1 c) d hne (hw.imp (hwrit a) (hwrit c))
    · by_cases e : f = g
      · subst e; rw [H.get_set_same] at h1; cases h1; simp [O.isCells] at hc'
      · rw [H.get_set_ne h o' e] at h1; exact r.fut g xs ver dead md ty k h1 hk
    · by_cases e : f = g
      · subst e; exact r.futo f o k hg hc hk
      · rw [H.get_set_ne h o' e] at h1; exact r.futo g o'' k h1 hc'' hk
    · have := (r.dom f 0 l hf).2.1
      have hgl' : pNat h.next ≤ pNat g := hgl
      rw [H.get_set_ne h o' (by rintro rfl; omega)]; exact r.hfr g hgl'
  · rw [hw, Array.getElem?_setIfInBounds_ne]
    exact hno f 0 l hwf hf
  · refine .inr ⟨g, k, m, ?_, e, rfl⟩
    by_cases e' : f = g
    · subst e'
      have := (hl2 k).1 hwr.1
      subst this; exact hwf
    · exact (H.writable_congr (H.get_set_ne h o' e')).1 hwr
  · exact H.get_set_ne h o' (by rintro rfl; rw [hf] at h0; cases h0)
  · by_cases e' : f = g
    · subst e'; rw [hg]; rfl
    · rw [H.get_set_ne h o' e'] at e; exact e

end Go.Im
namespace Go.Im

theorem setCell_heap (w : World) (b o : Nat) (v : Value) {c : Array Value} {e : TypeId} {fz : Nat × Nat} (hb : w.heap[b]? = some (.cells c e fz)) :
    (w.setCell ⟨b, o, none⟩ v).heap[b]? = some (.cells (c.setIfInBounds o v) e fz) := by
  simp [World.setCell, Array.getElem?_modify, hb]
theorem setCell_heap_ne (w : World) (b o : Nat) (v : Value) {b' : Nat} (h : b' ≠ b) : (w.setCell ⟨b, o, none⟩ v).heap[b']? = w.heap[b']? := by
  simp [World.setCell, Array.getElem?_modify, Ne.symm h]

theorem setCells_heap (b : Nat) {e : TypeId} {fz : Nat × Nat} : ∀ (vs : List Value) (o : Nat) (w : World) (c : Array Value), w.heap[b]? = some (.cells c e fz) →
    ∃ c', (w.setCells b o vs).heap[b]? = some (.cells c' e fz) ∧ c'.size = c.size ∧ (∀ i, i < o ∨ o + vs.length ≤ i → c'[i]? = c[i]?) ∧
      (∀ i, i < vs.length → o + vs.length ≤ c.size → c'[o + i]? = vs[i]?)
  | [], o, w, c, h => ⟨c, h, rfl, fun _ _ => rfl, fun i hi => by simp at hi⟩
  | v :: vs, o, w, c, h => by
    obtain ⟨c', h1, h2, h3, h4⟩ := setCells_heap b vs (o + 1) (w.setCell ⟨b, o, none⟩ v) _ (setCell_heap w b o v h)
    refine ⟨c', h1, by simpa using h2, fun i hi => ?_, fun i hi hs => ?_⟩
    · rw [h3 i (by simp at hi; omega), Array.getElem?_setIfInBounds_ne (by simp at hi; omega)]
    · cases i with
      | zero =>
        rw [Nat.add_zero, h3 o (by omega), Array.getElem?_setIfInBounds]
        simp at hs
        simp; omega
      | succ i =>
        have := h4 i (by simpa using hi) (by simp at hs ⊢; omega)
        rw [show o + (i + 1) = o + 1 + i by omega, this]; simp
theorem setCells_heap_ne (b : Nat) : ∀ (vs : List Value) (o : Nat) (w : World) {b' : Nat}, b' ≠ b → (w.setCells b o vs).heap[b']? = w.heap[b']?
  | [], _, _, _, _ => rfl
  | v :: vs, o, w, b', h => by rw [World.setCells, setCells_heap_ne b vs (o + 1) _ h, setCell_heap_ne w b o v h]
theorem setCells_size (b : Nat) : ∀ (vs : List Value) (o : Nat) (w : World), (w.setCells b o vs).heap.size = w.heap.size
  | [], _, _ => rfl
  | v :: vs, o, w => by rw [World.setCells, setCells_size b vs]; simp [World.setCell]
theorem setCells_rest (b : Nat) : ∀ (vs : List Value) (o : Nat) (w : World), (w.setCells b o vs).os = w.os ∧ (w.setCells b o vs).output = w.output ∧ (w.setCells b o vs).tape = w.tape
  | [], _, _ => ⟨rfl, rfl, rfl⟩
  | v :: vs, o, w => by rw [World.setCells]; exact setCells_rest b vs (o + 1) _

theorem leaf_oneCell {v : Value} : v.oneCell' = vleaf v := by cases v <;> rfl

variable {p : Program} {M : Mp} {h : H} {w w' : World}

theorem live_spec {f : P} {k : Nat} {xs : List V} (hl : live h f k = some xs) : ∃ ver dead md ty, h.get f = some (.cells xs ver dead md ty) ∧ dead ≤ k ∧ k ≤ ver := by
  unfold live at hl
  split at hl
  · rename_i o ho
    unfold O.live at hl
    split at hl
    · rename_i xs' ver dead md ty
      split at hl
      · rename_i hb
        simp only [Bool.and_eq_true] at hb
        cases hl
        exact ⟨ver, dead, md, ty, ho, Nat.le_of_ble_eq_true hb.1, Nat.le_of_ble_eq_true hb.2⟩
      · cases hl
    · cases hl
  · cases hl
theorem rangeO_spec {xs : Option (List V)} {off n : Nat} {r : List V} (h : rangeO xs off n = some r) : ∃ ys, xs = some ys ∧ n ≤ (ys.drop off).length ∧ r = (ys.drop off).take n := by
  unfold rangeO at h
  split at h
  · rename_i ys
    unfold range at h
    obtain ⟨a, b⟩ := ltake_eq _ _ h
    rw [ldrop_eq] at a b
    exact ⟨ys, rfl, a, b⟩
  · cases h

/-- Reading: the cells of a range of a live version, as the real memory has them. -/
theorem read_range {hp : Array Obj} (r : Rel p M h hp) {f : P} {k off n : Nat} {xs cs : List V} {l : Loc} (hl : live h f k = some xs) (hM : M f k = some l) (hb : off + n ≤ l.ext)
    (hr : range xs off n = some cs) : ∃ c ty frz rs, hp[l.blk]? = some (.cells c ty frz) ∧ VsRel M cs rs ∧ rs.length = n ∧ (∀ j v, rs[j]? = some v → c[l.base + off + j]? = some v) ∧
      l.base + off + n ≤ c.size ∧ (∀ v ∈ cs, v.leaf = true) := by
  obtain ⟨ver, dead, md, ty, hg, h1, h2⟩ := live_spec hl
  obtain ⟨l0, h0⟩ := (r.dom f k l hM).2.2.2
  obtain ⟨l', hl', _, ho, hown, c, frz, hc, hsz, hcells, hz⟩ := r.cells f xs ver dead md ty l0 hg h0 k h1 h2
  rw [hM] at hl'; cases hl'
  have hlim := (r.dom f k l hM).2.2.1
  unfold range at hr
  obtain ⟨hn, hcs⟩ := ltake_eq _ _ hr
  rw [ldrop_eq] at hn hcs
  have hx : ∀ j, j < n → cs[j]? = xs[off + j]? := fun j hj => by rw [hcs, List.getElem?_take_of_lt hj, List.getElem?_drop]
  have hget : ∀ j, j < n → ∃ v rv, cs[j]? = some v ∧ c[l.base + off + j]? = some rv ∧ VRel M v rv ∧ v.leaf = true := fun j hj => by
    have hlt : off + j < xs.length := by omega
    obtain ⟨rv, a, b, d⟩ := hcells (off + j) xs[off + j] (by omega) (by simp [hlt])
    exact ⟨xs[off + j], rv, by rw [hx j hj]; simp [hlt], by rw [Nat.add_assoc]; exact a, b, d⟩
  have hlen : cs.length = n := by rw [hcs]; simp at hn ⊢; omega
  refine ⟨c, ty, frz, (c.toList.drop (l.base + off)).take n, hc, ?_, by simp; omega, fun j v hj => ?_, by omega, fun v hv => ?_⟩
  · refine VsRel.of_get (by simp [hlen]; omega) fun i x y hx' hy => ?_
    have hi : i < n := by
      rcases Nat.lt_or_ge i n with h' | h'
      · exact h'
      · rw [List.getElem?_eq_none (by rw [hlen]; exact h')] at hx'; cases hx'
    obtain ⟨v, rv, a, b, c', _⟩ := hget i hi
    rw [a] at hx'; cases hx'
    rw [List.getElem?_take_of_lt hi, List.getElem?_drop, Array.getElem?_toList, b] at hy
    cases hy; exact c'
  · have hi : j < n := by
      rcases Nat.lt_or_ge j n with h' | h'
      · exact h'
      · rw [List.getElem?_eq_none (by simp; omega)] at hj; cases hj
    rwa [List.getElem?_take_of_lt hi, List.getElem?_drop, Array.getElem?_toList] at hj
  · obtain ⟨j, hj, e⟩ := List.getElem_of_mem hv
    obtain ⟨v', _, a, _, _, d⟩ := hget j (by omega)
    rw [List.getElem?_eq_getElem hj, e] at a; cases a; exact d

/-- A family's cells are turned at its owner, here and there. -/
theorem step_cells (r : Rel p M h w.heap) {f : P} {xs xs' : List V} {ver dead : Nat} {md md' : Md} {ty : TypeId} {l l0 : Loc} (hg : h.get f = some (.cells xs ver dead md ty)) (hd : dead ≤ ver) (hM0 : M f 0 = some l0)
    (hM : M f ver = some l) (hro : md ≠ .ro) (hc : CellsOk p M xs' md' ty true l w'.heap) (hs : w'.heap.size = w.heap.size) (hold : ∀ b, b ≠ l.blk → w'.heap[b]? = w.heap[b]?)
    (h1 : w'.os = w.os) (h2 : w'.output = w.output) (h3 : w'.tape = w.tape) : Step p M h w M (h.set f (.cells xs' ver ver md' ty)) w' := by
  have hl1 : h.liveAt f ver := by unfold H.liveAt; rw [hg]; exact ⟨hd, Nat.le_refl _⟩
  have hl2 : ∀ k, (h.set f (.cells xs' ver ver md' ty)).liveAt f k ↔ k = ver := fun k => by
    unfold H.liveAt; rw [H.get_set_same]; exact ⟨fun ⟨a, b⟩ => Nat.le_antisymm b a, fun e => by subst e; exact ⟨Nat.le_refl _, Nat.le_refl _⟩⟩
  have hlive : ∀ {g : P} {k : Nat}, (h.set f (.cells xs' ver ver md' ty)).liveAt g k → h.liveAt g k := fun {g k} a => by
    by_cases e : f = g
    · subst e; rw [(hl2 k).1 a]; exact hl1
    · exact (H.liveAt_congr (H.get_set_ne h _ e)).1 a
  have hwf : h.writable f ver := ⟨hl1, fun a b c d e => by rw [hg] at e; cases e; exact hro rfl⟩
  have hwrit : ∀ {g : P} {k : Nat}, (h.set f (.cells xs' ver ver md' ty)).liveAt g k → (h.set f (.cells xs' ver ver md' ty)).writable g k → h.writable g k := fun {g k} a b => by
    by_cases e : f = g
    · subst e; rw [(hl2 k).1 a]; exact hwf
    · exact (H.writable_congr (H.get_set_ne h _ e)).1 b
  have hother : ∀ {g : P} {k : Nat} {m : Loc}, f ≠ g → h.liveAt g k → M g k = some m → w'.heap[m.blk]? = w.heap[m.blk]? := fun {g k m} hne hlv e =>
    hold _ (Ne.symm (r.sep f ver l g k m hl1 hM hlv e hne (.inl hwf)))
  refine ⟨?_, Mp.le_refl M, Nat.le_refl _, by omega, fun g k m e e0 => (by rw [e0] at e; cases e), fun b hb hno => hold b (Ne.symm (hno f ver l hwf hM)), fun g k m hwr e => ?_, fun g k m hwr e => .inr ⟨g, k, m, hlive hwr, e, rfl⟩, fun g _ h0 => ?_, h1, h2, h3, fun g k m e e0 => (by rw [e0] at e; cases e), fun g _ e => ?_⟩
  · refine ⟨fun g k m e => ?_, fun g ys ver' dead' md'' ty' m0 h1 h0 k hk1 hk2 => ?_, fun g o m h1 hc' h0 => ?_, fun g k m g' j m' a b c d => ?_, fun g ys ver' dead' md'' ty' k h1 hk => ?_, fun g o k h1 hc' hk => ?_, r.base, fun g hgl => ?_⟩
    · have := r.dom g k m e; rw [hs]; exact this
    · by_cases e : f = g
      · subst e; rw [H.get_set_same] at h1; cases h1
        have : k = ver := Nat.le_antisymm hk2 hk1
        subst this
        refine ⟨l, hM, ?_⟩
        simpa using hc
      · rw [H.get_set_ne h _ e] at h1
        obtain ⟨m, hm, hcc⟩ := r.cells g ys ver' dead' md'' ty' m0 h1 h0 k hk1 hk2
        exact ⟨m, hm, hcc.congr (Mp.le_refl M) (hother e (by unfold H.liveAt; rw [h1]; exact ⟨hk1, hk2⟩) hm)⟩
    · by_cases e : f = g
      · subst e; rw [H.get_set_same] at h1; cases h1; simp [O.isCells] at hc'
      · rw [H.get_set_ne h _ e] at h1
        obtain ⟨hb, ob', h2, hr'⟩ := r.objs g o m h1 hc' h0
        refine ⟨hb, ob', ?_, hr'⟩
        rw [hother e ?_ h0]; exact h2
        unfold H.liveAt; rw [h1]; cases o <;> first | rfl | (simp [O.isCells] at hc')
    · exact fun hne hw => r.sep g k m g' j m' (hlive a) b (hlive c) d hne (hw.imp (hwrit a) (hwrit c))
    · by_cases e : f = g
      · subst e; rw [H.get_set_same] at h1; cases h1; exact r.fut f xs ver dead md ty k hg hk
      · rw [H.get_set_ne h _ e] at h1; exact r.fut g ys ver' dead' md'' ty' k h1 hk
    · by_cases e : f = g
      · subst e; rw [H.get_set_same] at h1; cases h1; simp [O.isCells] at hc'
      · rw [H.get_set_ne h _ e] at h1; exact r.futo g o k h1 hc' hk
    · have := (r.dom f 0 l0 hM0).2.1
      have hgl' : pNat h.next ≤ pNat g := hgl
      rw [H.get_set_ne h _ (by rintro rfl; omega)]; exact r.hfr g hgl'
  · refine .inr ⟨g, k, m, ?_, e, rfl⟩
    by_cases e' : f = g
    · subst e'
      rw [(hl2 k).1 hwr.1]; exact hwf
    · exact (H.writable_congr (H.get_set_ne h _ e')).1 hwr
  · exact H.get_set_ne h _ (by rintro rfl; rw [hM0] at h0; cases h0)
  · by_cases e' : f = g
    · subst e'; rw [hg]; rfl
    · rw [H.get_set_ne h _ e'] at e; exact e

/-- A new version of a family: its owner's cells and more behind them, in place or in a new block. -/
theorem step_ver (r : Rel p M h w.heap) {f : P} {xs new : List V} {ver dead : Nat} {ty : TypeId} {l l0 l' : Loc} (hg : h.get f = some (.cells xs ver dead .rw ty)) (hd : dead ≤ ver) (hM0 : M f 0 = some l0)
    (hM : M f ver = some l) (hc : CellsOk p M (xs ++ new) .rw ty true l' w'.heap) (hlim : l'.ext ≤ l'.lim) (hs : w.heap.size ≤ w'.heap.size) (hlb : l'.blk < w'.heap.size)
    (hcase : (l'.blk = l.blk ∧ l'.base = l.base ∧ (∀ b, b ≠ l.blk → b < w.heap.size → w'.heap[b]? = w.heap[b]?) ∧
        (∀ c elem frz, w.heap[l.blk]? = some (.cells c elem frz) → ∃ c', w'.heap[l.blk]? = some (.cells c' elem frz) ∧ c'.size = c.size ∧ ∀ i, i < l.base + xs.length → c'[i]? = c[i]?)) ∨
      (l'.blk = w.heap.size ∧ ∀ b, b < w.heap.size → w'.heap[b]? = w.heap[b]?))
    (h1 : w'.os = w.os) (h2 : w'.output = w.output) (h3 : w'.tape = w.tape) : Step p M h w (M.add f (ver + 1) l') (h.set f (.cells (xs ++ new) (ver + 1) dead .rw ty)) w' := by
  have hnone : M f (ver + 1) = none := r.fut f xs ver dead .rw ty (ver + 1) hg (by omega)
  have hle : M.le (M.add f (ver + 1) l') := Mp.le_add hnone
  have hl1 : h.liveAt f ver := by unfold H.liveAt; rw [hg]; exact ⟨hd, Nat.le_refl _⟩
  have hlive1 : ∀ {k : Nat}, k ≤ ver → (h.set f (.cells (xs ++ new) (ver + 1) dead .rw ty)).liveAt f k → h.liveAt f k := fun {k} hk a => by
    unfold H.liveAt at a ⊢; rw [H.get_set_same] at a; rw [hg]; exact ⟨a.1, hk⟩
  have hmap : ∀ {g : P} {k : Nat} {m : Loc}, M.add f (ver + 1) l' g k = some m → (g = f ∧ k = ver + 1 ∧ m = l') ∨ (¬(g = f ∧ k = ver + 1) ∧ M g k = some m) := fun {g k m} e => by
    by_cases hgk : g = f ∧ k = ver + 1
    · obtain ⟨rfl, rfl⟩ := hgk; rw [Mp.add_same] at e; cases e; exact .inl ⟨rfl, rfl, rfl⟩
    · rw [Mp.add_ne M l' hgk] at e; exact .inr ⟨hgk, e⟩
  have hlive : ∀ {g : P} {k : Nat} {m : Loc}, M g k = some m → (h.set f (.cells (xs ++ new) (ver + 1) dead .rw ty)).liveAt g k → h.liveAt g k := fun {g k m} hm a => by
    by_cases e : f = g
    · subst e
      refine hlive1 ?_ a
      rcases Nat.lt_or_ge ver k with hk | hk
      · rw [r.fut f xs ver dead .rw ty k hg hk] at hm; cases hm
      · exact hk
    · exact (H.liveAt_congr (H.get_set_ne h _ e)).1 a
  have hwf : h.writable f ver := ⟨hl1, fun a b c d e => by rw [hg] at e; cases e⟩
  have hwrit : ∀ {g : P} {k : Nat} {m : Loc}, M g k = some m → (h.set f (.cells (xs ++ new) (ver + 1) dead .rw ty)).writable g k → h.writable g k := fun {g k m} hm b => ⟨hlive hm b.1, fun x y z u hh => by
    by_cases e'' : f = g
    · subst e''; rw [hg] at hh; cases hh
    · exact b.2 x y z u (by rw [H.get_set_ne h _ e'']; exact hh)⟩
  -- what the older versions and the other families have
  have hother : ∀ {g : P} {k : Nat} {m : Loc}, f ≠ g → h.liveAt g k → M g k = some m → w'.heap[m.blk]? = w.heap[m.blk]? := fun {g k m} hne hlv e => by
    have hb := r.lt e
    rcases hcase with ⟨_, _, ha, _⟩ | ⟨_, ha⟩
    · exact ha _ (Ne.symm (r.sep f ver l g k m hl1 hM hlv e hne (.inl hwf))) hb
    · exact ha _ hb
  have hsame : ∀ {k : Nat} {m : Loc}, M f k = some m → ∀ c elem frz, w.heap[m.blk]? = some (.cells c elem frz) → ∃ c', w'.heap[m.blk]? = some (.cells c' elem frz) ∧ c'.size = c.size ∧ ∀ i, i < m.base + xs.length → c'[i]? = c[i]? := fun {k m} e c elem frz hcc => by
    have hb := r.lt e
    rcases hcase with ⟨_, _, ha, hb'⟩ | ⟨_, ha⟩
    · by_cases hblk : m.blk = l.blk
      · have := r.base f k m ver l e hM hblk
        rw [hblk] at hcc ⊢; rw [this]; exact hb' c elem frz hcc
      · exact ⟨c, by rw [ha _ hblk hb]; exact hcc, rfl, fun _ _ => rfl⟩
    · exact ⟨c, by rw [ha _ hb]; exact hcc, rfl, fun _ _ => rfl⟩
  refine ⟨?_, hle, Nat.le_refl _, hs, fun g k m e e0 => ?_, fun b hb hno => ?_, fun g k m hwr e => ?_, fun g k m hwr e => ?_, fun g _ h0 => ?_, h1, h2, h3, fun g k m e e0 => ?_, fun g _ e => ?_⟩
  · refine ⟨fun g k m e => ?_, fun g ys ver' dead' md'' ty' m0 h1 h0 k hk1 hk2 => ?_, fun g o m h1 hc' h0 => ?_, fun g k m g' j m' a b c d hne hw => ?_, fun g ys ver' dead' md'' ty' k h1 hk => ?_, fun g o k h1 hc' hk => ?_, fun g k m j m' a b hb => ?_, fun g hgl => ?_⟩
    · rcases hmap e with ⟨rfl, rfl, rfl⟩ | ⟨_, e'⟩
      · exact ⟨hlb, (r.dom g ver l hM).2.1, hlim, l0, hle _ _ _ hM0⟩
      · obtain ⟨a, b, c, m0, d⟩ := r.dom g k m e'
        exact ⟨Nat.lt_of_lt_of_le a hs, b, c, m0, hle _ _ _ d⟩
    · by_cases e : f = g
      · subst e; rw [H.get_set_same] at h1; cases h1
        by_cases hk : k = ver + 1
        · subst hk
          refine ⟨l', Mp.add_same _ _ _ _, ?_⟩
          have := hc.congr hle rfl
          simpa using this
        · obtain ⟨m, hm, hmod, hx, hy, c, frz, hcc, hz1, hz2, hz3⟩ := r.cells f xs ver dead .rw ty l0 hg hM0 k hk1 (by omega)
          obtain ⟨c', hc1, hc2, hc3⟩ := hsame hm c ty frz hcc
          refine ⟨m, hle _ _ _ hm, hmod, by simp; omega, fun hown => ?_, c', frz, hc1, by omega, fun i v hi hv => ?_, hz3⟩
          · simp at hown; omega
          · rw [List.getElem?_append_left (by omega)] at hv
            obtain ⟨rv, a, b, d⟩ := hz2 i v hi hv
            exact ⟨rv, by rw [hc3 _ (by omega)]; exact a, b.mono hle, d⟩
      · rw [H.get_set_ne h _ e] at h1
        have h0' : M g 0 = some m0 := by
          rcases hmap h0 with ⟨rfl, _, _⟩ | ⟨_, e'⟩
          · exact absurd rfl e
          · exact e'
        obtain ⟨m, hm, hcc⟩ := r.cells g ys ver' dead' md'' ty' m0 h1 h0' k hk1 hk2
        exact ⟨m, hle _ _ _ hm, hcc.congr hle (hother e (by unfold H.liveAt; rw [h1]; exact ⟨hk1, hk2⟩) hm)⟩
    · by_cases e : f = g
      · subst e; rw [H.get_set_same] at h1; cases h1; simp [O.isCells] at hc'
      · rw [H.get_set_ne h _ e] at h1
        have h0' : M g 0 = some m := by
          rcases hmap h0 with ⟨rfl, _, _⟩ | ⟨_, e'⟩
          · exact absurd rfl e
          · exact e'
        obtain ⟨hb, ob', h2, hr'⟩ := r.objs g o m h1 hc' h0'
        refine ⟨hb, ob', ?_, hr'.mono hle⟩
        rw [hother e ?_ h0']; exact h2
        unfold H.liveAt; rw [h1]; cases o <;> first | rfl | (simp [O.isCells] at hc')
    · have key : ∀ {g : P} {k : Nat} {m : Loc}, g ≠ f → h.liveAt g k → M g k = some m → m.blk ≠ l'.blk := fun {g k m} hgf hlv hm => by
        rcases hcase with ⟨e1, _⟩ | ⟨e1, _⟩
        · rw [e1]; exact r.sep g k m f ver l hlv hm hl1 hM hgf (.inr hwf)
        · have := r.lt hm; omega
      rcases hmap b with ⟨rfl, rfl, rfl⟩ | ⟨_, e1⟩ <;> rcases hmap d with ⟨rfl, rfl, rfl⟩ | ⟨_, e2⟩
      · exact absurd rfl hne
      · exact Ne.symm (key (Ne.symm hne) (hlive e2 c) e2)
      · exact key hne (hlive e1 a) e1
      · exact r.sep g k m g' j m' (hlive e1 a) e1 (hlive e2 c) e2 hne (hw.imp (hwrit e1) (hwrit e2))
    · by_cases e : f = g
      · subst e; rw [H.get_set_same] at h1; cases h1
        rw [Mp.add_ne M l' (by omega)]; exact r.fut f xs ver dead .rw ty k hg (by omega)
      · rw [H.get_set_ne h _ e] at h1
        rw [Mp.add_ne M l' (fun hh => e hh.1.symm)]; exact r.fut g ys ver' dead' md'' ty' k h1 hk
    · by_cases e : f = g
      · subst e; rw [H.get_set_same] at h1; cases h1; simp [O.isCells] at hc'
      · rw [H.get_set_ne h _ e] at h1
        rw [Mp.add_ne M l' (fun hh => e hh.1.symm)]; exact r.futo g o k h1 hc' hk
    · rcases hmap a with ⟨e1, e2, e3⟩ | ⟨_, a'⟩ <;> rcases hmap b with ⟨e4, e5, e6⟩ | ⟨_, b'⟩
      · rw [e3, e6]
      · subst e1 e3
        rcases hcase with ⟨x, y, _⟩ | ⟨x, _⟩
        · rw [y]; exact r.base g ver l j m' hM b' (by rw [← x]; exact hb)
        · have := r.lt b'; omega
      · subst e4 e6
        rcases hcase with ⟨x, y, _⟩ | ⟨x, _⟩
        · rw [y]; exact r.base g k m ver l a' hM (by rw [← x]; exact hb)
        · have := r.lt a'; omega
      · exact r.base g k m j m' a' b' hb
    · have := (r.dom f 0 l0 hM0).2.1
      have hgl' : pNat h.next ≤ pNat g := hgl
      rw [H.get_set_ne h _ (by rintro rfl; omega)]; exact r.hfr g hgl'
  · rcases hmap e with ⟨rfl, rfl, rfl⟩ | ⟨_, e'⟩
    · exact .inr (by rw [hM0]; rfl)
    · rw [e0] at e'; cases e'
  · rcases hcase with ⟨_, _, ha, _⟩ | ⟨_, ha⟩
    · exact ha b (Ne.symm (hno f ver l hwf hM)) hb
    · exact ha b hb
  · rcases hmap e with ⟨rfl, rfl, rfl⟩ | ⟨_, e'⟩
    · rcases hcase with ⟨x, _⟩ | ⟨x, _⟩
      · exact .inr ⟨g, ver, l, hwf, hM, x.symm⟩
      · exact .inl (by omega)
    · refine .inr ⟨g, k, m, ⟨hlive e' hwr.1, fun a b c d hh => ?_⟩, e', rfl⟩
      by_cases e'' : f = g
      · subst e''; rw [hg] at hh; cases hh
      · exact hwr.2 a b c d (by rw [H.get_set_ne h _ e'']; exact hh)
  · rcases hmap e with ⟨rfl, rfl, rfl⟩ | ⟨_, e'⟩
    · rcases hcase with ⟨x, _⟩ | ⟨x, _⟩
      · exact .inr ⟨g, ver, l, hl1, hM, x.symm⟩
      · exact .inl (by omega)
    · exact .inr ⟨g, k, m, hlive e' hwr, e', rfl⟩
  · exact H.get_set_ne h _ (by rintro rfl; rw [hM0] at h0; cases h0)
  · rcases hmap e with ⟨rfl, rfl, rfl⟩ | ⟨_, e'⟩
    · exact .inr (by rw [hg]; rfl)
    · rw [e0] at e'; cases e'
  · by_cases e' : f = g
    · subst e'; rw [hg]; rfl
    · rw [H.get_set_ne h _ e'] at e; exact e

/-- A family given up, and a new one that begins within its owner's cells, in place or in a new block. -/
theorem step_kill (r : Rel p M h w.heap) {f : P} {xs ys : List V} {ver dead : Nat} {ty : TypeId} {l l0 l' : Loc} (hg : h.get f = some (.cells xs ver dead .rw ty)) (hd : dead ≤ ver) (hM0 : M f 0 = some l0)
    (hM : M f ver = some l) {ob : Obj} (hnew : w'.heap[l'.blk]? = some ob) (hn : NewOk p M l' (.cells ys 0 0 .rw ty) ob) (hs : w.heap.size ≤ w'.heap.size) (hlb : l'.blk < w'.heap.size)
    (hcase : (l'.blk = l.blk ∧ ∀ b, b ≠ l.blk → b < w.heap.size → w'.heap[b]? = w.heap[b]?) ∨ (l'.blk = w.heap.size ∧ ∀ b, b < w.heap.size → w'.heap[b]? = w.heap[b]?))
    (h1 : w'.os = w.os) (h2 : w'.output = w.output) (h3 : w'.tape = w.tape) :
    Step p M h w (M.add h.next 0 l') ((h.set f (.cells xs ver (ver + 1) .rw ty)).new (.cells ys 0 0 .rw ty)) w' := by
  have hl1 : h.liveAt f ver := by unfold H.liveAt; rw [hg]; exact ⟨hd, Nat.le_refl _⟩
  have hwf : h.writable f ver := ⟨hl1, fun a b c d e => by rw [hg] at e; cases e⟩
  have hdead : ∀ k, ¬ (h.set f (.cells xs ver (ver + 1) .rw ty)).liveAt f k := fun k a => by
    unfold H.liveAt at a; rw [H.get_set_same] at a; omega
  have hlive : ∀ {g : P} {k : Nat}, (h.set f (.cells xs ver (ver + 1) .rw ty)).liveAt g k → g ≠ f ∧ h.liveAt g k := fun {g k} a => by
    by_cases e : f = g
    · subst e; exact absurd a (hdead k)
    · exact ⟨Ne.symm e, (H.liveAt_congr (H.get_set_ne h _ e)).1 a⟩
  have r1 : Rel p M (h.set f (.cells xs ver (ver + 1) .rw ty)) w.heap := by
    refine ⟨r.dom, fun g zs ver' dead' md ty' m0 h1 h0 k hk1 hk2 => ?_, fun g o m h1 hc h0 => ?_, fun g k m g' j m' a b c d hne hw => r.sep g k m g' j m' (hlive a).2 b (hlive c).2 d hne (hw.imp (H.writable_congr (H.get_set_ne h _ (Ne.symm (hlive a).1))).1 (H.writable_congr (H.get_set_ne h _ (Ne.symm (hlive c).1))).1), fun g zs ver' dead' md ty' k h1 hk => ?_, fun g o k h1 hc hk => ?_, r.base, fun g hgl => ?_⟩
    · by_cases e : f = g
      · subst e; rw [H.get_set_same] at h1; cases h1; omega
      · rw [H.get_set_ne h _ e] at h1; exact r.cells g zs ver' dead' md ty' m0 h1 h0 k hk1 hk2
    · by_cases e : f = g
      · subst e; rw [H.get_set_same] at h1; cases h1; simp [O.isCells] at hc
      · rw [H.get_set_ne h _ e] at h1; exact r.objs g o m h1 hc h0
    · by_cases e : f = g
      · subst e; rw [H.get_set_same] at h1; cases h1; exact r.fut f xs ver dead .rw ty k hg hk
      · rw [H.get_set_ne h _ e] at h1; exact r.fut g zs ver' dead' md ty' k h1 hk
    · by_cases e : f = g
      · subst e; rw [H.get_set_same] at h1; cases h1; simp [O.isCells] at hc
      · rw [H.get_set_ne h _ e] at h1; exact r.futo g o k h1 hc hk
    · have := (r.dom f ver l hM).2.1
      have hgl' : pNat h.next ≤ pNat g := hgl
      rw [H.get_set_ne h _ (by rintro rfl; omega)]; exact r.hfr g hgl'
  have hnone : ∀ k, M h.next k = none := r.next_none
  have hfn : f ≠ h.next := by rintro rfl; rw [hnone] at hM; cases hM
  have r2 := r1.newIdeal (.cells ys 0 0 .rw ty)
  have hget : ∀ {g : P}, h.next ≠ g → ((h.set f (.cells xs ver (ver + 1) .rw ty)).new (.cells ys 0 0 .rw ty)).get g = (h.set f (.cells xs ver (ver + 1) .rw ty)).get g := fun {g} e => H.get_new_ne (h.set f (.cells xs ver (ver + 1) .rw ty)) _ e
  have hne : ∀ {g : P} {k : Nat} {m : Loc}, M g k = some m → h.next ≠ g := fun {g k m} e hn' => by subst hn'; rw [hnone] at e; cases e
  have hlive2 : ∀ {g : P} {k : Nat} {m : Loc}, M g k = some m → ((h.set f (.cells xs ver (ver + 1) .rw ty)).new (.cells ys 0 0 .rw ty)).liveAt g k → g ≠ f ∧ h.liveAt g k := fun {g k m} hm a =>
    hlive ((H.liveAt_congr (hget (hne hm))).1 a)
  have r3 := r2.addMap (f := h.next) (hp' := w'.heap) (hnone 0) (by rw [H.next_new]; simp) (H.get_new_same (h.set f (.cells xs ver (ver + 1) .rw ty)) _) (l := l') (ob := ob)
    (fun g k m hlv hm => by
      obtain ⟨hgf, hlv'⟩ := hlive2 hm hlv
      rcases hcase with ⟨e1, _⟩ | ⟨e1, _⟩
      · rw [e1]; exact r.sep g k m f ver l hlv' hm hl1 hM hgf (.inr hwf)
      · have := r.lt hm; omega) hs hlb
    (fun b hb hb' => by
      rcases hcase with ⟨e1, e2⟩ | ⟨e1, e2⟩
      · exact e2 b (by rw [← e1]; exact hb') hb
      · exact e2 b hb) hnew (hn.mono (Mp.le_add (hnone 0)))
  refine ⟨r3, Mp.le_add (hnone 0), by rw [H.next_new]; simp, hs, fun g k m e e0 => ?_, fun b hb hno => ?_, fun g k m hwr e => ?_, fun g k m hwr e => ?_, fun g hgl h0 => ?_, h1, h2, h3, fun g k m e e0 => ?_, fun g hgl e => ?_⟩
  · by_cases hgk : g = h.next ∧ k = 0
    · exact .inl (by rw [hgk.1]; exact Nat.le_refl _)
    · rw [Mp.add_ne M l' hgk, e0] at e; cases e
  · rcases hcase with ⟨_, e2⟩ | ⟨_, e2⟩
    · exact e2 b (Ne.symm (hno f ver l hwf hM)) hb
    · exact e2 b hb
  · by_cases hgk : g = h.next ∧ k = 0
    · rw [hgk.1, hgk.2, Mp.add_same] at e; cases e
      rcases hcase with ⟨e1, _⟩ | ⟨e1, _⟩
      · exact .inr ⟨f, ver, l, hwf, hM, e1.symm⟩
      · exact .inl (by omega)
    · rw [Mp.add_ne M l' hgk] at e
      obtain ⟨hgf, hlv⟩ := hlive2 e hwr.1
      refine .inr ⟨g, k, m, ⟨hlv, fun a b c d hh => ?_⟩, e, rfl⟩
      exact hwr.2 a b c d (by rw [hget (hne e), H.get_set_ne h _ (Ne.symm hgf)]; exact hh)
  · by_cases hgk : g = h.next ∧ k = 0
    · rw [hgk.1, hgk.2, Mp.add_same] at e; cases e
      rcases hcase with ⟨e1, _⟩ | ⟨e1, _⟩
      · exact .inr ⟨f, ver, l, hl1, hM, e1.symm⟩
      · exact .inl (by omega)
    · rw [Mp.add_ne M l' hgk] at e
      obtain ⟨hgf, hlv⟩ := hlive2 e hwr
      exact .inr ⟨g, k, m, hlv, e, rfl⟩
  · rw [hget (by rintro rfl; omega), H.get_set_ne h _ (by rintro rfl; rw [hM0] at h0; cases h0)]
  · by_cases hgk : g = h.next ∧ k = 0
    · exact .inl (by rw [hgk.1]; exact Nat.le_refl _)
    · rw [Mp.add_ne M l' hgk, e0] at e; cases e
  · rw [hget (by rintro rfl; omega)] at e
    by_cases e' : f = g
    · subst e'; rw [hg]; rfl
    · rw [H.get_set_ne h _ e'] at e; exact e

end Go.Im
namespace Go.Im
variable {p : Program}

theorem mapM_VsRel {M : Mp} {f : Value → Option V} (hf : ∀ v x, f v = some x → VRel M x v) : ∀ (l : List Value) {xs : List V}, l.mapM f = some xs → VsRel M xs l
  | [], xs, h => by simp at h; subst h; exact .nil
  | v :: l, xs, h => by
    simp only [List.mapM_cons, Option.bind_eq_bind, Option.bind_eq_some_iff, Option.pure_def, Option.some.injEq] at h
    obtain ⟨x, hx, ys, hy, rfl⟩ := h
    exact .cons (hf v x hx) (mapM_VsRel hf l hy)

theorem cval_rel (M : Mp) : ∀ (n : Nat) (v : Value) (x : V), cval n v = some x → VRel M x v
  | 0, v, x, h => by simp [cval] at h
  | n + 1, v, x, h => by
    have ih := fun v x => cval_rel M n v x
    unfold cval at h
    split at h
    · cases h; exact .bool _
    · cases h; exact .int _ _
    · cases h; exact .str _
    · cases h; exact .pnil
    · cases h; exact .snil
    · cases h; exact .mnil
    · cases h; exact .fnil
    · cases h; exact .inil
    · rename_i t v
      simp only [Option.map_eq_some_iff] at h
      obtain ⟨y, hy, rfl⟩ := h
      exact .ifc (ih v y hy)
    · rename_i cs
      split at h
      · rename_i l hl
        split at h
        · rename_i hall
          cases h
          exact .agg (mapM_VsRel ih _ hl) (by simpa using hall)
        · cases h
      · cases h
    · rename_i cs
      simp only [Option.map_eq_some_iff] at h
      obtain ⟨l, hl, rfl⟩ := h
      exact .tup (mapM_VsRel ih _ hl)
    · simp only [Option.bind_eq_bind, Option.bind_eq_some_iff, Option.some.injEq] at h
      obtain ⟨a, ha, b, hb, rfl⟩ := h
      exact .fn (mapM_VsRel ih _ ha) (mapM_VsRel ih _ hb)
    · cases h

/-- The package-level variables lie where the program says. -/
def GOk (p : Program) (M : Mp) : Prop := ∀ (g : Nat) (gl : Global) (n : Nat), p.globals[g]? = some gl → sz p gl.type = some n → ∃ l, M (pOf g) 0 = some l ∧ l.blk = g ∧ l.base = 0 ∧ n ≤ l.ext
theorem GOk.mono {M M' : Mp} (h : GOk p M) (hm : M.le M') : GOk p M' := fun g gl n a b => let ⟨l, c, d⟩ := h g gl n a b; ⟨l, hm _ _ _ c, d⟩

theorem cX_rel {M : Mp} {N : Nat} {fr : Fr} {a : Act} (hf : FrRel M N fr a.tmps) (hg : GOk p M) {x : Operand} {X' : X} (h : cX p N x = some X') : VRel M (X'.ev fr) (a.eval x) := by
  cases x with
  | tmp t =>
    simp only [cX] at h
    split at h
    · rename_i ht
      cases h
      obtain ⟨rv, e, hv⟩ := hf.get t ht
      have : a.eval (.tmp t) = rv := by
        show a.tmps.getD t _ = rv
        simp [e]
      rw [this]; exact hv
    · cases h
  | const v =>
    simp only [cX, Option.map_eq_some_iff] at h
    obtain ⟨y, hy, rfl⟩ := h
    exact cval_rel M 20 v y hy
  | global g =>
    simp only [cX, Option.bind_eq_bind, Option.bind_eq_some_iff, Option.some.injEq] at h
    obtain ⟨gl, hgl, n, hn, rfl⟩ := h
    obtain ⟨l, hl, hb, h0, hle⟩ := hg g gl n hgl hn
    have := VRel.ptr (M := M) 0 n hl (by omega)
    rw [hb, h0] at this
    exact this
  | func f => cases h; exact .fn (ra := #[]) (rb := #[]) .nil .nil

theorem cXs_rel {M : Mp} {N : Nat} {fr : Fr} {a : Act} (hf : FrRel M N fr a.tmps) (hg : GOk p M) : ∀ (l : List Operand) {xs : List X}, l.mapM (cX p N) = some xs → VsRel M (evs fr xs) (l.map a.eval)
  | [], xs, h => by simp at h; subst h; exact .nil
  | x :: l, xs, h => by
    simp only [List.mapM_cons, Option.bind_eq_bind, Option.bind_eq_some_iff, Option.pure_def, Option.some.injEq] at h
    obtain ⟨y, hy, ys, hys, rfl⟩ := h
    exact .cons (cX_rel hf hg hy) (cXs_rel hf hg l hys)

theorem zeroV_rel {t : TypeId} {z : V} (h : zeroV p t = some z) (M : Mp) : ∃ rz, VRel M z rz ∧ ∀ w, (zeroValue t).run p w = .ok rz w := by
  simp only [zeroV, Option.bind_eq_bind, Option.bind_eq_some_iff] at h
  obtain ⟨ti, hti, rz, hrz, hz⟩ := h
  exact ⟨rz, cval_rel M 20 rz z hz, fun w => by simp [zeroValue, typeInfo, hti, hrz]⟩

theorem run_sizeOf' {t : TypeId} {n : Nat} (h : sz p t = some n) (w : World) : (sizeOf t).run p w = .ok n w := by
  simp only [sz, Option.map_eq_some_iff] at h
  obtain ⟨ti, hti, rfl⟩ := h
  simp [sizeOf, typeInfo, hti]
theorem run_isAgg' {t : TypeId} {b : Bool} (h : isA p t = some b) (w : World) : (isAgg t).run p w = .ok b w := by
  unfold isA und at h
  split at h
  · rename_i fs hd; cases h; simp [isAgg, run_underlying hd]
  · rename_i n e hd; cases h; simp [isAgg, run_underlying hd]
  · rename_i d hns hna hd
    cases h
    simp only [isAgg, Sem.run_bind, run_underlying hd, Result.andThen_ok]
    first | rfl | (split <;> simp_all)
  · cases h
theorem posSize_spec {t : TypeId} {n : Nat} (h : posSize p t = some n) : sz p t = some n ∧ n ≠ 0 := by
  simp only [posSize, Option.bind_eq_bind, Option.bind_eq_some_iff] at h
  obtain ⟨m, hm, h⟩ := h
  split at h
  · cases h
  · cases h; exact ⟨hm, by assumption⟩

/-- What a pure operation's law says. -/
def PuOk (p : Program) (M : Mp) (v : V) (s : Sem Value) : Prop := ∃ rv, VRel M v rv ∧ ∀ w, s.run p w = .ok rv w

section values
variable {M : Mp}

theorem nat_spec {v : V} {n : Nat} {r : Value} (h : v.nat = some n) (hr : VRel M v r) : ∃ k, r = .int k (Int.ofNat n) := by
  unfold V.nat at h
  split at h
  · cases h; cases hr; exact ⟨_, rfl⟩
  · cases h
theorem isTrue_spec {v : V} {b : Bool} {r : Value} (h : v.isTrue = some b) (hr : VRel M v r) : r = .bool b := by
  unfold V.isTrue at h
  split at h
  · cases h; cases hr; rfl
  · cases h

theorem wrapF_eq (k : IntKind) (n : Int) : wrapF k n = k.wrap n := by
  unfold wrapF
  split
  · split
    · rename_i m h
      have := Nat.blt_eq.mp h
      exact (IntWalk.i64_in _ ⟨by simp, by simp; omega⟩).symm
    · rfl
  · split
    · rename_i m h
      have := Nat.blt_eq.mp h
      exact (IntWalk.i64_in _ ⟨by rw [Int.negSucc_eq]; omega, by rw [Int.negSucc_eq]; omega⟩).symm
    · rfl
  · split
    · rename_i m h
      have := Nat.blt_eq.mp h
      exact (IntWalk.u64_in _ ⟨by simp, by simp; omega⟩).symm
    · rfl
  · split
    · rename_i m h
      have := Nat.blt_eq.mp h
      exact (IntWalk.u8_in _ ⟨by simp, by simp; omega⟩).symm
    · rfl
  · split
    · rename_i m h
      have := Nat.blt_eq.mp h
      exact (IntWalk.i32_in _ ⟨by simp, by simp; omega⟩).symm
    · rfl
  · split
    · rename_i m h
      have := Nat.blt_eq.mp h
      exact (IntWalk.u32_in _ ⟨by simp, by simp; omega⟩).symm
    · rfl
  · rfl

theorem lless_spec : ∀ (a b : List UInt8), lless (a.map UInt8.toNat) (b.map UInt8.toNat) = Op.bytesLess a b
  | _, [] => by simp [lless, Op.bytesLess]
  | [], _ :: _ => by simp [lless, Op.bytesLess]
  | x :: a, y :: b => by
    have h1 : Nat.blt x.toNat y.toNat = decide (x < y) := by rw [Bool.eq_iff_iff]; simp [Nat.blt_eq, UInt8.lt_iff_toNat_lt]
    have h2 : Nat.beq x.toNat y.toNat = (x == y) := by
      rw [Bool.eq_iff_iff]; simp [Nat.beq_eq, UInt8.toNat_inj]
    simp only [List.map_cons, lless, Op.bytesLess, h1, h2, lless_spec a b]
theorem leq_spec (a b : List UInt8) : leq (a.map UInt8.toNat) (b.map UInt8.toNat) = (a == b) := by
  rw [Bool.eq_iff_iff, leq_iff, beq_iff_eq]
  constructor
  · intro h
    exact (List.map_inj_right (fun x y h => UInt8.toNat_inj.1 h)).1 h
  · rintro rfl; rfl
end values

end Go.Im
namespace Go.Im
variable {p : Program} {M : Mp}

theorem one_spec {agg : Bool} {cs : Option (List V)} {v : V} (h : one agg cs = some v) : ∃ l, cs = some l ∧ (agg = true ∧ v = .agg l ∨ agg = false ∧ l = [v]) := by
  unfold one at h
  split at h
  · cases h
  · rename_i l
    split at h
    · cases h; exact ⟨l, rfl, .inl ⟨rfl, rfl⟩⟩
    · split at h
      · cases h; exact ⟨_, rfl, .inr ⟨rfl, rfl⟩⟩
      · cases h
theorem range_spec {xs : List V} {off n : Nat} {r : List V} (h : range xs off n = some r) : n ≤ (xs.drop off).length ∧ r = (xs.drop off).take n := by
  unfold range at h
  have := ltake_eq _ _ h
  rwa [ldrop_eq] at this

/-- A part of a struct or an array. -/
theorem part_rel {cs : List V} {rs : Array Value} {agg : Bool} {off n : Nat} {v : V} {t : TypeId} (hr : VRel M (.agg cs) (.agg rs)) (ha : isA p t = some agg) (hs : sz p t = some n)
    (h : one agg (range cs off n) = some v) : PuOk p M v (part t rs off) := by
  obtain ⟨l, hl, hc⟩ := one_spec h
  obtain ⟨hn, rfl⟩ := range_spec hl
  cases hr with
  | agg hv hleaf =>
    have hd := (hv.drop off).take n
    rcases hc with ⟨rfl, rfl⟩ | ⟨rfl, he⟩
    · refine ⟨.agg (rs.extract off (off + n)), .agg ?_ (fun c hc => hleaf c (List.mem_of_mem_drop (List.mem_of_mem_take hc))), fun w => ?_⟩
      · simpa [List.take_drop, Nat.add_comm] using hd
      · simp [part, run_isAgg' ha, run_sizeOf' hs]
    · rw [he] at hd
      generalize hq : (rs.toList.drop off).take n = q at hd
      cases hd with
      | cons hx ht =>
        cases ht
        rename_i rv
        refine ⟨rv, hx, fun w => ?_⟩
        have hg : rs[off]? = some rv := by
          have h1 : ((rs.toList.drop off).take n)[0]? = some rv := by rw [hq]; rfl
          rw [List.getElem?_take] at h1
          split at h1
          · rw [List.getElem?_drop] at h1
            simpa using h1
          · cases h1
        simp [part, run_isAgg' ha, hg]

theorem r_faddr {t : TypeId} {fs : Array Field} {f n : Nat} {fd : Field} {v v' : V} {rv : Value} (hu : p.underlying t = some (.struct fs)) (hf : fs[f]? = some fd) (hn : posSize p fd.type = some n)
    (hr : VRel M v rv) (h : vFaddr fd.offset n v = some v') : PuOk p M v' (Instr.fieldAt t rv f) := by
  unfold vFaddr at h
  split at h
  · split at h
    · rename_i f k o room hb
      cases h
      have hb := Nat.le_of_ble_eq_true hb
      cases hr with
      | ptr off room hM hle =>
        obtain ⟨hs, hn0⟩ := posSize_spec hn
        refine ⟨_, .ptr _ n hM (by omega), fun w => ?_⟩
        simp [Instr.fieldAt, run_underlying hu, hf, Instr.sureAddr, fieldPlace, run_sizeOf' hs, hn0, Addr.add_lit, Nat.add_assoc]
    · cases h
  · cases h

theorem r_fld {t : TypeId} {fs : Array Field} {f n : Nat} {fd : Field} {agg : Bool} {v v' : V} {rv : Value} (hu : p.underlying t = some (.struct fs)) (hf : fs[f]? = some fd)
    (ha : isA p fd.type = some agg) (hn : posSize p fd.type = some n) (hr : VRel M v rv) (h : vFld agg fd.offset n v = some v') : PuOk p M v' (Instr.field t rv f) := by
  unfold vFld at h
  split at h
  · cases hr with
    | agg hv hl =>
      obtain ⟨rv', h1, h2⟩ := part_rel (.agg hv hl) ha (posSize_spec hn).1 h
      exact ⟨rv', h1, fun w => by simp [Instr.field, run_underlying hu, hf, asAgg, h2]⟩
  · cases h

theorem run_asIntOf (k : IntKind) (n : Int) (w : World) : (asIntOf (.int k n)).run p w = .ok (k, n) w := rfl

theorem r_iasl {t e : TypeId} {es : Nat} {v i v' : V} {rv ri : Value} (hu : p.underlying t = some (.slice e)) (hn : posSize p e = some es)
    (hr : VRel M v rv) (hi : VRel M i ri) (h : vIasl es v i = some v') : PuOk p M v' (Instr.indexAt t rv ri) := by
  unfold vIasl at h
  split at h
  · split at h
    · rename_i ix hix
      split at h
      · rename_i hb
        simp only [Bool.and_eq_true] at hb
        have hlt := Nat.blt_eq.mp hb.1
        have he := Nat.eq_of_beq_eq_true hb.2
        subst he
        cases h
        obtain ⟨k, rfl⟩ := nat_spec hix hi
        cases hr with
        | sl hM hl ha hlen hk hu' =>
          have ha' := ha.resolve_left (by omega)
          subst ha'
          have hmul := Nat.mul_le_mul_right es (show ix + 1 ≤ _ from hlt)
          rw [Nat.add_mul, Nat.one_mul] at hmul
          refine ⟨_, .ptr _ es hM (by omega), fun w => ?_⟩
          simp [Instr.indexAt, run_asIntOf, run_underlying hu, run_sizeOf' (posSize_spec hn).1, hlt, Addr.add_lit, Nat.add_assoc]
      · cases h
    · cases h
  · cases h

theorem r_iaarr {t e : TypeId} {es n : Nat} {v i v' : V} {rv ri : Value} (hu : p.underlying t = some (.array n e)) (hn : posSize p e = some es)
    (hr : VRel M v rv) (hi : VRel M i ri) (h : vIaarr es n v i = some v') : PuOk p M v' (Instr.indexAt t rv ri) := by
  unfold vIaarr at h
  split at h
  · split at h
    · rename_i ix hix
      split at h
      · rename_i hb
        simp only [Bool.and_eq_true] at hb
        have hlt := Nat.blt_eq.mp hb.1
        have hroom := Nat.le_of_ble_eq_true hb.2
        cases h
        obtain ⟨k, rfl⟩ := nat_spec hix hi
        cases hr with
        | ptr off room hM hle =>
          have hmul : (ix + 1) * es ≤ n * es := Nat.mul_le_mul_right es hlt
          rw [Nat.add_mul, Nat.one_mul] at hmul
          refine ⟨_, .ptr _ es hM (by omega), fun w => ?_⟩
          simp [Instr.indexAt, run_asIntOf, run_underlying hu, Instr.sureAddr, run_sizeOf' (posSize_spec hn).1, hlt, Addr.add_lit, Nat.add_assoc]
      · cases h
    · cases h
  · cases h

theorem bytesN_length (b : ByteArray) : (bytesN b).length = b.size := by simp [bytesN]
theorem bytesN_get (b : ByteArray) (i : Nat) : (bytesN b)[i]? = (b[i]?).map UInt8.toNat := by
  by_cases h : i < b.size
  · rw [ByteArray.getElem?_lt' b i h]
    have h' : i < b.data.toList.length := by simpa using h
    simp only [bytesN, List.getElem?_map]
    rw [List.getElem?_eq_getElem h']
    rfl
  · rw [ByteArray.getElem?_ge' b i h, List.getElem?_eq_none (by rw [bytesN_length]; omega)]; rfl

theorem r_ixstr {t : TypeId} {v i v' : V} {rv ri : Value} (hu : p.underlying t = some .string) (hr : VRel M v rv) (hi : VRel M i ri) (h : vIxstr v i = some v') : PuOk p M v' (Instr.index t rv ri) := by
  unfold vIxstr at h
  split at h
  · split at h
    · rename_i ix hix
      split at h
      · rename_i b hb
        cases h
        obtain ⟨k, rfl⟩ := nat_spec hix hi
        cases hr with
        | str bs =>
          rw [nthD_eq, bytesN_get, Option.map_eq_some_iff] at hb
          obtain ⟨u, hu', rfl⟩ := hb
          refine ⟨_, .int .u8 _, fun w => ?_⟩
          simp [Instr.index, run_asIntOf, run_underlying hu, hu']
      · cases h
    · cases h
  · cases h

theorem r_ixarr {t e : TypeId} {agg : Bool} {es n : Nat} {v i v' : V} {rv ri : Value} (hu : p.underlying t = some (.array n e)) (ha : isA p e = some agg) (hn : posSize p e = some es)
    (hr : VRel M v rv) (hi : VRel M i ri) (h : vIxarr agg es n v i = some v') : PuOk p M v' (Instr.index t rv ri) := by
  unfold vIxarr at h
  split at h
  · split at h
    · rename_i ix hix
      split at h
      · rename_i hb
        have hlt := Nat.blt_eq.mp hb
        obtain ⟨k, rfl⟩ := nat_spec hix hi
        cases hr with
        | agg hv hl =>
          obtain ⟨rv', h1, h2⟩ := part_rel (.agg hv hl) ha (posSize_spec hn).1 h
          exact ⟨rv', h1, fun w => by simp [Instr.index, run_asIntOf, run_underlying hu, run_sizeOf' (posSize_spec hn).1, hlt, h2]⟩
      · cases h
    · cases h
  · cases h

theorem r_extr {i : Nat} {v v' : V} {rv : Value} (hr : VRel M v rv) (h : zdo i v = some v') : PuOk p M v' (Instr.extract rv i) := by
  unfold zdo at h
  split at h
  · cases hr with
    | tup hv =>
      rw [nthD_eq] at h
      obtain ⟨y, hy, hrel⟩ := hv.get h
      exact ⟨y, hrel, fun w => by simp at hy; simp [Instr.extract, hy]⟩
  · cases h

theorem r_mki {t : TypeId} {d : TypeDesc} {v v' : V} {rv : Value} (hu : p.underlying t = some d) (hd : ∀ ms, d ≠ .interface ms) (hr : VRel M v rv) (h : vMki t v = some v') :
    PuOk p M v' (Instr.makeInterface t rv) := by
  cases h
  refine ⟨_, .ifc hr, fun w => ?_⟩
  simp only [Instr.makeInterface, Sem.run_bind, run_underlying hu, Result.andThen_ok]
  first
    | rfl
    | (split
       · rename_i ms; exact absurd rfl (hd ms)
       · rfl)

theorem r_tassert {t xt : TypeId} {d : TypeDesc} {ok : Bool} {z v v' : V} {rv : Value} (hu : p.underlying t = some d) (hd : ∀ ms, d ≠ .interface ms) (hz : zeroV p t = some z)
    (hr : VRel M v rv) (h : vTassert t z ok v = some v') : PuOk p M v' (Instr.typeAssert rv xt t ok) := by
  obtain ⟨rz, hrz, hzr⟩ := zeroV_rel hz M
  unfold vTassert at h
  split at h
  · rename_i u y
    cases hr with
    | ifc hy =>
      rename_i ry
      split at h
      · rename_i hb
        have := Nat.eq_of_beq_eq_true hb
        subst this
        cases h
        cases ok
        · refine ⟨_, hy, fun w => ?_⟩
          simp only [Instr.typeAssert, Sem.run_bind, run_underlying hu, Result.andThen_ok]
          split <;> simp_all
        · refine ⟨.tuple #[ry, .bool true], .tup (.cons hy (.cons (.bool _) .nil)), fun w => ?_⟩
          simp only [Instr.typeAssert, Sem.run_bind, run_underlying hu, Result.andThen_ok]
          split <;> simp_all
      · rename_i hb
        have hne : u ≠ t := fun e => by subst e; simp at hb
        split at h
        · cases h
          refine ⟨.tuple #[rz, .bool false], .tup (.cons hrz (.cons (.bool _) .nil)), fun w => ?_⟩
          simp only [Instr.typeAssert, Sem.run_bind, run_underlying hu, Result.andThen_ok]
          split <;> simp_all
        · cases h
  · cases hr
    split at h
    · cases h
      refine ⟨.tuple #[rz, .bool false], .tup (.cons hrz (.cons (.bool _) .nil)), fun w => ?_⟩
      simp only [Instr.typeAssert, Sem.run_bind, run_underlying hu, Result.andThen_ok]
      split <;> simp_all
    · cases h
  · cases h

theorem r_lens {t ty : TypeId} {v v' : V} {rv : Value} {ats : Array TypeId} (hat : ats[0]? = some t) (hu : p.underlying t = some .string) (hr : VRel M v rv)
    (h : vLen true v = some v') : PuOk p M v' (Builtin.len_ ats ty #[rv]) := by
  simp only [vLen] at h
  split at h
  · cases h; cases hr with
    | str b => exact ⟨_, .int _ _, fun w => by simp [Builtin.len_, hat, run_underlying hu, goInt, bytesN_length]⟩
  · cases h
theorem r_lenl {t ty e : TypeId} {v v' : V} {rv : Value} {ats : Array TypeId} (hat : ats[0]? = some t) (hu : p.underlying t = some (.slice e)) (hr : VRel M v rv)
    (h : vLen false v = some v') : PuOk p M v' (Builtin.len_ ats ty #[rv]) := by
  simp only [vLen] at h
  split at h
  · cases h; cases hr; exact ⟨_, .int _ _, fun w => by simp [Builtin.len_, hat, run_underlying hu, goInt]⟩
  · cases h; cases hr; exact ⟨_, .int _ _, fun w => by simp [Builtin.len_, hat, run_underlying hu, goInt]⟩
  · cases h
theorem r_cap {t ty e : TypeId} {v v' : V} {rv : Value} {ats : Array TypeId} (hat : ats[0]? = some t) (hu : p.underlying t = some (.slice e)) (hr : VRel M v rv)
    (h : vCap v = some v') : PuOk p M v' (Builtin.cap_ ats ty #[rv]) := by
  unfold vCap at h
  split at h
  · cases h; cases hr; exact ⟨_, .int _ _, fun w => by simp [Builtin.cap_, hat, run_underlying hu, goInt]⟩
  · cases h; cases hr with
    | sl hM hl ha hlen hk hu' =>
      rw [(hk _ rfl).1]
      exact ⟨_, .int _ _, fun w => by simp [Builtin.cap_, hat, run_underlying hu, goInt]⟩
  · cases h
theorem r_min {ty : TypeId} {v u v' : V} {rv ru : Value} {ats : Array TypeId} (hr : VRel M v rv) (hu : VRel M u ru) (h : vMin v u = some v') : PuOk p M v' (Builtin.min_ ats ty #[rv, ru]) := by
  unfold vMin at h
  split at h
  · cases h; cases hr; cases hu
    rename_i k a k' b
    refine ⟨_, .int _ _, fun w => ?_⟩
    simp only [Builtin.min_, List.foldlM_cons, List.foldlM_nil, Builtin.min2, bind_pure, ilt_eq]
    by_cases hb : b < a <;> simp [hb]
  · cases h
theorem r_max {ty : TypeId} {v u v' : V} {rv ru : Value} {ats : Array TypeId} (hr : VRel M v rv) (hu : VRel M u ru) (h : vMax v u = some v') : PuOk p M v' (Builtin.max_ ats ty #[rv, ru]) := by
  unfold vMax at h
  split at h
  · cases h; cases hr; cases hu
    rename_i k a k' b
    refine ⟨_, .int _ _, fun w => ?_⟩
    simp only [Builtin.max_, List.foldlM_cons, List.foldlM_nil, Builtin.max2, bind_pure, ilt_eq]
    by_cases hb : a < b <;> simp [hb]
  · cases h
theorem run_usd {ty : TypeId} {ats : Array TypeId} (a : Addr) (l c : Nat) (hc : c ≠ 0) (w : World) : (Builtin.unsafeSliceData_ ats ty #[.slice (some a) l c]).run p w = .ok (.pointer (some a)) w := by
  have e : Builtin.unsafeSliceData_ ats ty #[.slice (some a) l c] = (do
      if c ≠ 0 then pure (.pointer (some a))
      else if (← viewAt a.block).isSome then pure (.pointer (some a))
      else pure (.pointer (some ⟨← newObj (.view a (← elemOf ty)), 0, none⟩)) : Sem Value) := rfl
  rw [e]; simp [hc]
theorem r_usd {ty : TypeId} {v v' : V} {rv : Value} {ats : Array TypeId} (hr : VRel M v rv) (h : vUsd v = some v') : PuOk p M v' (Builtin.unsafeSliceData_ ats ty #[rv]) := by
  unfold vUsd at h
  split at h
  · cases h; cases hr; exact ⟨_, .pnil, fun w => rfl⟩
  · split at h
    · cases h
    · cases h; cases hr with
      | sl hM hl ha hlen hk hu' =>
        have hrc : ∀ {n rc : Nat}, n + 1 ≤ rc → rc ≠ 0 := fun h => by omega
        have ha' := ha.resolve_left (hrc hlen)
        subst ha'
        refine ⟨_, .ptr _ _ hM hl, fun w => ?_⟩
        exact run_usd _ _ _ (hrc hlen) w
  · cases h

theorem r_cvi {s d : TypeId} {ds : TypeDesc} {k : IntKind} {v v' : V} {rv : Value} (hs : p.underlying s = some ds) (hd : p.underlying d = some (.int k)) (hr : VRel M v rv) (h : vCvi k v = some v') :
    PuOk p M v' (convert s d rv) := by
  unfold vCvi at h
  split at h
  · cases h; cases hr
    exact ⟨_, .int _ _, fun w => by rw [wrapF_eq]; simp [convert, run_underlying hs, run_underlying hd, Conv.intToInt]⟩
  · cases h
theorem r_cvid {s d : TypeId} {ds : TypeDesc} {v v' : V} {rv : Value} (hs : p.underlying s = some ds) (hd : p.underlying d = some .string) (hr : VRel M v rv) (h : vCvid v = some v') :
    PuOk p M v' (convert s d rv) := by
  unfold vCvid at h
  split at h
  · cases h; cases hr
    exact ⟨_, .str _, fun w => by simp [convert, run_underlying hs, run_underlying hd]⟩
  · cases h
theorem r_cvis {s d : TypeId} {ds : TypeDesc} {v v' : V} {rv : Value} (hs : p.underlying s = some ds) (hd : p.underlying d = some .string) (hr : VRel M v rv) (h : vCvis v = some v') :
    PuOk p M v' (convert s d rv) := by
  unfold vCvis at h
  split at h
  · split at h
    · rename_i k n b hb
      have hlt := Nat.blt_eq.mp hb
      cases h; cases hr
      refine ⟨.string ⟨#[UInt8.ofNat n]⟩, ?_, fun w => ?_⟩
      · have : bytesN ⟨#[UInt8.ofNat n]⟩ = [n] := by simp [bytesN]; omega
        rw [← this]; exact .str _
      · have hv : Utf8.valid (n : Int) = true := by simp [Utf8.valid]; omega
        have he : Utf8.encode (n : Int) = ⟨#[UInt8.ofNat n]⟩ := by
          unfold Utf8.encode; simp [hv, show n < 128 from hlt]
        simp [convert, run_underlying hs, run_underlying hd, Conv.intToString, he]
    · cases h
  · cases h

theorem r_un {op : UnOp} {v v' : V} {rv : Value} (hr : VRel M v rv) (h : V.un op v = some v') : PuOk p M v' (Op.unary op rv) := by
  unfold V.un at h
  split at h
  · cases h; cases hr; exact ⟨_, .int _ _, fun w => rfl⟩
  · cases h; cases hr; exact ⟨_, .int _ _, fun w => rfl⟩
  · cases h; cases hr; exact ⟨_, .bool _, fun w => rfl⟩
  · cases h

end Go.Im
namespace Go.Im
variable {p : Program} {M : Mp}

/-! slices -/
theorem bound_none {fr : Fr} {d y n : Nat} (h : bound fr none d y = some n) : n = d := by simp [bound] at h; exact h.symm
theorem bound_some {fr : Fr} {x : X} {d y n : Nat} {r : Value} (h : bound fr (some x) d y = some n) (hr : VRel M (x.ev fr) r) : n ≤ y ∧ ∃ k, r = .int k (Int.ofNat n) := by
  simp only [bound] at h
  split at h
  · split at h
    · rename_i m hm b hb
      cases h
      exact ⟨Nat.le_of_ble_eq_true hb, nat_spec hm hr⟩
    · cases h
  · cases h
theorem run_sliceBound' (k : IntKind) (n y : Nat) (code : BoundsCode) (h : n ≤ y) (w : World) : (Instr.sliceBound (.int k (n : Int)) y code).run p w = .ok n w := by
  have := run_sliceBound (P := p) w k (n : Int) y code (by omega) (by omega)
  simpa using this

/-- options of operands, related -/
def optRel (M : Mp) (fr : Fr) (x : Option X) (r : Option Value) : Prop := match x, r with
  | none, none => True
  | some x, some r => VRel M (x.ev fr) r
  | _, _ => False

theorem bounds_rel {fr : Fr} {lo hi mx : Option X} {rl rh rm : Option Value} {len cap rcap : Nat} {f : Nat → Nat → Nat → V} {v : V} {isS : Bool} (hl : optRel M fr lo rl) (hh : optRel M fr hi rh) (hm : optRel M fr mx rm)
    (h3 : mx.isSome = true → hi.isSome = true) (hcap : cap ≤ rcap) (hc : mx = none → hi = none ∨ True) (hlc : len ≤ cap) (h : bounds3 fr lo hi mx len cap f = some v) :
    ∃ l hh m m', v = f l hh m ∧ l ≤ hh ∧ hh ≤ m ∧ m ≤ cap ∧ (mx = none → m = cap ∧ m' = rcap) ∧ (mx ≠ none → m' = m) ∧ m ≤ m' ∧
      ∀ w, (Instr.sliceBounds isS len rcap rl rh rm).run p w = .ok (l, hh, m') w := by
  unfold bounds3 at h
  split at h
  · rename_i m hm'
    split at h
    · rename_i h' hh'
      split at h
      · rename_i l hl'
        cases h
        -- the upper end
        have hlow : l ≤ h' := by
          cases lo with
          | none => have := bound_none hl'; omega
          | some x => cases rl with
            | none => exact hl.elim
            | some r => exact (bound_some hl' hl).1
        cases mx with
        | some x =>
          cases rm with
          | none => exact hm.elim
          | some r =>
            obtain ⟨hmc, km, rfl⟩ := bound_some hm' hm
            cases hi with
            | none => simp at h3
            | some y =>
              cases rh with
              | none => exact hh.elim
              | some r' =>
                obtain ⟨hhm, kh, rfl⟩ := bound_some hh' hh
                refine ⟨l, h', m, m, rfl, hlow, hhm, hmc, fun e => (by cases e), fun _ => rfl, Nat.le_refl _, fun w => ?_⟩
                cases lo with
                | none =>
                  cases rl with
                  | some _ => exact hl.elim
                  | none =>
                    have := bound_none hl'; subst this
                    simp [Instr.sliceBounds, run_sliceBound' km m rcap _ (by omega), run_sliceBound' kh h' m _ hhm]
                | some z =>
                  cases rl with
                  | none => exact hl.elim
                  | some r'' =>
                    obtain ⟨hlh, kl, rfl⟩ := bound_some hl' hl
                    simp [Instr.sliceBounds, run_sliceBound' km m rcap _ (by omega), run_sliceBound' kh h' m _ hhm, run_sliceBound' kl l h' _ hlh]
        | none =>
          cases rm with
          | some r => exact hm.elim
          | none =>
            have := bound_none hm'; subst this
            have hhm : h' ≤ m := by
              cases hi with
              | none => have := bound_none hh'; omega
              | some y => cases rh with
                | none => exact hh.elim
                | some r' => exact (bound_some hh' hh).1
            refine ⟨l, h', m, rcap, rfl, hlow, hhm, Nat.le_refl _, fun _ => ⟨rfl, rfl⟩, fun e => absurd rfl e, hcap, fun w => ?_⟩
            cases hi with
            | none =>
              cases rh with
              | some _ => exact hh.elim
              | none =>
                have := bound_none hh'; subst this
                cases lo with
                | none =>
                  cases rl with
                  | some _ => exact hl.elim
                  | none => have := bound_none hl'; subst this; simp [Instr.sliceBounds]
                | some z =>
                  cases rl with
                  | none => exact hl.elim
                  | some r'' =>
                    obtain ⟨hlh, kl, rfl⟩ := bound_some hl' hl
                    simp [Instr.sliceBounds, run_sliceBound' kl l h' _ hlh]
            | some y =>
              cases rh with
              | none => exact hh.elim
              | some r' =>
                obtain ⟨_, kh, rfl⟩ := bound_some hh' hh
                cases lo with
                | none =>
                  cases rl with
                  | some _ => exact hl.elim
                  | none => have := bound_none hl'; subst this; simp [Instr.sliceBounds, run_sliceBound' kh h' rcap _ (by omega)]
                | some z =>
                  cases rl with
                  | none => exact hl.elim
                  | some r'' =>
                    obtain ⟨hlh, kl, rfl⟩ := bound_some hl' hl
                    simp [Instr.sliceBounds, run_sliceBound' kh h' rcap _ (by omega), run_sliceBound' kl l h' _ hlh]
      · cases h
    · cases h
  · cases h

theorem run_sliceAt_any {t : TypeId} {d : TypeDesc} (hu : p.underlying t = some d) (hd : ∀ n e, d ≠ .array n e) (x : Value) (lo hi mx : Option Value) (w : World) :
    (Instr.sliceAt t x lo hi mx).run p w = (Instr.slice t x lo hi mx).run p w := by
  simp only [Instr.sliceAt, Sem.run_bind, run_underlying hu, Result.andThen_ok]

theorem bytesN_extract (b : ByteArray) (l h : Nat) : bytesN (b.extract l h) = ((bytesN b).drop l).take (h - l) := by
  simp [bytesN, ByteArray.data_extract]

theorem r_slstr {t : TypeId} {fr : Fr} {x : X} {lo hi : Option X} {rv : Value} {rl rh : Option Value} {v : V} (hu : p.underlying t = some .string) (hr : VRel M (x.ev fr) rv) (hl : optRel M fr lo rl) (hh : optRel M fr hi rh)
    (h : pSlstr x lo hi fr = some v) : PuOk p M v (Instr.sliceAt t rv rl rh none) := by
  unfold pSlstr at h
  split at h
  · rename_i s hs
    rw [hs] at hr
    cases hr with
    | str b =>
      obtain ⟨l, h', m, m', rfl, h1, h2, h3, h4, _, _, hrun⟩ := bounds_rel (p := p) (rcap := (bytesN b).length) (rm := none) (isS := false) hl hh (by trivial) (by simp) (Nat.le_refl _) (fun _ => .inr trivial) (Nat.le_refl _) h
      refine ⟨.string (b.extract l h'), ?_, fun w => ?_⟩
      · rw [ldrop_eq, ← bytesN_extract]; exact .str _
      · rw [bytesN_length] at hrun
        rw [run_sliceAt_any hu (by simp)]
        simp [Instr.slice, run_underlying hu, hrun w]
  · cases h

theorem r_slsl {t e : TypeId} {es : Nat} {fr : Fr} {x : X} {lo hi mx : Option X} {rv : Value} {rl rh rm : Option Value} {v : V} (hu : p.underlying t = some (.slice e)) (hn : posSize p e = some es) (hr : VRel M (x.ev fr) rv)
    (hl : optRel M fr lo rl) (hh : optRel M fr hi rh) (hm : optRel M fr mx rm) (h3 : mx.isSome = true → hi.isSome = true) (h : pSlsl es x lo hi mx fr = some v) : PuOk p M v (Instr.sliceAt t rv rl rh rm) := by
  have hs := (posSize_spec hn).1
  unfold pSlsl at h
  split at h
  · rename_i hx
    rw [hx] at hr
    cases hr
    obtain ⟨l, h', m, m', rfl, h1, h2, h3', h4, h5, _, hrun⟩ := bounds_rel (p := p) (rcap := 0) (isS := true) hl hh hm h3 (Nat.le_refl _) (fun _ => .inr trivial) (Nat.le_refl _) h
    have hm0 : m' = 0 := by
      cases mx with
      | none => exact (h4 rfl).2
      | some y => rw [h5 (by simp)]; omega
    subst hm0
    have : l = 0 := by omega
    subst this
    have : h' = 0 := by omega
    subst this
    exact ⟨_, .snil, fun w => by rw [run_sliceAt_any hu (by simp)]; simp [Instr.slice, run_underlying hu, run_sizeOf' hs, hrun w]⟩
  · rename_i f k off len es' cap hx
    split at h
    · rename_i hb
      have := Nat.eq_of_beq_eq_true hb
      subst this
      rw [hx] at hr
      cases hr with
      | sl hM hl' ha hlen hk hu' =>
        rename_i l rc a
        cases cap with
        | some c =>
          obtain ⟨rfl, hce⟩ := hk c rfl
          obtain ⟨lw, h', m, m', rfl, h1, h2, h3', h4, h5, h6, hrun⟩ := bounds_rel (p := p) (rcap := rc) (isS := true) hl hh hm h3 (Nat.le_refl _) (fun _ => .inr trivial) hlen h
          have hmm : m' = m := by
            cases mx with
            | none => have := h4 rfl; omega
            | some y => exact h5 (by simp)
          subst hmm
          have e1 : lw * es + (h' - lw) * es = h' * es := by rw [← Nat.add_mul]; congr 1; omega
          have e2 : lw * es + (m' - lw) * es = m' * es := by rw [← Nat.add_mul]; congr 1; omega
          have e3 : h' * es ≤ rc * es := Nat.mul_le_mul_right es (by omega)
          have e4 : m' * es ≤ rc * es := Nat.mul_le_mul_right es (by omega)
          refine ⟨.slice (some (if m' = lw then a else a.add (lw * es))) (h' - lw) (m' - lw), .sl hM (by omega) ?_ (by omega) (fun c hc => by cases hc; exact ⟨rfl, by omega⟩) (fun e => by cases e), fun w => ?_⟩
          · by_cases hml : m' = lw
            · exact .inl (by omega)
            · right
              rw [if_neg hml, ha.resolve_left (by omega), Addr.add_lit, Nat.add_assoc]
          · rw [run_sliceAt_any hu (by simp)]
            by_cases hml : m' = lw <;> simp [Instr.slice, run_underlying hu, run_sizeOf' hs, hrun w, hml]
        | none =>
          have hl2 := hu' rfl
          cases mx with
          | some y =>
            obtain ⟨lw, h', m, m', rfl, h1, h2, h3', h4, h5, h6, hrun⟩ := bounds_rel (p := p) (rcap := rc) (isS := true) hl hh hm h3 hlen (fun _ => .inr trivial) (Nat.le_refl _) h
            have hmm := h5 (by simp)
            subst hmm
            have e1 : lw * es + (h' - lw) * es = h' * es := by rw [← Nat.add_mul]; congr 1; omega
            have e2 : lw * es + (m' - lw) * es = m' * es := by rw [← Nat.add_mul]; congr 1; omega
            have e3 : h' * es ≤ len * es := Nat.mul_le_mul_right es (by omega)
            have e4 : m' * es ≤ len * es := Nat.mul_le_mul_right es (by omega)
            refine ⟨.slice (some (if m' = lw then a else a.add (lw * es))) (h' - lw) (m' - lw), .sl hM (by omega) ?_ (by omega) (fun c hc => by cases hc; exact ⟨rfl, by omega⟩) (fun e => by cases e), fun w => ?_⟩
            · by_cases hml : m' = lw
              · exact .inl (by omega)
              · right
                rw [if_neg hml, ha.resolve_left (by omega), Addr.add_lit, Nat.add_assoc]
            · rw [run_sliceAt_any hu (by simp)]
              by_cases hml : m' = lw <;> simp [Instr.slice, run_underlying hu, run_sizeOf' hs, hrun w, hml]
          | none =>
            obtain ⟨lw, h', m, m', rfl, h1, h2, h3', h4, h5, h6, hrun⟩ := bounds_rel (p := p) (rcap := rc) (isS := true) hl hh hm h3 hlen (fun _ => .inr trivial) (Nat.le_refl _) h
            obtain ⟨rfl, rfl⟩ := h4 rfl
            have e1 : lw * es + (h' - lw) * es = h' * es := by rw [← Nat.add_mul]; congr 1; omega
            have e2 : lw * es + (m' - lw) * es = m' * es := by rw [← Nat.add_mul]; congr 1; omega
            have e3 : h' * es ≤ m * es := Nat.mul_le_mul_right es (by omega)
            refine ⟨.slice (some (if m' = lw then a else a.add (lw * es))) (h' - lw) (m' - lw), .sl hM (by omega) ?_ (by omega) (fun c hc => by cases hc) (fun _ => by omega), fun w => ?_⟩
            · by_cases hml : m' = lw
              · exact .inl (by omega)
              · right
                rw [if_neg hml, ha.resolve_left (by omega), Addr.add_lit, Nat.add_assoc]
            · rw [run_sliceAt_any hu (by simp)]
              simp only [Instr.slice, Sem.run_bind, run_underlying hu, run_sizeOf' hs, hrun w, Result.andThen_ok, Sem.run_pure]
              split <;> rfl
    · cases h
  · cases h

theorem r_slarr {t e : TypeId} {es n : Nat} {fr : Fr} {x : X} {lo hi mx : Option X} {rv : Value} {rl rh rm : Option Value} {v : V} (hu : p.underlying t = some (.array n e)) (hn : posSize p e = some es) (hr : VRel M (x.ev fr) rv)
    (hl : optRel M fr lo rl) (hh : optRel M fr hi rh) (hm : optRel M fr mx rm) (h3 : mx.isSome = true → hi.isSome = true) (h : pSlarr es n x lo hi mx fr = some v) : PuOk p M v (Instr.sliceAt t rv rl rh rm) := by
  have hs := (posSize_spec hn).1
  unfold pSlarr at h
  split at h
  · rename_i f k off room hx
    split at h
    · rename_i hb
      have hb := Nat.le_of_ble_eq_true hb
      rw [hx] at hr
      cases hr with
      | ptr _ _ hM hle =>
        rename_i l
        obtain ⟨lw, h', m, m', rfl, h1, h2, h3', h4, h5, h6, hrun⟩ := bounds_rel (p := p) (rcap := n) (isS := false) hl hh hm h3 (Nat.le_refl _) (fun _ => .inr trivial) (Nat.le_refl _) h
        have hmm : m' = m := by
          cases mx with
          | none => have := h4 rfl; omega
          | some y => exact h5 (by simp)
        subst hmm
        have e1 : lw * es + (h' - lw) * es = h' * es := by rw [← Nat.add_mul]; congr 1; omega
        have e2 : lw * es + (m' - lw) * es = m' * es := by rw [← Nat.add_mul]; congr 1; omega
        have e3 : h' * es ≤ n * es := Nat.mul_le_mul_right es (by omega)
        have e4 : m' * es ≤ n * es := Nat.mul_le_mul_right es (by omega)
        refine ⟨.slice (some (if m' = lw then ⟨l.blk, l.base + off, none⟩ else ⟨l.blk, l.base + off + lw * es, none⟩)) (h' - lw) (m' - lw), .sl hM (by omega) ?_ (by omega) (fun c hc => by cases hc; exact ⟨rfl, by omega⟩) (fun e => by cases e), fun w => ?_⟩
        · by_cases hml : m' = lw
          · exact .inl (by omega)
          · right
            rw [if_neg hml, Nat.add_assoc]
        · by_cases hml : m' = lw <;> simp [Instr.sliceAt, Instr.sureAddr, run_underlying hu, run_sizeOf' hs, hrun w, hml, Addr.add_lit]
    · cases h
  · cases h

end Go.Im
