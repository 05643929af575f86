/- A part of the proof that ProofForms holds for every input. -/
import Derived.RangeFuncLeaves
import Derived.Scope
import Derived.RangeFuncRecord
import Derived.OrdersIn
import Derived.Test.YtphcmfmpbndkbaaGreatDoorQ01
set_option maxRecDepth 100000
set_option maxHeartbeats 4000000
set_option linter.all false
noncomputable section
namespace Go.ao
section
variable {p:Program}{M:aW}
def MG(M:aW)(v:V)(n:Next):Prop:=(∃aL,n=.value aL/\bm M v aL)\/(n=.skip/\v=.bk [])
theorem q7.sC{h aa:H}{w:World}{v:V}{s:Sem Value}(aA:q7 p M h w v aa s):∃aT n w',(do pure (.value (<-s)):Sem Next).run p w=.ok n w'/\MG aT v n/\Step p M h w aT aa w':=
 let⟨aT,aL,w',a,b,c⟩:=aA
 ⟨aT,.value aL,w',by simp[a],.inl ⟨aL,rfl,b⟩,c⟩
theorem N8.sC{h aa:H}{w:World}{v:V}{s:Sem Unit}(aA:N8 p M h w v aa s):∃aT n w',(do s;pure .skip:Sem Next).run p w=.ok n w'/\MG aT v n/\Step p M h w aT aa w':=
 let⟨ar,aT,w',a,c⟩:=aA
 ⟨aT,.skip,w',by simp[a],.inr ⟨rfl,ar⟩,c⟩
theorem B3{ρ:Operand->Value}{o:Oper}{b:Builtin}{cT:Array Operand}{dZ:Array TypeId}{s:Array Value->Sem Value}(h1:o.op=.call ⟨.builtin b,cT,dZ⟩)
  (ae:∀La args,builtin b dZ o.type La args=(do pure (.value (<-s args)))) {aD:Array Value} (pd:cT.map ρ=aD) {h aa:H} {w:World} {v:V} (aA:q7 p M h w v aa (s aD)):
  ∃aT n w',(execOp ρ o).run p w=.ok n w'/\MG aT v n/\Step p M h w aT aa w':=by
 subst pd;obtain⟨c,e⟩:=ZG ρ b cT dZ o h1;rw[e,ae];exact aA.sC
theorem aDf{N:Nat}{I:Fr}{a:Act}(aE:iX M N I a.tmps)(aC:g0 p M){w:World}{h aa:H}(r:Rel p M h w.heap){o:Oper}{i:g7}(U:Ct p N o=some i){v:V}(ar:i.f I h=some (v,aa)):
  ∃aT n w',(execOp a.eval o).run p w=.ok n w'/\MG aT v n/\Step p M h w aT aa w':=by
 have X:=fun{x kA} (h:di p N x=some kA)=>wM aE aC h;obtain⟨dst,op,type,pos,after,guard⟩:=o;cases op<;>simp only[Ct]at U
 case store t x y=>
  simp only[df,bK,cN]at U;obtain⟨n,aq,fM,ab,jv,ax,rfl⟩:=U;exact(aFB r aq (X ab) (X ax) ar).sC
 case mapUpdate t m k x=>
  simp only[df,bK]at U;obtain⟨gA,hu,U⟩:=U;split at U
  ·simp only[bK,cN]at U;obtain⟨q,aM,c8,hm,ch,hk,fM,ab,rfl⟩:=U;exact(amI r hu aM (X hm) (X hk) (X ab) ar).sC
  ·cases U
 case insert t m k x=>
  simp only[df,bK]at U;obtain⟨gA,hu,U⟩:=U;split at U
  ·simp only[bK,cN]at U;obtain⟨q,aM,c8,hm,ch,hk,fM,ab,rfl⟩:=U;exact(amI r hu aM (X hm) (X hk) (X ab) ar).sC
  ·cases U
 case range t x=>
  simp only[df,bK]at U;obtain⟨gA,hu,U⟩:=U;split at U
  ·simp only[bK,cN]at U;obtain⟨fM,ab,rfl⟩:=U;exact(aDa r hu (X ab) ar).sC
  ·cases U
 case next it s=>
  simp only[df,bK,cN]at U;obtain⟨fM,ab,rfl⟩:=U;exact(aAv r (X ab) ar).sC
 case entry it=>
  simp only[df,bK,cN]at U;obtain⟨fM,ab,rfl⟩:=U;exact(aFC r (X ab) ar).sC
 case call c=>
  simp only[df,bK]at U;obtain⟨xs,ln,U⟩:=U;obtain⟨callee,xZ,dZ⟩:=c;have one:∀{x:ao.X},xs=[x] ->∃fM,xZ=#[fM]/\di p N fM=some x:=fun{x} e=>by
   subst e;obtain⟨y,ax,ab⟩:=LD ln;exact⟨y,pG (by simpa using ax),ab⟩
  have two:∀{x y:ao.X},xs=[x,y] ->∃fM jv,xZ=#[fM,jv]/\di p N fM=some x/\di p N jv=some y:=fun{x y} e=>by
   subst e;obtain⟨fM,jv,ax,rF,yN⟩:=YB ln;exact⟨fM,jv,pG (by simpa using ax),rF,yN⟩
  split at U
  ·
   rename_i x y jq;obtain⟨fM,jv,rfl,ab,ax⟩:=two rfl;simp only at jq;subst jq;split at U
   ·rename_i lz fk avX;have aAz:dZ=#[lz,fk]:=pG (by simpa using avX)
    subst aAz;simp only[bK]at U;obtain⟨gA,hu,U⟩:=U;split at U
    ·simp only[bK]at U;obtain⟨n,aq,z,aX,U⟩:=U;split at U
     ·rename_i l0;obtain⟨l0,iS⟩:=l0;simp only[bK]at U;obtain⟨aqC,MH,U⟩:=U;split at U
      ·simp only[bK,cN]at U;obtain⟨jI,iR,rfl⟩:=U;exact B3 rfl (fun _ _=>rfl) (by simp) (aDb r iS hu aq aX l0 iR MH (X ab) (X ax) ar)
      ·simp only[bK,cN]at U;obtain⟨jI,iR,rfl⟩:=U;exact B3 rfl (fun _ _=>rfl) (by simp) (akw r iS hu aq aX l0 iR (.inl ⟨_,MH⟩) (X ab) (X ax) ar)
      ·simp only[bK,cN]at U;obtain⟨jI,iR,rfl⟩:=U;exact B3 rfl (fun _ _=>rfl) (by simp) (akw r iS hu aq aX l0 iR (.inr MH) (X ab) (X ax) ar)
      ·cases U
     ·cases U
    ·cases U
   ·cases U
  ·
   rename_i x y jq;obtain⟨fM,jv,rfl,ab,ax⟩:=two rfl;simp only at jq;subst jq;simp only[bK]at U;obtain⟨lz,dU,gA,hu,U⟩:=U;split at U
   ·simp only[bK,cN]at U;obtain⟨n,aq,rfl⟩:=U;exact B3 rfl (fun _ _=>rfl) (by simp) (aDc r dU hu aq (X ab) (X ax) ar)
   ·cases U
  ·
   rename_i x y jq;obtain⟨fM,jv,rfl,ab,ax⟩:=two rfl;simp only at jq;subst jq;simp only[bK]at U;obtain⟨lz,dU,gA,hu,U⟩:=U;split at U
   ·simp only[bK,cN]at U;obtain⟨q,aM,rfl⟩:=U;exact B3 rfl (fun _ _=>rfl) (by simp) (aAu r dU hu aM (X ab) (X ax) ar)
   ·cases U
  ·
   rename_i x jq;obtain⟨fM,rfl,ab⟩:=one rfl;simp only at jq;subst jq;simp only[bK]at U;obtain⟨lz,dU,gA,hu,U⟩:=U;split at U
   ·cases U;exact B3 rfl (fun _ _=>rfl) (by simp) (aC9 r dU hu (X ab) ar)
   ·simp only[bK]at U;obtain⟨z,aX,n,aq,U⟩:=U;split at U
    ·rename_i l0;cases U;exact B3 rfl (fun _ _=>rfl) (by simp) (aDd r dU hu aq aX l0 (X ab) ar)
    ·cases U
   ·cases U
  ·
   rename_i x y jq;obtain⟨fM,jv,rfl,ab,ax⟩:=two rfl;simp only at jq;subst jq;simp only[bK]at U;obtain⟨lz,dU,gA,hu,U⟩:=U;split at U
   ·simp only[bK]at U;obtain⟨n,aq,U⟩:=U;split at U
    ·cases U;exact B3 rfl (fun _ _=>rfl) (by simp) (aDe r dU hu aq (X ab) (X ax) ar)
    ·cases U
   ·cases U
  ·cases U
 all_goals cases U
end
abbrev P4:=@Classical.choose_spec
abbrev vi:=@Go.wpIn_mono
section
variable {p:Program}
theorem least{q:Nat->Prop}(h:∃n,q n):∃n,q n/\∀m,q m->n<=m:=by
 obtain⟨n,aq⟩:=h
 induction n using Nat.strongRecOn with
 |_ n ih=>
  by_cases hm:∃m,m<n/\q m
  ·obtain⟨m,ay,aM⟩:=hm;exact ih m ay aM
  ·exact⟨n,aq,fun m aM=>BA fun ay=>hm ⟨m,ay,aM⟩⟩
open Classical in
theorem apq{F:Fence}{n:Nat}{c:Code}{Q:Exit->Act->World->Prop}(nZ:Nat->Act->World->Prop){k:Nat}{a:Act}{w:World}(av:nZ k a w)
  (round:∀m a w,nZ m a w->c.wpIn F n p (Exit.then (fun fG w'=>∃c8,c8<m/\nZ c8 fG w') Q) a w):(Code.loop c).wpIn F n p Q a w:=by
 let lx:Act->World->Nat:=fun a w=>if h:∃m,nZ m a w then Classical.choose (least h)else 0
 refine wpIn_loop (fun a w=>∃m,nZ m a w) lx ⟨k,av⟩ fun a w h=>?_;obtain⟨sq,J3⟩:=P4 (least h);have apC:lx a w=Classical.choose (least h):=dif_pos h;refine vi (round _ a w sq) fun e fG w' aM=>?_;cases e with
 |normal=>
  obtain⟨c8,ay,aaY⟩:=aM;have aa:∃m,nZ m fG w':=⟨c8,aaY⟩;refine⟨aa,?_⟩;have aqD:lx fG w'=Classical.choose (least aa):=dif_pos aa;obtain⟨_,aAA⟩:=P4 (least aa);rw[apC,aqD];exact Nat.lt_of_le_of_lt (aAA c8 aaY) ay
 |_=>exact aM
section
variable {b:Frame}{a:Act}{k:List Item}{cs:List Frame}{w:World}
theorem Hw{c:Code}:step p (lone (b.atR a (.code (.scope c)::k)) cs w)=.next (lone (b.atR a (.code c::.inScope c::k)) cs w):=
 step_lone_go (by simp[stepG,stepG.exec,Frame.atR])
theorem aL6{c:Code}:step p (lone (b.atR a (.inScope c::k)) cs w)=.next (lone (b.atR a k) cs w):=
 step_lone_go (by simp[stepG,stepG.exec,Frame.atR])
end
theorem aKJ{F:Fence}{n:Nat}{Q:Exit->Act->World->Prop}{a:Act}{w:World}{c:Code}(h:c.wpIn F n p (Exit.noGoto Q) a w):(Code.scope c).wpIn F n p Q a w:=by
 intro b k cs pc ah aI;have av:(lone (b.atR a (.code (.scope c)::k)) cs w).fenced p F:=fenced_calm ah aI rfl;obtain⟨e,HL,HM,aM,rT⟩:=h b (.inScope c::k) cs pc ah aI;have ab:∀id,exitTo id (.inScope c::k)=exitTo id k:=fun id=>by simp[exitTo]
 cases e with
 |normal=>exact⟨.normal,HL,HM,aM,.head av Hw (StepsIn.trans rT (.one (fenced_calm ah aI rfl) aL6))⟩
 |exit id=>
  exact⟨.exit id,HL,HM,aM,fun ch hk=>.head av Hw (rT.1 ch (by rw[ab];exact hk)),
   fun oJ hk=>let⟨k₁,h1,ae⟩:=rT.2 oJ (by rw[ab];exact hk);⟨k₁,h1,.head av Hw ae⟩⟩
 |goto l=>exact aM.elim
 |ret=>exact⟨_,HL,HM,aM,.of_steps (.one av Hw) rT⟩
 |panic yq=>exact⟨_,HL,HM,aM,.of_steps (.one av Hw) rT⟩
 |outgrown=>exact⟨_,HL,HM,aM,.of_steps (.one av Hw) rT⟩
inductive x0 (M:aW):dB->List Deferred->Prop
 |nil:x0 M [] []
 |mark {ds:dB} {pg:List Deferred} (r:Nat) (t:x0 M ds pg):x0 M ds ({target:=.collected r,args:=#[]}::pg)
 |call {ds:dB} {pg:List Deferred} {g:Fn} {first cap args:List V} {nL dV:Array Value} (U:dq M cap nL.toList) (bN:dq M (first++args) dV.toList) (t:x0 M ds pg):
   x0 M ((.fn g first cap,args)::ds) ({target:=.fn g nL,args:=dV}::pg)
theorem x0.mono{M aT:aW}(hm:M.le aT){ds:dB}{pg:List Deferred}(h:x0 M ds pg):x0 aT ds pg:=by
 induction h with
 |nil=>exact .nil
 |mark r _ ih=>exact .mark r ih
 |call U bN _ ih=>exact .call (U.mono hm) (bN.mono hm) ih
def ot:List Deferred->List Nat
 |[]=>[]
 |d::ds=>match d.target with
  |.collected r=>r::ot ds
  |_=>ot ds
def wR(M:aW)(h:H)(w:World)(b2 r:Nat):Prop:=w.heap[r]?=some (.deferred (some []))/\b2<=r/\∀f k l,h.dE f k->M f k=some l->l.bS≠r
theorem wR.step{M aT:aW}{h aa:H}{w w':World}{b2 r:Nat}(m:wR M h w b2 r)(s:Step p M h w aT aa w'):wR aT aa w' b2 r:=by
 obtain⟨h1,ae,az⟩:=m;have ay:r<w.heap.size:=by
  rcases dz r w.heap.size with h|h
  ·exact h
  ·rw[vd h]at h1;cases h1
 refine⟨by rw[s.s8 r ay fun f k l hw e=>az f k l hw.1 e];exact h1,ae,fun f k l au e=>?_⟩;rcases s.u1 f k l au e with h|⟨g,j,m,a,b,c⟩
 ·omega
 ·rw[<-c];exact az g j m a b
structure hl(M:aW)(N b2:Nat)(s:eM)(a:Act)(w:World):Prop where
 I:iX M N s.I a.tmps
 ds:x0 M s.ds a.defers
 marks:∀r∈ot a.defers,wR M s.h w b2 r
 nodup:(ot a.defers).Nodup
def gy(p:Program)(M:aW)(h:H)(w:World)(N b2:Nat):Out->Exit->Act->World->Prop
 |.norm s,.normal,a,w'=>∃aT,Step p M h w aT s.h w'/\hl aT N b2 s a w'
 |.exit i s,.exit j,a,w'=>i=j/\∃aT,Step p M h w aT s.h w'/\hl aT N b2 s a w'
 |.goto i s,.goto j,a,w'=>i=j/\∃aT,Step p M h w aT s.h w'/\hl aT N b2 s a w'
 |.ret s,.ret,a,w'=>∃aT,Step p M h w aT s.h w'/\hl aT N b2 s a w'
 |_,_,_,_=>False
theorem gy.trans {M hZ:aW}{h h1:H}{w b5:World}{N b2:Nat}(s1:Step p M h w hZ h1 b5){o:Out}{e:Exit}{a:Act}{d7:World}(q:gy p hZ h1 b5 N b2 o e a d7):gy p M h w N b2 o e a d7:=by
 cases o<;>cases e<;>simp only[gy]at q⊢<;>
  first
   |exact q.elim
   |exact let⟨aT,a,b⟩:=q;⟨aT,s1.trans a,b⟩
   |exact let⟨e,aT,a,b⟩:=q;⟨e,aT,s1.trans a,b⟩
def gR(ro:Option Nat):Fence:={Fence.wide with round:=ro}
def vf(p:Program)(J:Prog)(k:Nat):Prop:=∀(ro:Option Nat) (N:Nat) (c:Code) (s:eM) (out:Out),exec J k (gJ p N ro.isSome c) s=out->out≠.no->
 ∀(M:aW) (a:Act) (w:World) (b2:Nat),g0 p M->Rel p M s.h w.heap->hl M N b2 s a w->b2<=w.heap.size->c.wpIn (gR ro) 0 p (gy p M s.h w N b2 out) a w
theorem aFF{J:Prog}{ro:Option Nat}{N:Nat}{s:eM}{M:aW}{a:Act}{w:World}{b2:Nat}(r:Rel p M s.h w.heap)(aA:hl M N b2 s a w):Code.skip.wpIn (gR ro) 0 p (gy p M s.h w N b2 (W1 (exec J 0) J s)) a w:=
 wpIn_skip ⟨M,.refl r rfl rfl rfl rfl,aA⟩
theorem aDg{J:Prog}{k:Nat}(ih:vf p J k){ro:Option Nat}{N:Nat}{x y:Code}{s:eM}{out:Out}(he:U8 (gJ p N ro.isSome x) (gJ p N ro.isSome y) (exec J k) J s=out)(db:out≠.no)
  {M:aW} {a:Act} {w:World} {b2:Nat} (aC:g0 p M) (r:Rel p M s.h w.heap) (aA:hl M N b2 s a w) (ah:b2<=w.heap.size):(Code.seq x y).wpIn (gR ro) 0 p (gy p M s.h w N b2 out) a w:=by
 unfold U8 at he;refine wpIn_seq ?_;generalize ab:exec J k (gJ p N ro.isSome x) s=pR at he;have vL: pR≠.no:=fun e=>by subst e;exact db he.symm
 refine vi (ih ro N x s pR ab vL M a w b2 aC r aA ah) fun e bJ b5 q=>?_;cases pR with
 |no=>exact absurd rfl vL
 |norm s1=>
  cases e<;>simp only[gy]at q<;>first|exact q.elim|skip
  obtain⟨hZ,st,hz⟩:=q;exact vi (ih ro N y s1 out he db hZ bJ b5 b2 (aC.mono st.mono) st.rel hz (iK ah st.size)) fun e g8 d7 q=>q.trans st
 |exit i s1=>subst he;cases e<;>simp only[gy]at q<;>first|exact q.elim|exact q
 |goto i s1=>subst he;cases e<;>simp only[gy]at q<;>first|exact q.elim|exact q
 |ret s1=>subst he;cases e<;>simp only[gy]at q<;>first|exact q.elim|exact q
theorem aFG{J:Prog}{k:Nat}(ih:vf p J k){ro:Option Nat}{N:Nat}{q:Operand}{x y:Code}{kA:X}(qI:di p N q=some kA){s:eM}{out:Out}
  (he:W2 kA (gJ p N ro.isSome x) (gJ p N ro.isSome y) (exec J k) J s=out) (db:out≠.no)
  {M:aW} {a:Act} {w:World} {b2:Nat} (aC:g0 p M) (r:Rel p M s.h w.heap) (aA:hl M N b2 s a w) (ah:b2<=w.heap.size):(Code.cond q x y).wpIn (gR ro) 0 p (gy p M s.h w N b2 out) a w:=by
 unfold W2 at he;have aI:=wM aA.I aC qI;split at he
 ·rename_i ar;rw[ar]at aI;have:a.eval q=.bool true:=by generalize a.eval q=z at aI;cases aI;rfl
  exact wpIn_cond_true this (ih ro N x s out he db M a w b2 aC r aA ah)
 ·rename_i ar;rw[ar]at aI;have:a.eval q=.bool false:=by generalize a.eval q=z at aI;cases aI;rfl
  exact wpIn_cond_false this (ih ro N y s out he db M a w b2 aC r aA ah)
 ·exact absurd he.symm db
theorem aHY{J:Prog}{k:Nat}(ih:vf p J k){ro:Option Nat}{N id:Nat}{x:Code}{s:eM}{out:Out}(he:XA id (gJ p N ro.isSome x) (exec J k) J s=out)(db:out≠.no)
  {M:aW} {a:Act} {w:World} {b2:Nat} (aC:g0 p M) (r:Rel p M s.h w.heap) (aA:hl M N b2 s a w) (ah:b2<=w.heap.size):(Code.block id x).wpIn (gR ro) 0 p (gy p M s.h w N b2 out) a w:=by
 unfold XA at he;refine wpIn_block ?_;generalize ab:exec J k (gJ p N ro.isSome x) s=pR at he;have vL: pR≠.no:=fun e=>by subst e;exact db he.symm
 refine vi (ih ro N x s pR ab vL M a w b2 aC r aA ah) fun e bJ b5 q=>?_;cases pR with
 |no=>exact absurd rfl vL
 |norm s1=>subst he;cases e<;>simp only[gy]at q<;>first|exact q.elim|exact q
 |exit i s1=>
  cases e<;>simp only[gy]at q<;>first|exact q.elim|skip
  rename_i j;obtain⟨rfl,q⟩:=q;simp only[Exit.inBlock];simp only at he;split at he
  ·rename_i ah;have:=dI ah;subst this he;rw[bl rfl];exact q
  ·rename_i ah;subst he;rw[bf (fun e=>by subst e;rw[BC]at ah;cases ah)];exact⟨rfl,q⟩
 |goto i s1=>subst he;cases e<;>simp only[gy]at q<;>first|exact q.elim|exact q
 |ret s1=>subst he;cases e<;>simp only[gy]at q<;>first|exact q.elim|exact q
theorem aFH{ro:Option Nat}{N id:Nat}{s:eM}{M:aW}{a:Act}{w:World}{b2:Nat}(r:Rel p M s.h w.heap)(aA:hl M N b2 s a w):(Code.exit id).wpIn (gR ro) 0 p (gy p M s.h w N b2 (.exit id s)) a w:=
 wpIn_exit ⟨rfl,M,.refl r rfl rfl rfl rfl,aA⟩
theorem aFI{ro:Option Nat}{N id:Nat}{s:eM}{M:aW}{a:Act}{w:World}{b2:Nat}(r:Rel p M s.h w.heap)(aA:hl M N b2 s a w):(Code.goto id).wpIn (gR ro) 0 p (gy p M s.h w N b2 (.goto id s)) a w:=
 wpIn_goto ⟨rfl,M,.refl r rfl rfl rfl rfl,aA⟩
theorem aDh{ro:Option Nat}{N:Nat}{s:eM}{M:aW}{a:Act}{w:World}{b2:Nat}(r:Rel p M s.h w.heap)(aA:hl M N b2 s a w):Code.ret.wpIn (gR ro) 0 p (gy p M s.h w N b2 (.ret s)) a w:=
 wpIn_ret ⟨M,.refl r rfl rfl rfl rfl,aA⟩
theorem aHZ{ro:Option Nat}{N l:Nat}{s:eM}{M:aW}{a:Act}{w:World}{b2:Nat}(r:Rel p M s.h w.heap)(aA:hl M N b2 s a w):(Code.label l).wpIn (gR ro) 0 p (gy p M s.h w N b2 (.norm s)) a w:=
 wpIn_label ⟨M,.refl r rfl rfl rfl rfl,aA⟩
theorem aH0{J:Prog}{k:Nat}(ih:vf p J k){ro:Option Nat}{N:Nat}{x:Code}{s:eM}{out:Out}(he:XB (gJ p N ro.isSome x) (exec J k) J s=out)(db:out≠.no)
  {M:aW} {a:Act} {w:World} {b2:Nat} (aC:g0 p M) (r:Rel p M s.h w.heap) (aA:hl M N b2 s a w) (ah:b2<=w.heap.size):(Code.scope x).wpIn (gR ro) 0 p (gy p M s.h w N b2 out) a w:=by
 unfold XB at he;refine aKJ ?_;generalize ab:exec J k (gJ p N ro.isSome x) s=pR at he;have vL: pR≠.no:=fun e=>by subst e;exact db he.symm
 refine vi (ih ro N x s pR ab vL M a w b2 aC r aA ah) fun e bJ b5 q=>?_;cases pR with
 |no=>exact absurd rfl vL
 |goto i s1=>exact absurd he.symm db
 |norm s1=>subst he;cases e<;>simp only[gy]at q<;>first|exact q.elim|exact q
 |exit i s1=>subst he;cases e<;>simp only[gy]at q<;>first|exact q.elim|exact q
 |ret s1=>subst he;cases e<;>simp only[gy]at q<;>first|exact q.elim|exact q
theorem aFJ{J:Prog}{k:Nat}(ih:∀j,j<=k->vf p J j){ro:Option Nat}{N:Nat}{x:Code}{s:eM}{out:Out}(he:exec J (k+1) (.loop (gJ p N ro.isSome x)) s=out)(db:out≠.no)
  {M:aW} {a:Act} {w:World} {b2:Nat} (aC:g0 p M) (r:Rel p M s.h w.heap) (aA:hl M N b2 s a w) (ah:b2<=w.heap.size):(Code.loop x).wpIn (gR ro) 0 p (gy p M s.h w N b2 out) a w:=by
 refine apq (fun m bJ b5=>m<=k+1/\∃s1 hZ,exec J m (.loop (gJ p N ro.isSome x)) s1=out/\Step p M s.h w hZ s1.h b5/\hl hZ N b2 s1 bJ b5) (k:=k+1)
  ⟨a1 _,s,M,he,.refl r rfl rfl rfl rfl,aA⟩ fun m bJ b5 ⟨hm,s1,hZ,yQ,st,hz⟩=>?_
 cases m with
 |zero=>exact absurd (yQ.symm.trans rfl) db
 |succ m=>
  have tJ:W3 (gJ p N ro.isSome x) (exec J m) J s1=out:=yQ;unfold W3 at tJ;generalize ab:exec J m (gJ p N ro.isSome x) s1=pR at tJ;have vL: pR≠.no:=fun e=>by subst e;exact db tJ.symm
  refine vi (ih m (by omega) ro N x s1 pR ab vL hZ bJ b5 b2 (aC.mono st.mono) st.rel hz (iK ah st.size)) fun e g8 d7 q=>?_;cases pR with
  |no=>exact absurd rfl vL
  |norm s2=>
   cases e<;>simp only[gy]at q<;>first|exact q.elim|skip
   obtain⟨sp,st2,j6⟩:=q;exact⟨m,by omega,by omega,s2,sp,tJ,st.trans st2,j6⟩
  |exit i s2=>subst tJ;cases e<;>simp only[gy]at q<;>first|exact q.elim|exact gy.trans st (o:=.exit i s2) (e:=.exit _) q
  |goto i s2=>subst tJ;cases e<;>simp only[gy]at q<;>first|exact q.elim|exact gy.trans st (o:=.goto i s2) (e:=.goto _) q
  |ret s2=>subst tJ;cases e<;>simp only[gy]at q<;>first|exact q.elim|exact gy.trans st (o:=.ret s2) (e:=.ret) q
end
abbrev BI:=@Go.Oper.semAt_eq
section
variable {p:Program}
def PI(p:Program)(M:aW)(h:H)(w:World)(N b2:Nat)(rest:Fr->H->dB->Out)(out:Out)(fG:Act)(w':World):Prop:=
 ∃aQ aa gG aT,rest aQ aa gG=out/\Step p M h w aT aa w'/\hl aT N b2 ⟨aQ,gG,aa⟩ fG w'
theorem YU{N:Nat}{t:Option Nat}{d:Option S}(h:zg N t=some d):(t=none/\d=none)\/∃n,t=some n/\n<N/\d=some (a0 n):=by
 cases t with
 |none=>cases h;exact .inl ⟨rfl,rfl⟩
 |some n=>
  simp only[zg]at h;split at h
  ·rename_i aq;cases h;exact .inr ⟨n,rfl,aq,rfl⟩
  ·cases h
theorem amJ{M:aW}{N:Nat}{I:Fr}{a:Act}{t:Option Nat}{d:Option S}(a3:zg N t=some d)(aE:iX M N I a.tmps){v:V}{aL:Value}(ar:bm M v aL):iX M N (cX d v I) (a.put t aL).tmps:=by
 rcases YU a3 with⟨rfl,rfl⟩|⟨n,rfl,aq,rfl⟩
 ·exact aE
 ·exact aE.set aq ar
theorem hl.put{M:aW}{N b2:Nat}{I:Fr}{ds:dB}{h:H}{a:Act}{w:World}{t:Option Nat}{d:Option S}(a3:zg N t=some d)(aA:hl M N b2 ⟨I,ds,h⟩ a w){v:V}{aL:Value}(ar:bm M v aL):
  hl M N b2 ⟨cX d v I,ds,h⟩ (a.put t aL) w:=by
 have e:(a.put t aL).defers=a.defers:=by cases t<;>rfl
 exact⟨amJ a3 aA.I ar,by rw[e];exact aA.ds,by rw[e];exact aA.marks,by rw[e];exact aA.nodup⟩
theorem hl.step{M aT:aW}{N b2:Nat}{I:Fr}{ds:dB}{h aa:H}{a:Act}{w w':World}(aA:hl M N b2 ⟨I,ds,h⟩ a w)(st:Step p M h w aT aa w'):hl aT N b2 ⟨I,ds,aa⟩ a w':=
 ⟨aA.I.mono st.mono,aA.ds.mono st.mono,fun r aI=>(aA.marks r aI).step st,aA.nodup⟩
theorem t2.step{M:aW}{h:H}{w:World}(r:Rel p M h w.heap){cL:O}{g:P->V}{s:Sem Value}(hm:t2 p M cL g s):∃aT aL w',(do pure (.value (<-s)):Sem Next).run p w=.ok (.value aL) w'/\Step p M h w aT (h.new cL) w'/\bm aT (g h.next) aL:=by
 obtain⟨o,ext,lim,aL,w',h1,ae,az,bo,cb,dM⟩:=hm.value w;obtain⟨bj,a8⟩:=dM h.next (M.add h.next 0 ⟨w.heap.size,0,ext,lim⟩) (aW.qo (r.sk 0)) (aW.add_same _ _ _ _)
 exact⟨_,aL,w',h1,Hg r rfl a8 ae az bo cb,bj⟩
def KT(p:Program)(ro:Option Nat)(o:Oper)(a:Act)(w:World)(R:Value->World->Prop):Prop:=
 ∃n b5,(execOp a.eval o).run p w=.ok n b5/\match n with
  |.value v=>R v b5
  |.enter f args=>CallsIn (gR ro) 0 p f args b5 fun e w'=>∃v,e=.returned v/\R v w'
  |.round l f tmps assign body=>RoundIn (gR ro) 0 p l f tmps assign body b5 fun e w'=>∃v,e=.returned v/\R v w'
  |_=>False
theorem KT.wp{ro:Option Nat}{o:Oper}{a:Act}{w:World}{K:Act->World->Prop}{Q:Exit->Act->World->Prop}(uK:∀c,o.op≠.defer c)(h:KT p ro o a w fun v w'=>K (a.put o.dst v) w'):o.wpIn (gR ro) 0 p a w K Q:=by
 obtain⟨n,b5,h1,ae⟩:=h;refine⟨fun _ _=>trivial,?_⟩;rw[BI _ _ _ uK,h1];cases n<;>simp only at ae<;>first|exact ae.elim|skip
 ·exact ae
 ·refine⟨fun h=>by simp[gR,Fence.wide]at h,ae.mono fun e w' ⟨v,he,dP⟩=>?_⟩;subst he;exact dP
 ·refine⟨fun h=>by simp[gR,Fence.wide]at h,ae.mono fun e w' ⟨v,he,dP⟩=>?_⟩;subst he;exact dP
def Ea(p:Program)(call:iy):Prop:=∀(ro:Option Nat) (o:Oper) (c:Call) (f:Operand) (a:Act) (HN:V) (aF:List V) (h aa:H) (v:V) (M:aW) (w:World),o.op=.call c->c.callee=.value f->
 bm M HN (a.eval f) ->dq M aF (c.args.toList.map a.eval) ->g0 p M->Rel p M h w.heap->call HN aF h=some (v,aa) ->
 KT p ro o a w fun aL w'=>∃aT,Step p M h w aT aa w'/\bm aT v aL
theorem aps{N:Nat}{o:Oper}:(∀i,An p N o=some i->∀c,o.op≠.defer c)/\(∀i,Ao p N o=some i->∀c,o.op≠.defer c)/\(∀i,Ap p N o=some i->∀c,o.op≠.defer c)/\(∀i,Ct p N o=some i->∀c,o.op≠.defer c):=by
 obtain⟨dst,op,type,pos,after,guard⟩:=o;refine⟨fun i h c e=>?_,fun i h c e=>?_,fun i h c e=>?_,fun i h c e=>?_⟩<;>
  (simp only at e;subst e;first|(simp[An]at h;done)|(simp[Ao]at h;done)|(simp[Ap]at h;done)|(simp[Ct]at h;done))
theorem alj{J:Prog}{call:iy}(ni:Ea p call){ro:Option Nat}{N:Nat}{o:Oper}{d:Option S}(a3:zg N o.dst=some d){I:Fr}{h:H}{ds:dB}{rest:Fr->H->dB->Out}{out:Out}
  (he:(sB p N ro.isSome o).k J call I h ds (KP d rest I)=out) (db:out≠.no) {M:aW} {a:Act} {w:World} {b2:Nat} (aC:g0 p M) (r:Rel p M h w.heap) (aA:hl M N b2 ⟨I,ds,h⟩ a w) (Q:Exit->Act->World->Prop):
  o.wpIn (gR ro) 0 p a w (PI p M h w N b2 rest out) Q:=by
 obtain⟨RX,RY,RZ,R0⟩:=aps (p:=p) (N:=N) (o:=o);have val:∀{aT:aW} {aa:H} {v:V} {aL:Value} {w':World},(∀c,o.op≠.defer c) ->(execOp a.eval o).run p w=.ok (.value aL) w'->rest (cX d v I) aa ds=out->Step p M h w aT aa w'->bm aT v aL->
   o.wpIn (gR ro) 0 p a w (PI p M h w N b2 rest out) Q:=fun{aT aa v aL w'} uK d0 zz st ar=>by
  refine⟨fun _ _=>trivial,?_⟩;rw[BI _ _ _ uK,d0];exact⟨_,_,_,aT,zz,st,(aA.step st).put a3 ar⟩
 unfold sB at he;split at he
 ·rename_i i ai;simp only[bn.k,Mx]at he;cases ar:i.f I with
  |none=>rw[ar]at he;exact absurd he.symm db
  |some v=>
   rw[ar]at he;obtain⟨aL,h1,ae⟩:=ale aA.I aC ai ar;exact val (RX i ai) (ae w) he (.refl r rfl rfl rfl rfl) h1
 ·split at he
  ·rename_i i ai;simp only[bn.k,RG]at he;cases ar:i.f I h with
   |none=>rw[ar]at he;exact absurd he.symm db
   |some v=>
    rw[ar]at he;obtain⟨aL,h1,ae⟩:=alg aA.I aC r ai ar;exact val (RY i ai) ae he (.refl r rfl rfl rfl rfl) h1
  ·split at he
   ·rename_i i ai;simp only[bn.k,My]at he;split at he
    ·rename_i cL g ar;obtain⟨s,hm,ab⟩:=alh aA.I aC ai ar;obtain⟨aT,aL,w',bj,a8,cc⟩:=hm.step r;exact val (RZ i ai) (by rw[ab];exact bj) he a8 cc
    ·exact absurd he.symm db
   ·split at he
    ·rename_i i ai;simp only[bn.k,Ir]at he;split at he
     ·rename_i v aa ar;obtain⟨aT,n,w',bj,a8,cc⟩:=aDf aA.I aC r ai ar;rcases a8 with⟨aL,rfl,n8⟩|⟨rfl,rfl⟩
      ·exact val (R0 i ai) bj he cc n8
      ·refine⟨fun _ _=>trivial,?_⟩;rw[BI _ _ _ (R0 i ai),bj];exact⟨_,_,_,aT,he,cc,(aA.step cc).put a3 (bm.undef aT)⟩
     ·exact absurd he.symm db
    ·split at he
     ·rename_i f args dZ cw;split at he
      ·rename_i jw Pd ll Eb;simp only[bn.k,KO]at he;split at he
       ·rename_i v aa ar;have:=ni ro o _ f a _ _ h aa v M w cw rfl (wM aA.I aC ll) (Ll aA.I aC _ Eb) aC r ar;refine KT.wp (fun c e=>by rw[cw]at e;cases e) ?_;obtain⟨n,b5,bj,a8⟩:=this;have fin:∀aL w',(∃aT,Step p M h w aT aa w'/\bm aT v aL) ->PI p M h w N b2 rest out (a.put o.dst aL) w':=fun aL w' ⟨aT,st,kF⟩=>⟨_,_,_,aT,he,st,(aA.step st).put a3 kF⟩;refine⟨n,b5,bj,?_⟩;cases n<;>simp only at a8<;>first|exact a8.elim|skip
        ·exact fin _ _ a8
        ·exact a8.mono fun e w' ⟨aL,aN,bd⟩=>⟨aL,aN,fin _ _ bd⟩
        ·exact a8.mono fun e w' ⟨aL,aN,bd⟩=>⟨aL,aN,fin _ _ bd⟩
       ·exact absurd he.symm db
      ·exact absurd he.symm db
     ·rename_i f args dZ cw;split at he
      ·rename_i jw Pd pc ll Eb;simp only[bn.k,K6]at he;split at he
       ·rename_i g first cap sG
        have R1:=wM aA.I aC ll;rw[sG]at R1;have IH:=Ll aA.I aC _ Eb;have Vj:ro=none:=by cases ro<;>simp_all
        subst Vj;generalize aM:a.eval f=q at R1;cases R1 with
        |fn R2 aqE=>
         rename_i hq gW;refine⟨fun _ _=>trivial,?_⟩;have d0:(o.semAt (gR none).round a.eval).run p w=.ok (.defer {target:=.fn g gW,args:=hq++args.map a.eval}) w:=by
          show(execOp a.eval o).run p w=_;unfold execOp;rw[cw];simp[resolve,aM,Deferred.ofValue]
         rw[d0];have Vk:∀(fG:Act),hl M N b2 ⟨I,(.fn g first cap,hc I Pd)::ds,h⟩ fG w->PI p M h w N b2 rest out (fG.put o.dst undef) w:=fun fG oK=>
          ⟨_,_,_,M,he,.refl r rfl rfl rfl rfl,oK.put a3 (bm.undef M)⟩
         refine Vk {a with defers:={target:=.fn g gW,args:=hq++args.map a.eval}::a.defers} ⟨aA.I,?_,aA.marks,aA.nodup⟩;exact .call aqE (by simpa using R2.append IH) aA.ds
       ·exact absurd he.symm db
      ·exact absurd he.symm db
     ·exact absurd he.symm db
theorem aKK{M:aW}{v:V}{aL:Value}(ar:bm M v aL){b c:Bool}(h:x4 v b=some c):((match aL with|.bool x=>some x|_=>none:Option Bool)==some b)=c:=by
 unfold x4 at h;split at h
 ·cases h;cases ar;rfl
 ·cases h
 ·rename_i h1 ae;cases h;cases ar with
  |bool x=>exact absurd rfl (h1 x)
  |fO _=>exact absurd rfl ae
  |_=>rfl
theorem LI{M:aW}{N:Nat}{ops:Array Oper}{o:Oper}{io:bH}{r:Bool}(dS:xg p N r ops o=some io){I:Fr}{a:Act}(aE:iX M N I a.tmps):
  zg N o.dst=some io.dst/\io.op=sB p N r o/\∀c,wanted io.guard I=some c->Region.wanted o (yielded ops a.tmps)=c:=by
 unfold xg at dS;cases qV:o.guard with
 |none=>
  simp only[qV,df,bK,cN]at dS;obtain⟨g,rfl,d,a3,rfl⟩:=dS;exact⟨a3,rfl,fun c h=>by cases h;simp[Region.wanted,qV]⟩
 |some g=>
  obtain⟨j,b⟩:=g;simp only[qV]at dS;cases bp:(ops[j]?).bind (·.dst)with
  |none=>simp[bp]at dS
  |some t=>
   simp only[bp]at dS;by_cases ay:t<N
   ·simp only[ay,qt,df,bK,cN]at dS;obtain⟨g,rfl,d,a3,rfl⟩:=dS;refine⟨a3,rfl,fun c h=>?_⟩;obtain⟨aL,e,ar⟩:=aE.get t ay;have:=aKK ar h;rw[<-this];simp only[Region.wanted,qV,yielded,bp,Option.bind_some,e];cases aL<;>rfl
   ·simp[ay]at dS
theorem aLk{F:Fence}{n:Nat}{o:Oper}{a:Act}{K z3:Act->World->Prop}{Q:Exit->Act->World->Prop}(h:∀a w,K a w->z3 a w){res:Result Next}(hu:o.uponIn F n p a K Q res):o.uponIn F n p a z3 Q res:=by
 cases res with
 |ok x w=>
  cases x<;>simp only[Oper.uponIn]at hu⊢<;>first
   |exact hu.elim
   |exact h _ _ hu
   |exact⟨hu.1,hu.2.mono fun e w' he=>by cases e<;>first|exact h _ _ he|exact he⟩
   |exact⟨hu.1,hu.2.mono fun v w' he=>h _ _ he⟩
 |halt x w=>cases x<;>simp only[Oper.uponIn]at hu⊢<;>first|exact hu.elim|exact hu
theorem ape{F:Fence}{n:Nat}{o:Oper}{a:Act}{w:World}{K z3:Act->World->Prop}{Q:Exit->Act->World->Prop}(h:∀a w,K a w->z3 a w)(hu:o.wpIn F n p a w K Q):o.wpIn F n p a w z3 Q:=
 ⟨hu.1,aLk h hu.2⟩
theorem Yb{J:Prog}{call:iy}(ni:Ea p call){ro:Option Nat}{N:Nat}{ops:Array Oper}{Q:Exit->Act->World->Prop}:∀(m i:Nat) (kU:List bH) {I:Fr} {h:H} {ds:dB} {out:Out},i+m=ops.size->
  (ops.toList.drop i).mapM (xg p N ro.isSome ops)=some kU->ig J call kU I h ds=out->out≠.no->∀{M:aW} {a:Act} {w:World} {b2:Nat},g0 p M->Rel p M h w.heap->hl M N b2 ⟨I,ds,h⟩ a w->
  (∀aT fG w' aQ aa gG,out=.norm ⟨aQ,gG,aa⟩ ->Step p M h w aT aa w'->hl aT N b2 ⟨aQ,gG,aa⟩ fG w'->Q .normal fG w') ->wpOpsIn (gR ro) 0 p ops Q (List.range' i m) a w
 |0,i,kU,I,h,ds,out,ai,hm,he,db,M,a,w,b2,aC,r,aA,lB=>by
  have:ops.toList.drop i=[]:=ve (by simp;omega);rw[this]at hm;simp at hm;subst hm;exact lB M a w I h ds he.symm (.refl r rfl rfl rfl rfl) aA
 |m+1,i,kU,I,h,ds,out,ai,hm,he,db,M,a,w,b2,aC,r,aA,lB=>by
  have ay:i<ops.size:=by omega
  have aAB:ops.toList.drop i=ops[i]::ops.toList.drop (i+1):=by
   rw[D6 (by simpa using ay)];simp
  rw[aAB]at hm;simp only[r8,df,bK,ue,cN]at hm;obtain⟨io,dS,Ob,xS,rfl⟩:=hm;obtain⟨a3,cw,DT⟩:=LI dS aA.I;have hf:E0 J call io (ig J call Ob) I h ds=out:=he;rw[List.range'_succ];simp only[wpOpsIn,Bz ay];have K:∀{cu:Out},cu=out->∀{hZ:aW} {vM:Fr} {h1:H} {MI:dB} {bJ:Act} {b5:World},ig J call Ob vM h1 MI=cu->Step p M h w hZ h1 b5->hl hZ N b2 ⟨vM,MI,h1⟩ bJ b5->
    wpOpsIn (gR ro) 0 p ops Q (List.range' (i+1) m) bJ b5:=fun{cu} a6 {hZ vM h1 MI bJ b5} aI st hz=>
   Yb ni m (i+1) Ob (by omega) xS aI (by rw[a6];exact db) (aC.mono st.mono) st.rel hz fun aT fG w' aQ aa gG e uL oK=>lB aT fG w' aQ aa gG (a6▸e) (st.trans uL) oK
  have run:EZ io (ig J call Ob) J call I h ds=out->ops[i].wpIn (gR ro) 0 p a w (wpOpsIn (gR ro) 0 p ops Q (List.range' (i+1) m)) Q:=fun hk=>by
   unfold EZ at hk;rw[cw]at hk;exact ape (fun bJ b5 ⟨vM,h1,MI,hZ,aN,st,hz⟩=>K rfl aN st hz) (alj ni a3 hk db aC r aA Q)
  unfold E0 at hf;split at hf
  ·rename_i II;have:=DT true (by rw[II];rfl);rw[bl this];exact run hf
  ·rename_i g MJ;split at hf
   ·rename_i hw;have:=DT true (by rw[MJ];exact hw);rw[bl this];exact run hf
   ·rename_i hw;have:=DT false (by rw[MJ];exact hw);rw[bf (by rw[this];simp)];exact⟨fun _ _=>trivial,K rfl hf (.refl r rfl rfl rfl rfl) (aA.put a3 (bm.undef M))⟩
   ·exact absurd hf.symm db
end
abbrev BJ:=@Array.getD_eq_getD_getElem?
section
variable {p:Program}
theorem anE:∀(aF:List V) (i:Nat) (I:Fr) (m:Nat),i+aF.length<=512->m<512->(kZ aF i I).get (a0 m)=if i<=m/\m<i+aF.length then(aF[m-i]?).getD V.undef else I.get (a0 m)
 |[],i,I,m,_,_=>by
  have:¬(i<=m/\m<i+([]:List V).length):=by simp
  rw[bf this];rfl
 |v::aF,i,I,m,ai,hm=>by
  have ck:i+1+aF.length<=512:=by simp at ai;omega
  show(kZ aF (i+1) (I.set v (a0 i))).get (a0 m)=_;rw[anE aF (i+1) _ m ck hm];by_cases aaZ:m=i
  ·subst aaZ;rw[bf (by omega),bl (by simp),Fr.gV];simp
  ·have bV:(I.set v (a0 i)).get (a0 m)=I.get (a0 m):=Fr.ej _ _ fun e=>aaZ (G0 (by simp at ai;omega) hm e).symm;by_cases h:i+1<=m/\m<i+1+aF.length
   ·rw[bl h,bl (by simp;omega)];have:m-i=(m-(i+1))+1:=by omega
    rw[this];rfl
   ·rw[bf h,bf (by simp;omega),bV]
theorem amK{M:aW}{aF:List V}{f2:Array Value}(ar:dq M aF f2.toList){N:Nat}(vt:N<=512)(au:aF.length<=N):iX M N (kZ aF 0 Fr.e) (f2++Array.replicate (N-f2.size) undef):=by
 have eN:aF.length=f2.size:=by simpa using ar.length
 refine⟨by simp;omega,vt,fun n aq=>?_⟩;rw[anE aF 0 Fr.e n (by omega) (by omega)];by_cases h:n<aF.length
 ·rw[bl (by omega)];obtain⟨y,ax,aI⟩:=ar.get (i:=n) (hN h);refine⟨y,?_,by simpa[h]using aI⟩;rw[PE (by omega)];simpa using ax
 ·rw[bf (by omega),Fr.aAh];refine⟨undef,?_,bm.undef M⟩;rw[Array.getElem?_append_right (by omega)];rw[Array.getElem?_replicate,bl (by omega)]
def Bo(tmps:Array Value):ResultVar->Sem Value
 |.tmp t=>pure (tmps.getD t undef)
 |.cell a t=>do loadVar t (<-asAddr (tmps.getD a undef))
theorem anF{M:aW}{h:H}{w:World}(r:Rel p M h w.heap){N:Nat}{I:Fr}{tmps:Array Value}(aE:iX M N I tmps):∀(l:List ResultVar) (aD:List qG) (aF:List V),l.mapM (Dn p N)=some aD->results h I aD=some aF->
  ∃f2,(l.mapM (Bo tmps)).run p w=.ok f2 w/\dq M aF f2
 |[],aD,aF,h1,ae=>by
  simp at h1;subst h1;simp[results]at ae;subst ae;exact⟨[],by simp[pF],.nil⟩
 |x::l,aD,aF,h1,ae=>by
  simp only[r8,df,bK,ue,cN]at h1;obtain⟨y,ax,cV,tF,rfl⟩:=h1;have fin:∀{v:V} {aL:Value} {vN:List V},bm M v aL->(Bo tmps x).run p w=.ok aL w->results h I cV=some vN->aF=v::vN->∃f2,((x::l).mapM (Bo tmps)).run p w=.ok f2 w/\dq M aF f2:=fun{v aL vN} ar ab aI e=>by
   obtain⟨f2,bj,a8⟩:=anF r aE l cV vN tF aI;subst e;refine⟨aL::f2,?_,.cons ar a8⟩;rw[r8];simp only[ja,ab,Result.andThen,bj,pF]
  cases x with
  |tmp t=>
   simp only[Dn]at ax;split at ax
   ·rename_i bp;cases ax;simp only[results]at ae;split at ae
    ·rename_i vN F6;cases ae;obtain⟨aL,e,ar⟩:=aE.get t bp;refine fin ar ?_ F6 rfl;simp only[Bo,pF];rw[BJ,e];rfl
    ·cases ae
   ·cases ax
  |cell a t=>
   simp only[Dn]at ax;split at ax
   ·rename_i bN;simp only[df,bK,cN]at ax;obtain⟨agg,N7,n,aq,rfl⟩:=ax;simp only[results]at ae;split at ae
    ·rename_i v ar;split at ae
     ·rename_i vN F6;cases ae;obtain⟨rx,e,ab⟩:=aE.get a bN;have jN:bm M ((X.t (a0 a)).a7 I) rx:=ab
      obtain⟨aL,n8,d0⟩:=alf r N7 aq jN ar;refine fin n8 ?_ F6 rfl;have aqF:tmps.getD a undef=rx:=by rw[BJ,e];rfl
      simp only[Bo,aqF];have bh:∃sr,rx=.pointer (some sr):=by
       unfold DR at ar;generalize (X.t (a0 a)).a7 I=q at ar jN;cases jN<;>simp only at ar<;>first|exact⟨_,rfl⟩|cases ar
      obtain⟨sr,rfl⟩:=bh;exact d0
     ·cases ae
    ·cases ae
   ·cases ax
theorem aH1(fn:Func)(tmps:Array Value):Go.results fn tmps=(do let aF<-fn.results.mapM (Bo tmps);pure (if h:aF.size=1 then aF[0]else .tuple aF)):=by
 unfold Go.results;rfl
theorem aLl{M:aW}{h:H}{w:World}(r:Rel p M h w.heap){N:Nat}{I:Fr}{tmps:Array Value}(aE:iX M N I tmps){fn:Func}{aD:List qG}{aF:List V}(h1:fn.results.toList.mapM (Dn p N)=some aD)
  (ae:results h I aD=some aF):∃aL,(Go.results fn tmps).run p w=.ok aL w/\bm M (zM aF) aL:=by
 obtain⟨f2,bj,a8⟩:=anF r aE _ _ _ h1 ae;have e:fn.results.mapM (Bo tmps)=(do let l<-fn.results.toList.mapM (Bo tmps);pure l.toArray:Sem (Array Value)):=by
  rw[Array.mapM_eq_mapM_toList];rfl
 rw[aH1,e];simp only[ja,bj,Result.andThen,pF];refine⟨_,rfl,?_⟩;cases a8 with
 |nil=>simpa[zM]using bm.bk (M:=M) (aD:=#[]) .nil
 |cons ar t=>cases t with
  |nil=>simpa[zM]using ar
  |cons kF t=>
   have:∀(x y:V) (aF:List V),zM (x::y::aF)=.bk (x::y::aF):=fun _ _ _=>rfl;rw[this];simpa using bm.bk (M:=M) (aD:=(_::_::_:List Value).toArray) (.cons ar (.cons kF t))
end
abbrev G3:=@Array.eq_empty_of_size_eq_zero
section
variable {p:Program}
theorem Step.shut{M aT:aW}{h aa:H}{w w':World}(s:Step p M h w aT aa w'){r:Nat}{o:Obj}(aI:w.heap.size<=r)(au:∀f k l,aa.dE f k->aT f k=some l->l.bS≠r):Step p M h w aT aa (w'.putObj r o):=by
 have aJ:∀b,b≠r->(w'.putObj r o).heap[b]?=w'.heap[b]?:=fun b ah=>World.putObj_heap_other ah;exact{s with
  rel:=s.rel.congr (by simp) fun f k l a b=>aJ _ (au f k l a b)
  size:=by simpa using s.size
  s8:=fun b ah db=>by rw[aJ b (by omega)];exact s.s8 b ah db
  os:=s.os
  out:=s.out
  tape:=s.tape}
def Yc(p:Program)(J:Prog):Prop:=∀g,J.quiet g=true->∀(cap:Array Value) (w:World),(callFunc g cap).run p w=.ok (.enter g cap) w/\
 CallsDIn (gR none) 0 p g cap .returning w fun e u w'=>∃v,e=.returned v/\u=.returning/\w'.heap=w.heap/\w'.os=w.os/\w'.output=w.output/\w'.tape=w.tape
theorem aol{J:Prog}(aM:Yc p J){fn:Func}{N:Nat}{aD:List qG}(pd:fn.results.toList.mapM (Dn p N)=some aD){tmps:Array Value}{R:Ending->World->Prop}{eS M:aW}{av h:H}{fq:World}{I:Fr}{aF:List V}
  (F7:results h I aD=some aF) (aE:iX M N I tmps) (dP:∀aL w',Step p eS av fq M h w'->bm M (zM aF) aL->R (.returned aL) w'):
  ∀{ds:dB} {pg:List Deferred},x0 M ds pg->D0 J ds=true->∀{w:World},Step p eS av fq M h w->(∀r∈ot pg,wR M h w fq.heap.size r) ->(ot pg).Nodup->LeavesInM (gR none) 0 p fn tmps R pg .returning w:=by
 intro ds pg a3
 induction a3 with
 |nil=>
  intro _ w st _ _;obtain⟨aL,h1,ae⟩:=aLl st.rel aE pd F7;exact⟨aL,h1,dP aL w st ae⟩
 |@mark ds pg r t ih=>
  intro xn w st hm aq;obtain⟨mi,nv,HO⟩:=hm r (by simp[ot]);have uK:r∉ot pg/\(ot pg).Nodup:=by simpa[ot]using aq
  refine⟨by simp,.inl ⟨r,w.putObj r (.deferred none),rfl,run_takeDeferred mi,?_⟩⟩;refine ih xn (st.shut nv HO) (fun jH oJ=>?_) uK.2;obtain⟨bj,a8,cc⟩:=hm jH (by simp[ot,oJ]);exact⟨by rw[World.putObj_heap_other (k:=jH) (r:=r) (fun e=>uK.1 (by rw[<-e];exact oJ))];exact bj,a8,cc⟩
 |@call ds pg g first cap args nL dV U bN t ih=>
  intro xn w st hm aq;cases g with
  |func g=>
   cases first with
   |cons _ _=>simp[D0]at xn
   |nil=>
    cases args with
    |cons _ _=>simp[D0]at xn
    |nil=>
     have IH:dV=#[]:=by
      have:=bN.length;simp at this;exact G3 this.symm
     subst IH;simp only[D0,dJ]at xn;obtain⟨hinv,ni⟩:=aM g xn.1 nL w;refine⟨by simp,.inr ⟨fun h=>by simp[gR,Fence.wide]at h,.func g,nL,g,nL,rfl,?_,fun _ _=>trivial,ni.mono fun e u w' ⟨v,aN,bd,bO,fY,eY,eI⟩=>?_⟩⟩
     ·simpa[invoke]using hinv
     ·subst aN bd;have uL:Step p eS av fq M h w':=st.trans (.refl st.rel bO fY eY eI);exact ih xn.2 uL (fun r aI=>let⟨a,b,c⟩:=hm r aI;⟨by rw[bO];exact a,b,c⟩) aq
  |_=>cases first<;>cases args<;>simp[D0]at xn
def pC(p:Program)(ro:Option Nat)(g:FuncId)(dV:Array Value)(w:World)(R:Value->World->Prop):Prop:=
 ∃n b5,(callFunc g dV).run p w=.ok n b5/\match n with
  |.value v=>R v b5
  |.enter f args=>CallsIn (gR ro) 0 p f args b5 fun e w'=>∃v,e=.returned v/\R v w'
  |_=>False
structure gm(p:Program)(J:Prog):Prop where
 funcs:∀g F,J.funcs g=some F->∃fn,p.funcs[g]?=some fn/\zy p fn=some F
 w2:∀(g:FuncId) (fn:Func),p.funcs[g]?=some fn->(fn.name== "runtime.NumGoroutine")=false
 quiet:Yc p J
 spec:∀(ro:Option Nat) (g:FuncId) (aF:List V) (dV:Array Value) (h aa:H) (v:V) (M:aW) (w:World),dq M aF dV.toList->g0 p M->Rel p M h w.heap->J.spec g aF h=some (v,aa) ->
  pC p ro g dV w fun aL w'=>∃aT,Step p M h w aT aa w'/\bm aT v aL
theorem Zy{ro:Option Nat}{f:FuncId}{args:Array Value}{w:World}{R:Ending->World->Prop}(h:CallsIn (gR none) 0 p f args w R):CallsIn (gR ro) 0 p f args w R:=h
theorem aKL{fn:Func}{F:F}(h:zy p fn=some F):∃b,fn.body=some b/\fn.ntmps<=512/\fn.results.toList.mapM (Dn p fn.ntmps)=some F.res/\F.n=fn.ntmps/\F.body=gJ p fn.ntmps false b:=by
 unfold zy at h;simp only[df,bK]at h;obtain⟨b,ah,h⟩:=h;split at h
 ·cases h
 ·rename_i aq;simp only[bK,cN]at h;obtain⟨res,aI,rfl⟩:=h;exact⟨b,ah,by omega,aI,rfl,rfl⟩
theorem YV{J:Prog}(bh:gm p J){k:Nat}(ih:vf p J k){g:FuncId}{aF:List V}{dV:Array Value}{h aa:H}{v:V}{M:aW}{w:World}(ar:dq M aF dV.toList)(aC:g0 p M)(r:Rel p M h w.heap)
  (he:wX (exec J k) J g aF h=some (v,aa)):(callFunc g dV).run p w=.ok (.enter g dV) w/\CallsIn (gR none) 0 p g dV w fun e w'=>∃aL,e=.returned aL/\∃aT,Step p M h w aT aa w'/\bm aT v aL:=by
 unfold wX at he;cases dw:J.funcs g with
 |none=>rw[dw]at he;cases he
 |some F=>
 rw[dw]at he;obtain⟨fn,tE,U⟩:=bh.funcs g F dw;obtain⟨b,ah,aq,F7,aqG,aAC⟩:=aKL U;simp only at he;split at he
 ·rename_i hle;have hle:=iZ hle;rw[aqG]at hle;have ni:(callFunc g dV).run p w=.ok (.enter g dV) w:=by
   simp[callFunc,program,ja,Sem.run,Result.andThen,tE,ah];have:=bh.w2 g fn tE;simpa using this
  refine⟨ni,callsIn_of_wp_marks tE ah trivial ?_⟩;have Pe:hl M fn.ntmps w.heap.size ⟨kZ aF 0 Fr.e,[],h⟩ {tmps:=dV++Array.replicate (fn.ntmps-dV.size) undef,defers:=[]} w:=
   ⟨amK ar aq hle,.nil,fun r aI=>by simp[ot]at aI,by simp[ot]⟩
  generalize ab:exec J k F.body ⟨kZ aF 0 Fr.e,[],h⟩=out at he;rw[aAC]at ab;have db:out≠.no:=fun e=>by subst e;cases he
  refine vi (ih none fn.ntmps b _ out ab db M _ w w.heap.size aC r Pe (a1 _)) fun e bJ b5 q=>?_;have fin:∀(s:eM) (aT:aW),leave J F.res s=some (v,aa) ->Step p M h w aT s.h b5->hl aT fn.ntmps w.heap.size s bJ b5->
    LeavesInM (gR none) 0 p fn bJ.tmps (fun e w'=>∃aL,e=.returned aL/\∃aT,Step p M h w aT aa w'/\bm aT v aL) bJ.defers .returning b5:=fun s aT au st aA=>by
   unfold leave at au;split at au
   ·rename_i xn;split at au
    ·rename_i aD pd;cases au;exact aol bh.quiet F7 pd aA.I (fun aL w' uL kF=>⟨aL,rfl,aT,uL,kF⟩) aA.ds xn st aA.marks aA.nodup
    ·cases au
   ·cases au
  cases out with
  |no=>exact absurd rfl db
  |norm s=>cases e<;>simp only[gy]at q<;>first|exact q.elim|exact let⟨aT,st,aA⟩:=q;fin s aT he st aA
  |ret s=>cases e<;>simp only[gy]at q<;>first|exact q.elim|exact let⟨aT,st,aA⟩:=q;fin s aT he st aA
  |exit _ _=>cases he
  |goto _ _=>cases he
 ·cases he
theorem QA{J:Prog}(bh:gm p J){k:Nat}(ih:vf p J k){ro:Option Nat}{g:FuncId}{aF:List V}{dV:Array Value}{h aa:H}{v:V}{M:aW}{w:World}(ar:dq M aF dV.toList)(aC:g0 p M)(r:Rel p M h w.heap)
  (he:ri (exec J k) J g aF h=some (v,aa)): pC p ro g dV w fun aL w'=>∃aT,Step p M h w aT aa w'/\bm aT v aL:=by
 unfold ri at he;split at he
 ·rename_i q aM;cases he;exact bh.spec ro g aF dV h aa v M w ar aC r aM
 ·obtain⟨bj,a8⟩:=YV bh ih ar aC r he;exact⟨_,_,bj,Zy a8⟩
theorem apf{M:aW}{N:Nat}:∀{ps:List Nat} {aF:List V} {f2:List Value} {I aQ:Fr} {tmps:Array Value},(∀t∈ps,t<N) ->iX M N I tmps->dq M aF f2->zV (ps.map a0) aF I=some aQ->
  f2.length=ps.length/\iX M N aQ ((ps.zip f2).foldl (fun tmps (t,a)=>tmps.setIfInBounds t a) tmps)
 |[],aF,f2,I,aQ,tmps,bh,aE,ar,h=>by
  cases ar with
  |nil=>simp only[List.map_nil,zV,cN]at h;subst h;exact⟨rfl,aE⟩
  |cons _ _=>simp[zV]at h
 |t::ps,aF,f2,I,aQ,tmps,bh,aE,ar,h=>by
  cases ar with
  |nil=>simp[zV]at h
  |cons ab ar=>
   rename_i v aL aF f2;simp only[nQ,zV]at h;obtain⟨a,b⟩:=apf (fun u hu=>bh u (by simp[hu])) (aE.set (bh t (by simp)) ab) ar h;exact⟨by simp[a],by simpa using b⟩
theorem aH2{M:aW}{st:tk}{fE:Option o0}{fh:Fr}{ps:List S}{assign body:C}{cL:Obj}(h:nJ p M (.loop st fE fh ps assign body) cL):
  ∃N l,cL=.loop l/\l.state=Bb st/\l.pending=u0 fE/\iX M N fh l.tmps/\(∀t∈l.params.toList,t<N)/\ps=l.params.toList.map a0/\assign=gJ p N true l.assign/\body=gJ p N true l.body:=by
 cases h with
 |@loop _ _ _ N l aA bh aE Aq=>exact⟨N,l,rfl,aA,bh,aE,Aq,rfl,rfl,rfl⟩
theorem Ln{M:aW}{h:H}{w:World}(r:Rel p M h w.heap){f:P}{st:tk}{fE:Option o0}{fh:Fr}{ps:List S}{assign body:C}(aC:h.get f=some (.loop st fE fh ps assign body)){br:Loc}(bT:M f 0=some br):
  ∃N l,w.heap[br.bS]?=some (.loop l)/\l.state=Bb st/\l.pending=u0 fE/\iX M N fh l.tmps/\(∀t∈l.params.toList,t<N)/\ps=l.params.toList.map a0/\assign=gJ p N true l.assign/\body=gJ p N true l.body:=by
 obtain⟨_,cL,h1,ae⟩:=r.oh f _ br aC rfl bT;obtain⟨N,l,rfl,q⟩:=aH2 ae;exact⟨N,l,h1,q⟩
theorem step_loop{M:aW}{h:H}{w:World}(r:Rel p M h w.heap){f:P}{st:tk}{fE:Option o0}{fh:Fr}{ps:List S}{assign body:C}(aC:h.get f=some (.loop st fE fh ps assign body)){br:Loc}(bT:M f 0=some br){l:Loop}(au:w.heap[br.bS]?=some (.loop l))
  (uL:tk) (Pf:Option o0):Step p M h w M (h.set f (.loop uL Pf fh ps assign body)) (w.putObj br.bS (.loop {l with state:=Bb uL,pending:=u0 Pf})):=by
 obtain⟨N,cr,h1,ae,az,bo,cb,dM,jf,fU⟩:=Ln r aC bT;rw[au]at h1;cases h1;refine BU r bT aC rfl (cL:=.loop {l with state:=Bb uL,pending:=u0 Pf}) ?_ rfl rfl rfl rfl;subst dM jf fU;exact nJ.loop (l:={l with state:=Bb uL,pending:=u0 Pf}) rfl rfl bo cb
theorem aLm{M:aW}{N b2:Nat}{s:eM}{a:Act}{w:World}{f:P}{br:Loc}(bT:M f 0=some br)(r:Rel p M s.h w.heap){fE:Option o0}(aM4:fE≠some .norm){v:V}{aa:H}(he:endRound f s fE=some (v,aa)):
  ∃aL w',(Instr.endRound br.bS (u0 fE)).run p w=.ok aL w'/\Step p M s.h w M aa w'/\bm M v aL:=by
 unfold endRound at he;split at he
 ·rename_i st apD fh ps assign body aC;obtain⟨N,l,h1,ae,az,bo,cb,dM,jf,fU⟩:=Ln r aC bT;refine⟨_,_,run_endRound (u0 fE) h1,?_⟩;cases fE with
  |none=>
   cases he;exact⟨step_loop r aC bT h1 .ready none,.bool _⟩
  |some e=>
   simp only at he;cases he;have aq:(u0 (some e)).isNone=false:=by cases e<;>rfl
   rw[aq];exact⟨step_loop r aC bT h1 .done (some e),.bool _⟩
 ·cases he
theorem aKM{J:Prog}{k:Nat}(ih:vf p J k){ro:Option Nat}{f:P}{br:Loc}{aF:List V}{dV:Array Value}{h aa:H}{v:V}{M:aW}{w:World}(bT:M f 0=some br)(ar:dq M aF dV.toList)(aC:g0 p M)(r:Rel p M h w.heap)
  (he:BG (exec J k) f aF h=some (v,aa)):∃fn tmps assign body,(Instr.yield br.bS dV).run p w=.ok (.round br.bS fn tmps assign body) w/\
   RoundIn (gR ro) 0 p br.bS fn tmps assign body w fun e w'=>∃aL,e=.returned aL/\∃aT,Step p M h w aT aa w'/\bm aT v aL:=by
 unfold BG at he;split at he
 ·rename_i apD fh ps assign body kV;obtain⟨N,l,h1,ae,az,bo,cb,rfl,rfl,rfl⟩:=Ln r kV bT;split at he
  ·rename_i I lD;obtain⟨hlen,aDi⟩:=apf cb bo ar lD;have aFK:iX M N I ((l.params.zip dV).foldl (fun tmps (t,a)=>tmps.setIfInBounds t a) l.tmps):=by
    rw[<-Array.foldl_toList,Array.toList_zip];exact aDi
   refine⟨_,_,_,_,run_yield h1 (by simpa using hlen),?_⟩;refine roundIn_of_wpIn trivial ?_;have ev:∀l,(gR ro).inRound l=gR (some l):=fun _=>rfl;rw[ev];split at he
   ·rename_i s1 ab;have qT:hl M N w.heap.size ⟨I,[],h⟩ {tmps:=(l.params.zip dV).foldl (fun tmps (t,a)=>tmps.setIfInBounds t a) l.tmps,defers:=[]} w:=
     ⟨aFK,.nil,fun r aI=>by simp[ot]at aI,by simp[ot]⟩
    refine vi (ih (some br.bS) N l.assign _ _ ab (by simp) M _ w w.heap.size aC r qT (a1 _)) fun e bJ b5 q=>?_;cases e<;>simp only[gy]at q<;>first|exact q.elim|skip
    obtain⟨hZ,st1,hz⟩:=q;have Aw:=st1.mono _ _ _ bT;simp only[Exit.then];split at he
    ·rename_i MK akx aa0 al8 aky yR;obtain⟨aMq,cY,bj,a8,cc,dc,dn,dQ,fH,gX⟩:=Ln st1.rel yR Aw;refine⟨_,run_beginRound bj a8,?_⟩;have st2:=step_loop st1.rel yR Aw bj .busy MK;have bd:({cY with state:=Bb .busy,pending:=u0 MK}:Loop)={cY with state:=.busy}:=by rw[<-cc];rfl
     rw[bd]at st2;have j6:=hz.step st2;generalize ax:exec J k (gJ p N true l.body) ⟨s1.I,s1.ds,s1.h.set f (.loop .busy MK akx aa0 al8 aky)⟩=out at he;have db:out≠.no:=fun e=>by subst e;cases he
     refine vi (ih (some br.bS) N l.body _ out ax db hZ bJ _ w.heap.size ((aC.mono st1.mono).mono st2.mono) st2.rel j6 (iK st1.size st2.size)) fun e tq jW q=>?_
     have fin:∀(s:eM) (aT:aW) (fE:Option o0),fE≠some .norm->endRound f s fE=some (v,aa) ->Step p hZ (s1.h.set f (.loop .busy MK akx aa0 al8 aky)) (b5.putObj br.bS (.loop {cY with state:=.busy})) aT s.h jW->
       ∃aL w',(Instr.endRound br.bS (u0 fE)).run p jW=.ok aL w'/\∃E5,Ending.returned aL=.returned E5/\∃aT,Step p M h w aT aa w'/\bm aT v E5:=fun s aT fE bh au st=>by
      obtain⟨aL,w',i2,k8,hS⟩:=aLm (N:=N) (b2:=0) (a:=tq) (st.mono _ _ _ Aw) st.rel bh au;exact⟨aL,w',i2,aL,rfl,aT,((st1.trans st2).trans st).trans k8,hS⟩
     cases out with
     |no=>exact absurd rfl db
     |norm s=>cases e<;>simp only[gy]at q<;>first|exact q.elim|exact let⟨aT,st,_⟩:=q;fin s aT none (by simp) he st
     |ret s=>cases e<;>simp only[gy]at q<;>first|exact q.elim|exact let⟨aT,st,_⟩:=q;fin s aT (some .ret) (by simp) he st
     |exit i s=>cases e<;>simp only[gy]at q<;>first|exact q.elim|exact(by obtain⟨rfl,aT,st,_⟩:=q;exact fin s aT (some (.exit _)) (by simp) he st)
     |goto i s=>cases e<;>simp only[gy]at q<;>first|exact q.elim|exact(by obtain⟨rfl,aT,st,_⟩:=q;exact fin s aT (some (.goto _)) (by simp) he st)
    ·cases he
   ·cases he
  ·cases he
 ·cases he
theorem aH3{J:Prog}(bh:gm p J){k:Nat}(ih:vf p J k):Ea p (gT (exec J k) J):=by
 intro ro o c f a HN aF h aa v M w cw jq ML xo aC r he;have F7:∀{R3:Fn} {first cap:Array Value},a.eval f=.func R3 first cap->execOp a.eval o=invoke (.fn R3 cap) (first++c.args.map a.eval):=fun{R3 first cap} e=>by
  unfold execOp;rw[cw];simp only[resolve,jq,e,Deferred.ofValue];rfl
 have F6:dq M aF (c.args.map a.eval).toList:=by simpa using xo
 unfold gT at he;split at he
 ·rename_i g first cap
  generalize aM:a.eval f=q at ML;cases ML with
  |@fn _ _ _ hq gW bN ah=>
   have fin:∀{us:List V},dq M us ((hq++c.args.map a.eval)++gW).toList->ri (exec J k) J g us h=some (v,aa) ->KT p ro o a w fun aL w'=>∃aT,Step p M h w aT aa w'/\bm aT v aL:=fun{us} aqH U=>by
    obtain⟨n,b5,bj,a8⟩:=QA bh ih (ro:=ro) aqH aC r U;refine⟨n,b5,?_,?_⟩
    ·rw[F7 aM];exact bj
    ·cases n<;>first|exact a8|exact a8.elim
   split at he
   ·refine fin ?_ he;cases rB:hq.toList with
    |nil=>cases mJ:gW.toList with
     |nil=>simpa[rB,mJ]using xo
     |cons _ _=>rw[mJ]at ah;cases ah
    |cons _ _=>rw[rB]at bN;cases bN
   ·refine fin ?_ he;have:=(bN.append F6).append ah;simpa using this
 ·rename_i l;generalize aM:a.eval f=q at ML;cases ML with
  |@jk _ br bT=>
   obtain⟨fn,tmps,assign,body,bj,a8⟩:=aKM ih (ro:=ro) bT F6 aC r he;refine⟨.round br.bS fn tmps assign body,w,?_,a8⟩;rw[F7 aM];simpa[invoke]using bj
 ·cases he
end
abbrev lT:=@List.mem_cons
section
variable {p:Program}
theorem aH4{M:aW}{h:H}{w:World}(r:Rel p M h w.heap)(o:Obj):Step p M h w M h (w.alloc o):=by
 have aJ:∀b,b<w.heap.size->(w.alloc o).heap[b]?=w.heap[b]?:=fun b ah=>by
  show(w.heap.push o)[b]?=_;rw[wL];simp;omega
 have eN:w.heap.size<=(w.alloc o).heap.size:=by show _<=(w.heap.push o).size;simp
 exact⟨r.congr eN fun f k l _ e=>aJ _ (r.lt e),aW.le_refl M,a1 _,eN,fun f k l e bA=>(by rw[bA]at e;cases e),fun b ah _=>aJ b ah,fun f k l a e=>.inr ⟨f,k,l,a,e,rfl⟩,fun f k l a e=>.inr ⟨f,k,l,a,e,rfl⟩,fun _ _ _=>rfl,rfl,rfl,rfl,fun f k l e bA=>(by rw[bA]at e;cases e),fun _ _ e=>e⟩
theorem aAD{J:Prog}(bh:gm p J){k:Nat}(ih:vf p J k){N:Nat}{q:Operand}{kA:X}(qI:di p N q=some kA){ps:Array Nat}(Aq:∀t∈ps.toList,t<N){x y:Code}{s:eM}{out:Out}
  (he:Am kA (ps.toList.map a0) (gJ p N true x) (gJ p N true y) (exec J k) J s=out) (db:out≠.no) {M:aW} {a:Act} {w:World} {b2:Nat} (aC:g0 p M) (r:Rel p M s.h w.heap) (aA:hl M N b2 s a w) (ah:b2<=w.heap.size):
  (Code.rangeFunc q ps x y).wpIn (gR none) 0 p (gy p M s.h w N b2 out) a w:=by
 unfold Am at he;have aI:=wM aA.I aC qI;split at he
 ·rename_i g first cap sG
  rw[sG]at aI;split at he
  ·rename_i ZO aa ni
   ·skip
    generalize aM:a.eval q=z at aI;cases aI with
    |@fn _ _ _ hq gW bN xm=>
     refine wpIn_rangeFunc fun fn _=>?_;have E8:∀o,((w.alloc o).heap.size=w.heap.size+1):=fun o=>by show(w.heap.push o).size=_;simp
     let br:Loop:={state:=.ready,pending:=none,fn,tmps:=a.tmps,params:=ps,assign:=x,body:=y,defers:=w.heap.size}
     let b5:=(w.alloc (.deferred (some []))).alloc (.loop br)
     have Ax:Step p M s.h w M s.h (w.alloc (.deferred (some []))):=aH4 r _
     let L:Loc:=⟨w.heap.size+1,0,0,0⟩
     have st1:Step p M s.h (w.alloc (.deferred (some []))) (M.add s.h.next 0 L) (s.h.new (.loop .ready none s.I (ps.toList.map a0) (gJ p N true x) (gJ p N true y))) b5:=by
      refine Hg Ax.rel (l:=L) (E8 _).symm (.obj rfl (a1 _) ?_) rfl rfl rfl rfl;exact nJ.loop (l:=br) rfl rfl (aA.I.mono (aW.qo (r.sk 0))) Aq
     have st:=Ax.trans st1;have Aw:M.add s.h.next 0 L s.h.next 0=some L:=aW.add_same _ _ _ _
     have hle:M.le (M.add s.h.next 0 L):=aW.qo (r.sk 0);refine⟨w.heap.size+1,[{target:=.collected w.heap.size,args:=#[]}],b5,{target:=.fn (.func g) gW,args:=hq++#[Value.func (.yield (w.heap.size+1)) #[] #[]]},b5,g,(hq++#[Value.func (.yield (w.heap.size+1)) #[] #[]])++gW,b5,run_enterLoop_outer fn a.tmps ps x y,?_,fun _ _=>trivial,?_,fun h=>by simp[gR,Fence.wide]at h,?_⟩
     ·simp only[resolve,aM,Deferred.ofValue];simp[pF,Act.eval]
     ·have ax:bm (M.add s.h.next 0 L) (.jk s.h.next) (.func (.yield (w.heap.size+1)) #[] #[]):=.jk Aw
      have xo:dq (M.add s.h.next 0 L) (first++[.jk s.h.next]++cap) ((hq++#[Value.func (.yield (w.heap.size+1)) #[] #[]])++gW).toList:=by
       simpa using((bN.mono hle).append (.cons ax .nil)).append (xm.mono hle)
      obtain⟨bj,a8⟩:=YV bh ih xo (aC.mono hle) st.rel ni;simpa[invoke]using bj
     ·have ax:bm (M.add s.h.next 0 L) (.jk s.h.next) (.func (.yield (w.heap.size+1)) #[] #[]):=.jk Aw
      have xo:dq (M.add s.h.next 0 L) (first++[.jk s.h.next]++cap) ((hq++#[Value.func (.yield (w.heap.size+1)) #[] #[]])++gW).toList:=by
       simpa using((bN.mono hle).append (.cons ax .nil)).append (xm.mono hle)
      obtain⟨bj,a8⟩:=YV bh ih xo (aC.mono hle) st.rel ni;refine a8.mono fun e jW ⟨aL,aN,sp,st2,_⟩=>?_;subst aN;have aa1:=st2.mono _ _ _ Aw;have R4:wR (M.add s.h.next 0 L) (s.h.new (.loop .ready none s.I (ps.toList.map a0) (gJ p N true x) (gJ p N true y))) b5 b2 w.heap.size:=by
       refine⟨?_,ah,fun f j l _ e=>?_⟩
       ·show((w.heap.push (.deferred (some []))).push (.loop br))[w.heap.size]?=_
        rw[wL];simp
       ·by_cases aE:f=s.h.next/\j=0
        ·rw[aE.1,aE.2,Aw]at e;cases e;show w.heap.size+1≠_;omega
        ·rw[aW.mf _ _ aE]at e;have:=r.lt e;omega
      have avY:w.heap.size∉ot a.defers:=fun J4=>by
       have:=(aA.marks _ J4).1;rw[vd (a1 _)]at this;cases this
      have fin:∀(yr:aW) (az:H) (iq:World),Step p sp aa jW yr az iq->Step p M s.h w yr az iq/\hl yr N b2 ⟨s.I,s.ds,az⟩ {a with defers:=[{target:=.collected w.heap.size,args:=#[]}]++a.defers} iq:=fun yr az iq n9=>by
       have vO:=(st.trans st2).trans n9;refine⟨vO,aA.I.mono vO.mono,.mark _ (aA.ds.mono vO.mono),fun jH oJ=>?_,by simpa[ot]using⟨avY,aA.nodup⟩⟩;simp only[zH,nR,ot,lT]at oJ;rcases oJ with rfl|oJ
       ·exact R4.step (st2.trans n9)
       ·exact(aA.marks jH oJ).step vO
      unfold pz at he;split at he
      ·exact absurd he.symm db
      ·rename_i MM fE fh aM5 RQ aM6 aAE kV;obtain⟨aMr,im,i2,k8,hS,w3,gY,oA,qJ,hs⟩:=Ln st2.rel kV aa1;have aaW:im.state≠.busy:=by
        rw[k8];cases MM<;>first|(intro e;cases e;done)|exact(aAE rfl).elim
       have F8:=run_endLoop (P:=p) i2 aaW;have n9:=step_loop st2.rel kV aa1 i2 .yI fE;have bO:({im with state:=Bb .yI,pending:=u0 fE}:Loop)={im with state:=.exhausted}:=by rw[<-hS];rfl
       rw[bO]at n9;generalize jW.putObj L.bS (.loop {im with state:=.exhausted})=W at F8 n9;obtain⟨vO,xp⟩:=fin _ _ _ n9;rw[hS]at F8;refine⟨_,_,F8,?_⟩;cases fE with
       |none=>subst he;exact⟨_,vO,xp⟩
       |some e=>cases e with
        |norm=>exact absurd he.symm db
        |ret=>subst he;exact wpIn_ret ⟨_,vO,xp⟩
        |exit i=>subst he;exact wpIn_exit ⟨rfl,_,vO,xp⟩
        |goto i=>subst he;exact wpIn_goto ⟨rfl,_,vO,xp⟩
      ·exact absurd he.symm db
  ·exact absurd he.symm db
 ·exact absurd he.symm db
end
abbrev zN:=@Option.map_some
abbrev Ek:=@List.mem_map
abbrev wU:=@and_true
section
variable {p:Program}{N:Nat}
def vP(N:Nat)(I aQ:Fr)(hR:List Operand):Prop:=∀t,t<N->Operand.tmp t∈hR->I.get (a0 t)=aQ.get (a0 t)
theorem gK{I aQ:Fr}{hR:List Operand}(H:vP N I aQ hR){q:Operand}{x:X}(aM:q∈hR)(h:di p N q=some x):x.a7 I=x.a7 aQ:=by
 cases q with
 |tmp t=>
  simp only[di]at h;split at h
  ·rename_i bp;cases h;exact H t bp aM
  ·cases h
 |const v=>simp only[di,vb]at h;obtain⟨y,_,rfl⟩:=h;rfl
 |global g=>simp only[di,df,bK,cN]at h;obtain⟨y,_,z,_,rfl⟩:=h;rfl
 |func f=>simp only[di,cN]at h;subst h;rfl
theorem B0{I aQ:Fr}{hR:List Operand}(H:vP N I aQ hR):∀{l:List Operand} {xs:List X},(∀q∈l,q∈hR) ->l.mapM (di p N)=some xs->hc I xs=hc aQ xs
 |[],xs,_,h=>by simp at h;subst h;rfl
 |q::l,xs,aM,h=>by
  simp only[r8,df,bK,ue,cN]at h;obtain⟨x,ab,cV,tF,rfl⟩:=h;have h1:=gK H (aM q (by simp)) ab;have ae:=B0 H (fun r aI=>aM r (by simp[aI])) tF;simp only[hc,h1,ae]
theorem Zg{I aQ:Fr}{hR:List Operand}(H:vP N I aQ hR){x:Option Operand}{kA:Option X}(ab:∀q,x=some q->q∈hR)(h:x.mapM (di p N)=some kA):(kA.map fun x=>x.a7 I)=kA.map fun x=>x.a7 aQ:=by
 cases x with
 |none=>simp at h;subst h;rfl
 |some x=>
  simp only[Option.mapM_some,Option.map_eq_map,vb]at h;obtain⟨y,ax,rfl⟩:=h;simp[gK H (ab x rfl) ax]
theorem Zz{I aQ:Fr}{x:Option X}(h:(x.map fun x=>x.a7 I)=x.map fun x=>x.a7 aQ)(d m:Nat):bound I x d m=bound aQ x d m:=by
 cases x with
 |none=>rfl
 |some x=>simp only[zN,cN]at h;simp only[bound,h]
theorem HB{I aQ:Fr}{br ai eo:Option X}(h1:(br.map fun x=>x.a7 I)=br.map fun x=>x.a7 aQ)(ae:(ai.map fun x=>x.a7 I)=ai.map fun x=>x.a7 aQ)(az:(eo.map fun x=>x.a7 I)=eo.map fun x=>x.a7 aQ)(len cap:Nat)(k:Nat->Nat->Nat->V):
  uj I br ai eo len cap k=uj aQ br ai eo len cap k:=by
 unfold uj;rw[Zz az];split
 ·rw[Zz ae];split
  ·rw[Zz h1]
  ·rfl
 ·rfl
theorem QJ{I aQ:Fr}:∀{ps:List (Nat×Nat×X)} (z:List V),(∀q∈ps,q.2.2.a7 I=q.2.2.a7 aQ) ->fill I z ps=fill aQ z ps
 |[],z,_=>rfl
 |(off,n,x)::ps,z,h=>by
  have h1:x.a7 I=x.a7 aQ:=h (off,n,x) (by simp);simp only[fill,h1];split
  ·split
   ·exact QJ _ fun q aM=>h q (by simp[aM])
   ·rfl
  ·rfl
theorem QO{I aQ:Fr}{hR:List Operand}(H:vP N I aQ hR){α:Type}{g:α×Operand->Option (Nat×Nat×X)}(aC:∀a q,g a=some q->di p N a.2=some q.2.2):∀{ps:List (α×Operand)} {aD:List (Nat×Nat×X)},(∀a∈ps,a.2∈hR) ->ps.mapM g=some aD->∀q∈aD,q.2.2.a7 I=q.2.2.a7 aQ
 |[],aD,_,h,q,aM=>by simp at h;subst h;simp at aM
 |a::ps,aD,ev,h,q,aM=>by
  simp only[r8,df,bK,ue,cN]at h;obtain⟨x,ab,cV,tF,rfl⟩:=h;rcases List.mem_cons.1 aM with rfl|aM
  ·exact gK H (ev a (by simp)) (aC _ _ ab)
  ·exact QO H aC (fun b ah=>ev b (by simp[ah])) tF q aM
theorem anG{I aQ:Fr}{o:Oper}{i:d5}(U:An p N o=some i)(H:vP N I aQ o.op.operands.toList):i.f I=i.f aQ:=by
 obtain⟨dst,op,type,pos,after,guard⟩:=o;simp only at H;cases op<;>simp only[An]at U
 case move x=>
  simp only[df,bK,cN]at U;obtain⟨y,ax,rfl⟩:=U;simp only[d5.f,Iq,gK H (by simp[Op.operands]) ax]
 case assign x=>
  simp only[df,bK,cN]at U;obtain⟨y,ax,rfl⟩:=U;simp only[d5.f,Iq,gK H (by simp[Op.operands]) ax]
 case pick c x y=>
  simp only[df,bK,cN]at U;obtain⟨fT,iw,fM,jN,jv,sE,rfl⟩:=U;simp only[d5.f,WZ,gK H (by simp[Op.operands]) iw,gK H (by simp[Op.operands]) jN,gK H (by simp[Op.operands]) sE]
 case build t ps=>
  simp only[df,bK]at U;obtain⟨z,aX,gA,hu,U⟩:=U;split at U
  ·split at U
   ·cases U
   ·simp only[bK,cN]at U;obtain⟨hR,aM,rfl⟩:=U;simp only[d5.f,zE];rw[QJ z (QO (p:=p) (N:=N) H (fun a q h=>by
     simp only[bK,cN]at h;obtain⟨_,_,_,_,x,ab,rfl⟩:=h;exact ab) (fun a bN=>by simp only[Op.operands,Ek];exact⟨a,bN,rfl⟩) aM)]
  ·simp only[bK,cN]at U;obtain⟨n,aq,hR,aM,rfl⟩:=U;simp only[d5.f,zE];rw[QJ z (QO (p:=p) (N:=N) H (fun a q h=>by
    simp only[bK,cN]at h;obtain⟨x,ab,rfl⟩:=h;exact ab) (fun a bN=>by simp only[Op.operands,Ek];exact⟨a,bN,rfl⟩) aM)]
  ·cases U
 case nilCheck x=>
  simp only[df,bK,cN]at U;obtain⟨y,ax,rfl⟩:=U;simp only[d5.f,JU,gK H (by simp[Op.operands]) ax]
 case binOp op t x y apA=>
  simp only[df,bK,cN]at U;obtain⟨fM,jN,jv,sE,rfl⟩:=U;simp only[d5.f,rR,gK H (by simp[Op.operands]) jN,gK H (by simp[Op.operands]) sE]
 case unOp op t x=>
  simp only[df,bK,cN]at U;obtain⟨y,ax,rfl⟩:=U;simp only[d5.f,mI,gK H (by simp[Op.operands]) ax]
 case convert s d x=>
  simp only[df,bK]at U;obtain⟨y,ax,ds,aA,jJ,a3,U⟩:=U;split at U<;>cases U<;>simp only[d5.f,mI,gK H (by simp[Op.operands]) ax]
 case makeInterface t x=>
  simp only[df,bK]at U;obtain⟨d,hu,U⟩:=U;split at U
  ·cases U
  ·simp only[bK,cN]at U;obtain⟨y,ax,rfl⟩:=U;simp only[d5.f,mI,gK H (by simp[Op.operands]) ax]
 case makeFunc g first cap=>
  simp only[df,bK,cN]at U;obtain⟨xs,ln,cV,tF,rfl⟩:=U;simp only[d5.f,afw,B0 H (fun q aM=>by simp[Op.operands];exact .inl (by simpa using aM)) ln,B0 H (fun q aM=>by simp[Op.operands];exact .inr (by simpa using aM)) tF]
 case slice t x br ai eo=>
  simp only[df,bK]at U;obtain⟨fM,jN,aqw,kG,ck,vJ,aaR,IB,U⟩:=U;have bA:=gK H (by simp[Op.operands]) jN;have aN:=Zg H (fun q aM=>by simp[Op.operands,aM]) kG;have bd:=Zg H (fun q aM=>by simp[Op.operands,aM]) vJ;have bO:=Zg H (fun q aM=>by simp[Op.operands,aM]) IB;split at U
  ·cases U
  ·simp only[bK]at U;obtain⟨gA,hu,U⟩:=U;split at U
   ·split at U
    ·cases U;simp only[d5.f,GD,bA];split<;>first|rfl|exact HB aN bd rfl _ _ _
    ·cases U
   ·simp only[bK,cN]at U;obtain⟨n,aq,rfl⟩:=U;simp only[d5.f,Gq,bA];split
    ·exact HB aN bd bO _ _ _
    ·split
     ·split
      ·exact HB aN bd bO _ _ _
      ·split
       ·exact HB aN bd bO _ _ _
       ·exact HB aN bd rfl _ _ _
     ·rfl
    ·rfl
   ·simp only[bK,cN]at U;obtain⟨n,aq,rfl⟩:=U;simp only[d5.f,Pu,bA];split
    ·split
     ·exact HB aN bd bO _ _ _
     ·rfl
    ·rfl
   ·cases U
 case fieldAddr t x f=>
  simp only[df,bK]at U;obtain⟨gA,hu,U⟩:=U;split at U
  ·simp only[bK,cN]at U;obtain⟨fd,IC,n,aq,y,ax,rfl⟩:=U;simp only[d5.f,mI,gK H (by simp[Op.operands]) ax]
  ·cases U
 case field t x f=>
  simp only[df,bK]at U;obtain⟨gA,hu,U⟩:=U;split at U
  ·simp only[bK,cN]at U;obtain⟨fd,IC,b,ah,n,aq,y,ax,rfl⟩:=U;simp only[d5.f,mI,gK H (by simp[Op.operands]) ax]
  ·cases U
 case indexAddr t x rr=>
  simp only[df,bK]at U;obtain⟨gA,hu,U⟩:=U;split at U
  ·simp only[bK,cN]at U;obtain⟨n,aq,y,ax,z,aX,rfl⟩:=U;simp only[d5.f,rR,gK H (by simp[Op.operands]) ax,gK H (by simp[Op.operands]) aX]
  ·simp only[bK,cN]at U;obtain⟨n,aq,y,ax,z,aX,rfl⟩:=U;simp only[d5.f,rR,gK H (by simp[Op.operands]) ax,gK H (by simp[Op.operands]) aX]
  ·cases U
 case index t x rr=>
  simp only[df,bK]at U;obtain⟨gA,hu,U⟩:=U;split at U
  ·simp only[bK,cN]at U;obtain⟨y,ax,z,aX,rfl⟩:=U;simp only[d5.f,rR,gK H (by simp[Op.operands]) ax,gK H (by simp[Op.operands]) aX]
  ·simp only[bK,cN]at U;obtain⟨b,ah,n,aq,y,ax,z,aX,rfl⟩:=U;simp only[d5.f,rR,gK H (by simp[Op.operands]) ax,gK H (by simp[Op.operands]) aX]
  ·cases U
 case typeAssert x QZ t ok=>
  simp only[df,bK]at U;obtain⟨d,hu,U⟩:=U;split at U
  ·cases U
  ·simp only[bK,cN]at U;obtain⟨z,aX,y,ax,rfl⟩:=U;simp only[d5.f,mI,gK H (by simp[Op.operands]) ax]
 case extract x rr=>
  simp only[df,bK,cN]at U;obtain⟨y,ax,rfl⟩:=U;simp only[d5.f,mI,gK H (by simp[Op.operands]) ax]
 case call c=>
  simp only[df,bK]at U;obtain⟨xs,ln,U⟩:=U;have E:=B0 H (fun q aM=>by simp[Op.operands,Call.operands];first|exact .inr (by simpa using aM)|(right;simpa using aM)) ln;split at U
  ·simp only[hc,oS,wU]at E;simp only[bK]at U;obtain⟨yM,dU,gA,hu,U⟩:=U;split at U
   ·cases U;rfl
   ·simp only[bK]at U;obtain⟨aqx,aaS,U⟩:=U;split at U
    ·cases U;rfl
    ·cases U
   ·cases U;simp only[d5.f,mI,E]
   ·cases U;simp only[d5.f,mI,E]
   ·cases U
  ·simp only[hc,oS,wU]at E;simp only[bK]at U;obtain⟨yM,dU,gA,hu,U⟩:=U;split at U
   ·cases U;simp only[d5.f,mI,E]
   ·cases U
  ·simp only[hc,oS,wU]at E;cases U;simp only[d5.f,rR,E.1,E.2]
  ·simp only[hc,oS,wU]at E;cases U;simp only[d5.f,rR,E.1,E.2]
  ·simp only[hc,oS,wU]at E;cases U;simp only[d5.f,mI,E]
  ·cases U
 all_goals cases U
theorem anH{I aQ:Fr}{o:Oper}{i:IR}(U:Ao p N o=some i)(H:vP N I aQ o.op.operands.toList):i.f I=i.f aQ:=by
 obtain⟨dst,op,type,pos,after,guard⟩:=o;simp only at H;cases op<;>simp only[Ao]at U
 case load t x=>
  simp only[df,bK,cN]at U;obtain⟨b,ah,n,aq,y,ax,rfl⟩:=U;funext h;simp only[IR.f,DR,gK H (by simp[Op.operands]) ax]
 case convert s d x=>
  simp only[df,bK]at U;obtain⟨y,ax,ds,aA,jJ,a3,U⟩:=U;have e:=gK H (by simp[Op.operands]) ax;funext h;split at U
  ·simp only[bK]at U;obtain⟨Q2,he,U⟩:=U;split at U
   ·cases U;simp only[IR.f,KJ,e]
   ·cases U
  ·simp only[bK]at U;obtain⟨n,aq,U⟩:=U;cases U;simp only[IR.f,KL,e]
  ·simp only[bK]at U;obtain⟨n,aq,U⟩:=U;cases U;simp only[IR.f,KM,e]
  ·cases U
 case lookup t x rr ok=>
  simp only[df,bK]at U;obtain⟨gA,hu,U⟩:=U;funext h;split at U
  ·simp only[bK,cN]at U;obtain⟨q,aM,z,aX,y,ax,k,hk,rfl⟩:=U;simp only[IR.f,Lh,gK H (by simp[Op.operands]) ax,gK H (by simp[Op.operands]) hk]
  ·cases U
 case call c=>
  simp only[df,bK]at U;obtain⟨xs,ln,U⟩:=U;have E:=B0 H (fun q aM=>by simp[Op.operands,Call.operands];first|exact .inr (by simpa using aM)|(right;simpa using aM)) ln;funext h;split at U
  ·simp only[hc,oS,wU]at E;simp only[bK]at U;obtain⟨yM,dU,gA,hu,U⟩:=U;split at U
   ·cases U;simp only[IR.f,KK,E]
   ·cases U
  ·cases U
 all_goals cases U
theorem anI{I aQ:Fr}{o:Oper}{i:kg}(U:Ap p N o=some i)(H:vP N I aQ o.op.operands.toList):i.f I=i.f aQ:=by
 obtain⟨dst,op,type,pos,after,guard⟩:=o;simp only at H;cases op<;>simp only[Ap]at U
 case alloc t=>
  simp only[df,bK]at U;obtain⟨z,aX,n,aq,U⟩:=U;split at U
  ·cases U;rfl
  ·cases U
 case box t x=>
  simp only[df,bK,cN]at U;obtain⟨n,aq,y,ax,rfl⟩:=U;simp only[kg.f,N5,gK H (by simp[Op.operands]) ax]
 case buildSlice t len ps=>
  simp only[df,bK]at U;obtain⟨gA,hu,U⟩:=U;split at U
  ·simp only[bK]at U;obtain⟨n,aq,z,aX,hR,aM,U⟩:=U;split at U
   ·cases U;simp only[kg.f,GZ];rw[QJ _ (QO (p:=p) (N:=N) H (fun a q h=>by
     simp only[bK,cN]at h;obtain⟨x,ab,rfl⟩:=h;exact ab) (fun a bN=>by simp only[Op.operands,Ek];exact⟨a,bN,rfl⟩) aM)]
   ·cases U
  ·cases U
 case convert s d x=>
  simp only[df,bK]at U;obtain⟨y,ax,ds,aA,jJ,a3,U⟩:=U;have e:=gK H (by simp[Op.operands]) ax;split at U
  ·simp only[bK]at U;obtain⟨Q2,he,U⟩:=U;split at U
   ·cases U;simp only[kg.f,O2,e]
   ·cases U;simp only[kg.f,O3,e]
   ·cases U
  ·cases U
 case makeMap t r=>
  cases r with
  |none=>cases U;rfl
  |some _=>cases U
 case makeSlice t l c=>
  simp only[df,bK]at U;obtain⟨gA,hu,U⟩:=U;split at U
  ·simp only[bK]at U;obtain⟨z,aX,n,aq,U⟩:=U;split at U
   ·simp only[bK,cN]at U;obtain⟨jI,iR,x,ab,y,ax,rfl⟩:=U;simp only[kg.f,O4,gK H (by simp[Op.operands]) ab,gK H (by simp[Op.operands]) ax]
   ·cases U
  ·cases U
 case range t x=>
  simp only[df,bK]at U;obtain⟨gA,hu,U⟩:=U;split at U
  ·simp only[bK,cN]at U;obtain⟨y,ax,rfl⟩:=U;simp only[kg.f,O5,gK H (by simp[Op.operands]) ax]
  ·cases U
 all_goals cases U
theorem aJL{I aQ:Fr}{o:Oper}{i:g7}(U:Ct p N o=some i)(H:vP N I aQ o.op.operands.toList):i.f I=i.f aQ:=by
 obtain⟨dst,op,type,pos,after,guard⟩:=o;simp only at H;funext h;have ZP:∀{t:TypeId} {m k x:Operand},m∈(Array.toList (Op.operands op)) ->k∈(Array.toList (Op.operands op)) ->x∈(Array.toList (Op.operands op)) ->
   (do
    let .map nu _<-hd p t|none
    some (.Xy (<-pY p nu) (<-di p N m) (<-di p N k) (<-di p N x)):Option g7)=some i->i.f I h=i.f aQ h:=fun{t m k x} hm hk ab U=>by
  simp only[df,bK]at U;obtain⟨gA,hu,U⟩:=U;split at U
  ·simp only[bK,cN]at U;obtain⟨q,aM,c8,lk,ch,lE,fM,jN,rfl⟩:=U;simp only[g7.f,P1,gK H hm lk,gK H hk lE,gK H ab jN]
  ·cases U
 cases op<;>simp only[Ct]at U
 case store t a x=>
  simp only[df,bK,cN]at U;obtain⟨n,aq,y,ax,z,aX,rfl⟩:=U;simp only[g7.f,Pv,gK H (by simp[Op.operands]) ax,gK H (by simp[Op.operands]) aX]
 case mapUpdate t m k x=>exact ZP (by simp[Op.operands]) (by simp[Op.operands]) (by simp[Op.operands]) U
 case insert t m k x=>exact ZP (by simp[Op.operands]) (by simp[Op.operands]) (by simp[Op.operands]) U
 case range t x=>
  simp only[df,bK]at U;obtain⟨gA,hu,U⟩:=U;split at U
  ·simp only[bK,cN]at U;obtain⟨y,ax,rfl⟩:=U;simp only[g7.f,KN,gK H (by simp[Op.operands]) ax]
  ·cases U
 case next x s=>
  simp only[df,bK,cN]at U;obtain⟨y,ax,rfl⟩:=U;simp only[g7.f,F0,gK H (by simp[Op.operands]) ax]
 case entry x=>
  simp only[df,bK,cN]at U;obtain⟨y,ax,rfl⟩:=U;simp only[g7.f,K5,gK H (by simp[Op.operands]) ax]
 case call c=>
  simp only[df,bK]at U;obtain⟨xs,ln,U⟩:=U;have E:=B0 H (fun q aM=>by simp[Op.operands,Call.operands];first|exact .inr (by simpa using aM)|(right;simpa using aM)) ln;split at U
  ·simp only[hc,oS,wU]at E;split at U
   ·simp only[bK]at U;obtain⟨gA,hu,U⟩:=U;split at U
    ·simp only[bK]at U;obtain⟨n,aq,z,aX,U⟩:=U;split at U
     ·simp only[bK]at U;obtain⟨aqC,MH,U⟩:=U;split at U
      ·simp only[bK,cN]at U;obtain⟨jI,iR,rfl⟩:=U;simp only[g7.f,O6,E.1,E.2]
      ·simp only[bK,cN]at U;obtain⟨jI,iR,rfl⟩:=U;simp only[g7.f,JW,E.1,E.2]
      ·simp only[bK,cN]at U;obtain⟨jI,iR,rfl⟩:=U;simp only[g7.f,JW,E.1,E.2]
      ·cases U
     ·cases U
    ·cases U
   ·cases U
  ·simp only[hc,oS,wU]at E;simp only[bK]at U;obtain⟨yM,dU,gA,hu,U⟩:=U;split at U
   ·simp only[bK,cN]at U;obtain⟨n,aq,rfl⟩:=U;simp only[g7.f,O7,E.1,E.2]
   ·cases U
  ·simp only[hc,oS,wU]at E;simp only[bK]at U;obtain⟨yM,dU,gA,hu,U⟩:=U;split at U
   ·simp only[bK,cN]at U;obtain⟨n,aq,rfl⟩:=U;simp only[g7.f,JX,E.1,E.2]
   ·cases U
  ·simp only[hc,oS,wU]at E;simp only[bK]at U;obtain⟨yM,dU,gA,hu,U⟩:=U;split at U
   ·cases U;simp only[g7.f,O9,E]
   ·simp only[bK]at U;obtain⟨z,aX,n,aq,U⟩:=U;split at U
    ·cases U;simp only[g7.f,O8,E]
    ·cases U
   ·cases U
  ·simp only[hc,oS,wU]at E;simp only[bK]at U;obtain⟨yM,dU,gA,hu,U⟩:=U;split at U
   ·simp only[bK]at U;obtain⟨n,aq,U⟩:=U;split at U
    ·cases U;simp only[g7.f,Pa,E.1,E.2]
    ·cases U
   ·cases U
  ·cases U
 all_goals cases U
theorem aJM{I aQ:Fr}{o:Oper}{r:Bool}(jx:vP N I aQ o.op.operands.toList)(J:Prog)(call:iy)(h:H)(ds:dB)(K:tm):(sB p N r o).k J call I h ds K=(sB p N r o).k J call aQ h ds K:=by
 unfold sB;split
 ·rename_i i ai;simp only[bn.k,Mx,anG ai jx]
 ·split
  ·rename_i i ai;simp only[bn.k,RG,anH ai jx]
  ·split
   ·rename_i i ai;simp only[bn.k,My,anI ai jx]
   ·split
    ·rename_i i ai;simp only[bn.k,Ir,aJL ai jx]
    ·split
     ·rename_i f args dZ cw;split
      ·rename_i jw Pd ll Eb;have aN:=gK jx (by rw[cw];simp[Op.operands,Call.operands]) ll;have bd:=B0 jx (fun q aM=>by rw[cw];simp[Op.operands,Call.operands];first|exact .inr (by simpa using aM)|(right;simpa using aM)) Eb;simp only[bn.k,KO,aN,bd]
      ·rfl
     ·rename_i f args dZ cw;split
      ·rename_i jw Pd _ ll Eb;have aN:=gK jx (by rw[cw];simp[Op.operands,Call.operands]) ll;have bd:=B0 jx (fun q aM=>by rw[cw];simp[Op.operands,Call.operands];first|exact .inr (by simpa using aM)|(right;simpa using aM)) Eb;simp only[bn.k,K6,aN,bd]
      ·rfl
     ·rfl
end
abbrev vj:=@Nat.testBit_or
abbrev Lo:=@Nat.testBit_two_pow
abbrev Lp:=@List.mem_append
abbrev zO:=@List.all_eq_true
abbrev x9:=@List.mem_cons_of_mem
section
variable {p:Program}
def Closed(ops:Array Oper)(L:Nat->Prop):Prop:=∀x o e,L x->ops[x]?=some o->e∈o.after.toList->Region.binds .any e=true->L e.on
def Bc(ops:Array Oper)(L:Nat->Prop)(j:Nat):Prop:=∀o e,ops[j]?=some o->e∈o.after.toList->Region.binds .any e=true->L e.on
def MN(ops:Array Oper)(i j:Nat):Prop:=∀L:Nat->Prop,Closed ops L->Bc ops L j->L i
theorem anJ{acc:List Nat}{i:Nat}:∀{l:List Edge} {s:Nat},(l.foldl (Ba acc) s).testBit i=true->s.testBit i=true\/∃e∈l,Region.binds .any e=true/\(i=e.on\/((kX acc e.on).getD 0).testBit i=true)
 |[],s,h=>.inl h
 |e::l,s,h=>by
  simp only[D4]at h;rcases anJ h with h|⟨cD,hf,ah⟩
  ·unfold Ba at h;split at h
   ·rename_i ah;rw[vj,vj,Lo]at h;simp only[uf,kL]at h;rcases h with(h|h)|h
    ·exact .inl h
    ·exact .inr ⟨e,by simp,ah,.inl h.symm⟩
    ·exact .inr ⟨e,by simp,ah,.inr h⟩
   ·exact .inl h
  ·exact .inr ⟨cD,by simp[hf],ah⟩
theorem anK{acc:List Nat}{i:Nat}:∀{l:List Edge} {s:Nat},s.testBit i=true->(l.foldl (Ba acc) s).testBit i=true
 |[],s,h=>h
 |e::l,s,h=>by
  simp only[D4];refine anK ?_;unfold Ba;split
  ·rw[vj,vj,h];rfl
  ·exact h
theorem aH5{o:Oper}{e:Edge}(he:e∈o.after.toList)(ah:Region.binds .any e=true):(N6 o).testBit e.on=true:=by
 unfold N6;have:∀(l:List Edge) (s:Nat),e∈l->(l.foldl (Ba []) s).testBit e.on=true:=fun l=>by
  induction l with
  |nil=>intro s h;cases h
  |cons f l ih=>
   intro s h;simp only[D4];rcases List.mem_cons.1 h with rfl|h
   ·refine anK ?_;unfold Ba;rw[ah];simp only;rw[vj,vj,Lo];simp
   ·exact ih _ h
 exact this _ _ he
theorem al9{ops:Array Oper}:∀(l:List Oper) (acc:List Nat),ops.toList.drop acc.length=l->(∀(j a i:Nat),acc[j]?=some a->a.testBit i=true->MN ops i j) ->∀(j a i:Nat),(F2 l acc)[j]?=some a->a.testBit i=true->MN ops i j
 |[],acc,_,h=>h
 |o::l,acc,a3,h=>by
  have ay:acc.length<ops.toList.length:=by
   rcases dz acc.length ops.toList.length with h|h
   ·exact h
   ·rw[ve h]at a3;cases a3
  have E9:=D6 ay;rw[a3]at E9;simp only[oS]at E9;have a6:ops[acc.length]?=some o:=by
   have:=hN ay;rw[<-E9.1]at this;simpa using this
  unfold F2;refine al9 l _ (by simpa using E9.2.symm) fun j a i a5 ai=>?_;rcases Nat.lt_trichotomy j acc.length with Bd|rfl|aM7
  ·rw[nP Bd]at a5;exact h j a i a5 ai
  ·rw[oo (a1 _)]at a5;simp at a5;subst a5;intro L vu oB;have ck:=anJ (l:=o.after.toList) (s:=0) (by simpa using ai);rcases ck with ck|⟨e,he,ah,rfl|ck⟩
   ·simp at ck
   ·exact oB o e a6 he ah
   ·rw[BH]at ck;cases aM:acc[e.on]? with
    |none=>rw[aM]at ck;simp at ck
    |some fG=>
     rw[aM]at ck;exact h e.on fG i aM ck L vu fun cu cD m5 hf mJ=>vu e.on cu cD (oB o e a6 he ah) m5 hf mJ
  ·rw[oo (by omega)]at a5;have:j-acc.length≠0:=by omega
   cases aM:j-acc.length with
   |zero=>omega
   |succ k=>rw[aM]at a5;simp at a5
theorem anL:∀(f:Nat) {l:List i4} {x:i4},x∈canon f l->x∈l
 |0,l,x,h=>h
 |f+1,l,x,h=>by
  simp only[canon,Lp,List.mem_filter]at h;rcases h with h|h
  ·exact h.1
  ·split at h
   ·exact(List.mem_filter.1 h).1
   ·rename_i y ax;rcases List.mem_cons.1 h with rfl|h
    ·exact(List.mem_filter.1 (List.mem_of_find?_eq_some ax)).1
    ·exact(List.mem_filter.1 (List.mem_filter.1 (anL f h)).1).1
structure Xb(ops:Array Oper)(kU:List bH)(gv:List Nat)(x:i4)(o:Oper):Prop where
 op:ops[x.id]?=some o
 io:kU[x.id]?=some x.io
 gv:gv[x.id]?=some x.gv
 em:x.em=N6 o
 wr:x.wr=x.io.op.q6
 rd:x.rd=x.io.op.Va
 d:x.d=Dl o.dst
 n:x.n=s6 ops o
theorem amL{ops:Array Oper}{afB:List bH}{aa2:List Nat}:∀{os:List Oper} {kU:List bH} {sC:List Nat} {i:Nat},ops.toList.drop i=os->afB.drop i=kU->aa2.drop i=sC->∀{x:i4},x∈Dm ops os kU sC i->∃o,Xb ops afB aa2 x o
 |o::os,io::kU,gv::sC,i,h1,ae,az,x,h=>by
  have get:∀{α:Type} {l:List α} {y:α} {cV:List α},l.drop i=y::cV->l[i]?=some y/\l.drop (i+1)=cV:=fun{α l y cV} h=>by
   constructor
   ·have:(l.drop i)[0]?=some y:=by rw[h];rfl
    simpa using this
   ·have:(l.drop i).drop 1=cV:=by rw[h];rfl
    rwa[pH]at this
  obtain⟨aB,d1⟩:=get h1;obtain⟨aY,d2⟩:=get ae;obtain⟨b4,nt⟩:=get az;simp only[Dm,lT]at h;rcases h with rfl|h
  ·exact⟨o,⟨by simpa using aB,aY,b4,rfl,rfl,rfl,rfl,rfl⟩⟩
  ·exact amL d1 d2 nt h
 |[],_,_,_,_,_,_,x,h=>by simp[Dm]at h
 |_::_,[],_,_,_,_,_,x,h=>by simp[Dm]at h
 |_::_,_::_,[],_,_,_,_,x,h=>by simp[Dm]at h
theorem aKN{a b i:Nat}(h:Nat.beq (a&&&b) a=true)(ai:a.testBit i=true):b.testBit i=true:=by
 have:=dI h;rw[<-this,Nat.testBit_and,dJ]at ai;exact ai.2
theorem ao2{a b i:Nat}(h:Nat.beq (a&&&b) 0=true)(bN:a.testBit i=true)(ah:b.testBit i=true):False:=by
 have:=dI h;have ae:(a&&&b).testBit i=true:=by rw[Nat.testBit_and,bN,ah];rfl
 rw[this]at ae;simp at ae
theorem ao3{full:Nat}:∀{l acc:List i4} {m:Nat},Lj full l acc m=true->(∀i,m.testBit i=true↔∃ x∈acc,x.id=i) ->
  (∀(k:Nat) (y:i4),l[k]?=some y->(∀x∈acc,Py y x=true/\x.id≠y.id)/\(∀(j:Nat) (x:i4),j<k->l[j]?=some x->Py y x=true/\x.id≠y.id)/\∀i,y.em.testBit i=true->(∃ x∈acc,x.id=i)\/∃(j:Nat) (x:i4),j<k/\l[j]?=some x/\x.id=i)/\
  ∀i,full.testBit i=true->(∃ x∈acc,x.id=i)\/∃(j:Nat) (x:i4),l[j]?=some x/\x.id=i
 |[],acc,m,h,hm=>⟨fun k y e=>by simp at e,fun i ai=>by
   have:=dI h;subst this;exact .inl ((hm i).1 ai)⟩
 |y::l,acc,m,h,hm=>by
  simp only[Lj]at h;split at h
  ·rename_i U;simp only[dJ,zO,wQ]at U;obtain⟨⟨h1,ae⟩,az⟩:=U;have bV:∀x∈acc,x.id≠y.id:=fun x ab e=>by
    have:=(hm y.id).2 ⟨x,ab,e⟩;rw[az]at this;cases this
   obtain⟨bj,a8⟩:=ao3 h fun i=>by
    rw[vj,Lo];simp only[uf,kL,lT,exists_eq_or_imp,hm i];exact or_comm
   refine⟨fun k z aX=>?_,fun i ai=>?_⟩
   ·cases k with
    |zero=>
     simp at aX;subst aX;exact⟨fun x ab=>⟨h1 x ab,bV x ab⟩,fun j x a5=>by omega,fun i ai=>.inl ((hm i).1 (aKN ae ai))⟩
    |succ k=>
     simp at aX;obtain⟨a,b,c⟩:=bj k z aX;refine⟨fun x ab=>a x (by simp[ab]),fun j x a5 ab=>?_,fun i ai=>?_⟩
     ·cases j with
      |zero=>simp at ab;subst ab;exact a y (by simp)
      |succ j=>simp at ab;exact b j x (by omega) ab
     ·rcases c i ai with⟨x,ab,e⟩|⟨j,x,a5,ab,e⟩
      ·rcases List.mem_cons.1 ab with rfl|ab
       ·exact .inr ⟨0,x,by omega,by simp,e⟩
       ·exact .inl ⟨x,ab,e⟩
      ·exact .inr ⟨j+1,x,by omega,by simpa using ab,e⟩
   ·rcases a8 i ai with⟨x,ab,e⟩|⟨j,x,ab,e⟩
    ·rcases List.mem_cons.1 ab with rfl|ab
     ·exact .inr ⟨0,x,by simp,e⟩
     ·exact .inl ⟨x,ab,e⟩
    ·exact .inr ⟨j+1,x,by simpa using ab,e⟩
  ·cases h
theorem YW{y:i4}:∀{l:List (Nat×i4)} {k:Nat} {x:i4},(k,x)∈l->y.gv.testBit x.id=false->k∈Gs y l
 |[],_,_,h,_=>by cases h
 |(ch,fM)::l,k,x,h,ah=>by
  rcases List.mem_cons.1 h with e|h
  ·cases e;simp only[Gs,ah];simp
  ·unfold Gs;split
   ·exact YW h ah
   ·exact x9 _ (YW h ah)
theorem Zh:∀{l:List i4} {aD:List (Nat×i4)} {i k:Nat} {io:bH} {b:List Nat},(items l aD i)[k]?=some (io,b) ->∃y,l[k]?=some y/\io=y.io/\(y.wr=true->(∀(j:Nat) (x:i4),(j,x)∈aD->y.gv.testBit x.id=false->j∈b)/\
  ∀(j:Nat) (x:i4),j<k->l[j]?=some x->x.rd=true->y.gv.testBit x.id=false->i+j∈b)
 |[],aD,i,k,io,b,h=>by simp[items]at h
 |y::l,aD,i,k,io,b,h=>by
  cases k with
  |zero=>
   simp[items]at h;obtain⟨rfl,rfl⟩:=h;refine⟨y,by simp,rfl,fun hw=>⟨fun j x ab ah=>?_,fun j x a5=>by omega⟩⟩;rw[hw];exact YW ab ah
  |succ k=>
   simp only[items,List.getElem?_cons_succ]at h;obtain⟨z,aX,e,q⟩:=Zh h;refine⟨z,by simpa using aX,e,fun hw=>⟨fun j x ab ah=>(q hw).1 j x ?_ ah,fun j x a5 ab aI ah=>?_⟩⟩
   ·split
    ·exact x9 _ ab
    ·exact ab
   ·cases j with
    |zero=>
     simp at ab;subst ab;refine(q hw).1 i y ?_ ah;rw[aI];simp
    |succ j=>
     have:=(q hw).2 j x (by omega) (by simpa using ab) aI ah;have e:i+(j+1)=i+1+j:=by omega
     rw[e];exact this
theorem ao4:∀(l:List i4) (aD:List (Nat×i4)) (i:Nat),(items l aD i).length=l.length
 |[],_,_=>rfl
 |_::l,_,_=>by simp[items,ao4 l]
theorem Qo{t:Option Nat}{n:Nat}:(Dl t).testBit n=true↔t=some n:=by
 cases t with
 |none=>simp[Dl]
 |some t=>simp[Dl,Lo]
theorem anM{l:List Operand}{s n:Nat}(h:s.testBit n=true):(l.foldl F3 s).testBit n=true:=by
 induction l generalizing s with
 |nil=>exact h
 |cons q l ih=>
  refine ih ?_;unfold F3;split
  ·rw[vj,h];rfl
  ·exact h
theorem aH6{l:List Operand}{s t:Nat}(h:Operand.tmp t∈l):(l.foldl F3 s).testBit t=true:=by
 induction l generalizing s with
 |nil=>cases h
 |cons q l ih=>
  rcases List.mem_cons.1 h with rfl|h
  ·show(l.foldl F3 (F3 s (.tmp t))).testBit t=true;refine anM ?_;show(s|||2^t).testBit t=true;rw[vj,Lo];simp
  ·exact ih h
theorem aJN{ops:Array Oper}{o:Oper}{t:Nat}(h:o.dst=some t):(s6 ops o).testBit t=true:=by
 unfold s6;rw[vj,anM (Qo.2 h)];rfl
theorem amM{ops:Array Oper}{o:Oper}{t:Nat}(h:Operand.tmp t∈o.op.operands.toList):(s6 ops o).testBit t=true:=by
 unfold s6;rw[vj,aH6 h];rfl
theorem aLn{ops:Array Oper}{o:Oper}{t j:Nat}{b:Bool}(h:o.guard=some (j,b))(a3:(ops[j]?).bind (·.dst)=some t):(s6 ops o).testBit t=true:=by
 unfold s6;rw[vj,h,uf];exact .inr (Qo.2 a3)
end
abbrev zP:=@List.mem_cons_self
section
variable {p:Program}
mutual
theorem V.zQ:∀{a b:V},V.same a b=true->a=b
 |.bool a,b,h=>by cases b<;>simp_all [V.same]
 |.int j a,b,h=>by
  cases b<;>simp only[V.same,dJ,iJ]at h;obtain⟨h1,ae⟩:=h;rw[qC.1 h1];rw[Bw]at ae;rw[eq_of_beq ae]
 |.str a,b,h=>by
  cases b<;>simp only[V.same,iJ]at h;rw[X8.1 h]
 |.kt,b,h=>by cases b<;>simp_all [V.same]
 |.al,b,h=>by cases b<;>simp_all [V.same]
 |.qh,b,h=>by cases b<;>simp_all [V.same]
 |.lK,b,h=>by cases b<;>simp_all [V.same]
 |.og,b,h=>by cases b<;>simp_all [V.same]
 |.fO,b,h=>by cases b<;>simp_all [V.same]
 |.num j,b,h=>by
  cases b<;>simp only[V.same,iJ]at h;rw[qC.1 h]
 |.ptr f k i r,b,h=>by
  cases b<;>simp only[V.same,dJ,iJ]at h;obtain⟨⟨⟨h1,ae⟩,az⟩,bo⟩:=h;rw[x8.1 h1,dI ae,dI az,dI bo]
 |.ag f k o n e c,b,h=>by
  cases b<;>simp only[V.same,dJ,iJ]at h;obtain⟨⟨⟨⟨⟨h1,ae⟩,az⟩,bo⟩,cb⟩,dM⟩:=h;rw[x8.1 h1,dI ae,dI az,dI bo,dI cb];rename_i d;cases c<;>cases d<;>simp only[iJ]at dM
  ·rfl
  ·rw[dI dM]
 |.map f,b,h=>by
  cases b<;>simp only[V.same,iJ]at h;rw[x8.1 h]
 |.fn f xs cV,b,h=>by
  cases b<;>simp only[V.same,dJ,iJ,kL]at h;obtain⟨⟨h1,ae⟩,az⟩:=h;rw[h1,V.Et ae,V.Et az]
 |.jk f,b,h=>by
  cases b<;>simp only[V.same,iJ]at h;rw[x8.1 h]
 |.kD t x,b,h=>by
  cases b<;>simp only[V.same,dJ,iJ]at h;obtain⟨h1,ae⟩:=h;rw[dI h1,V.zQ ae]
 |.agg xs,b,h=>by
  cases b<;>simp only[V.same,iJ]at h;rw[V.Et h]
 |.bk xs,b,h=>by
  cases b<;>simp only[V.same,iJ]at h;rw[V.Et h]
theorem V.Et:∀{a b:List V},V.py a b=true->a=b
 |[],b,h=>by cases b<;>simp_all [V.py]
 |x::xs,b,h=>by
  cases b<;>simp only[V.py,dJ,iJ]at h;rw[V.zQ h.1,V.Et h.2]
end
theorem Zi{h:H}{is:List Nat}:∀{aD:List Rec},check h is aD=true->∀r∈aD,r.i∈is->r.f.f r.I h=some r.v
 |[],_,r,aI,_=>by cases aI
 |x::aD,U,r,aI,ai=>by
  simp only[check]at U;split at U
  ·split at U
   ·rename_i h1;rcases List.mem_cons.1 aI with rfl|aI
    ·unfold Pw at h1;split at h1
     ·rename_i v ar;rw[ar,V.zQ h1]
     ·cases h1
    ·exact Zi U r aI ai
   ·cases U
  ·rename_i aq;rcases List.mem_cons.1 aI with rfl|aI
   ·exfalso;have:is.any (Nat.beq r.i)=true:=List.any_eq_true.2 ⟨r.i,ai,BC _⟩;rw[this]at aq;cases aq
   ·exact Zi U r aI ai
theorem aLo{h:H}{is:List Nat}{aD:List Rec}(U:kK h is aD=true):∀r∈aD,r.i∈is->r.f.f r.I h=some r.v:=by
 intro r aI ai;unfold kK at U;split at U
 ·cases ai
 ·exact Zi U r aI ai
structure uv where
 I:Fr
 h:H
 ds:dB
 v:V
 wn:Bool
def IJ(J:Prog)(call:iy)(op:bn)(I:Fr)(h:H)(ds:dB)(v:V)(aa:H)(gG:dB):Prop:=match op with
 |.pu f=>f.f I=some v/\aa=h/\gG=ds
 |.rd f=>f.f I h=some v/\aa=h/\gG=ds
 |.mk f=>∃o g,f.f I=some (o,g)/\v=g h.next/\aa=h.new o/\gG=ds/\h.get h.next=none
 |op=>∀K,op.k J call I h ds K=K v aa gG
structure aDj(J:Prog)(call:iy)(io:bH)(a b:uv):Prop where
 guard:wanted io.guard a.I=some a.wn
 I:b.I=cX io.dst a.v a.I
 no:a.wn=false->a.v=.bk []/\b.h=a.h/\b.ds=a.ds
 yes:a.wn=true->IJ J call io.op a.I a.h a.ds a.v b.h b.ds
structure Trace(J:Prog)(call:iy)(bY:List (bH×List Nat))(i:Nat)(aD:List Rec)(T:Nat->uv):Prop where
 step:∀k io b,bY[k]?=some (io,b) ->aDj J call io (T k) (T (k+1))
 old:∀k io b,bY[k]?=some (io,b) ->io.op.q6=true->(T k).wn=true->∀r∈aD,r.i∈b->r.f.f r.I (T (k+1)).h=some r.v
 now:∀j k io b dh b3 f,j<k->bY[j]?=some (io,b) ->bY[k]?=some (dh,b3) ->dh.op.q6=true->(T k).wn=true->io.op=.rd f->(T j).wn=true->i+j∈b3->f.f (T j).I (T (k+1)).h=some (T j).v
theorem aDk{J:Prog}{call:iy}{op:bn}{I:Fr}{h:H}{ds:dB}{K:tm}{out:Out}(hw:op.q6=true)(he:op.k J call I h ds K=out)(db:out≠.no):
  ∃v aa gG,IJ J call op I h ds v aa gG/\K v aa gG=out:=by
 cases op with
 |pu _=>cases hw
 |rd _=>cases hw
 |mk _=>cases hw
 |wr f=>
  simp only[bn.k,Ir]at he;split at he
  ·rename_i v aa ar;exact⟨v,aa,ds,fun K=>by simp only[bn.k,Ir,ar],he⟩
  ·exact absurd he.symm db
 |call f args=>
  simp only[bn.k,KO]at he;split at he
  ·rename_i v aa ar;exact⟨v,aa,ds,fun K=>by simp only[bn.k,KO,ar],he⟩
  ·exact absurd he.symm db
 |defer f args=>
  simp only[bn.k,K6]at he;split at he
  ·rename_i g first cap ar
   exact⟨.bk [],h,_,fun K=>by simp only[bn.k,K6,ar],he⟩
  ·exact absurd he.symm db
 |bad _=>exact absurd he.symm db
theorem amN{J:Prog}{call:iy}:∀{bY:List (bH×List Nat)} {i:Nat} {aD:List Rec} {I:Fr} {h:H} {ds:dB} {out:Out},ky J call bY i aD I h ds=out->out≠.no->
  ∃T:Nat->uv,Trace J call bY i aD T/\(T 0).I=I/\(T 0).h=h/\(T 0).ds=ds/\out=.norm ⟨(T bY.length).I,(T bY.length).ds,(T bY.length).h⟩
 |[],i,aD,I,h,ds,out,he,db=>by
  refine⟨fun _=>⟨I,h,ds,.fO,false⟩,⟨fun k io b e=>by simp at e,fun k io b e=>by simp at e,fun j k io b dh b3 f _ e=>by simp at e⟩,rfl,rfl,rfl,he.symm⟩
 |(o,b)::bY,i,aD,I,h,ds,out,he,db=>by
  have go:∀(v:V) (wn:Bool) (aa:H) (gG:dB) (ID:List Rec),ky J call bY (i+1) ID (cX o.dst v I) aa gG=out->wanted o.guard I=some wn->(wn=false->v=.bk []/\aa=h/\gG=ds) ->
    (wn=true->IJ J call o.op I h ds v aa gG) ->(∀r∈aD,r∈ID) ->(∀f,o.op=.rd f->wn=true->(⟨i,f,I,v⟩:Rec)∈ID) ->(o.op.q6=true->wn=true->∀r∈aD,r.i∈b->r.f.f r.I aa=some r.v) ->
    ∃T:Nat->uv,Trace J call ((o,b)::bY) i aD T/\(T 0).I=I/\(T 0).h=h/\(T 0).ds=ds/\out=.norm ⟨(T ((o,b)::bY).length).I,(T ((o,b)::bY).length).ds,(T ((o,b)::bY).length).h⟩:=
   fun v wn aa gG ID d0 p1 aq ax ev Vl hold=>by
    obtain⟨T,bp,aN,bd,bO,fY⟩:=amN d0 db
    let apE:Nat->uv:=fun k=>match k with
     |0=>⟨I,h,ds,v,wn⟩
     |k+1=>T k
    refine⟨apE,⟨fun k io b3 e=>?_,fun k io b3 e hw IK r aI ai=>?_,fun j k io b3 dh Ay f h6 e cD hw IK cw aa3 ai=>?_⟩,rfl,rfl,rfl,fY⟩
    ·cases k with
     |zero=>
      simp at e;obtain⟨rfl,rfl⟩:=e;exact⟨p1,aN,fun q=>by obtain⟨a,b,c⟩:=aq q;exact⟨a,bd.trans b,bO.trans c⟩,fun q=>by
       have:=ax q;show IJ J call o.op I h ds v (T 0).h (T 0).ds;rw[bd,bO];exact this⟩
     |succ k=>exact bp.step k io b3 (by simpa using e)
    ·cases k with
     |zero=>
      simp at e;obtain⟨rfl,rfl⟩:=e;show r.f.f r.I (T 0).h=some r.v;rw[bd];exact hold hw IK r aI ai
     |succ k=>exact bp.old k io b3 (by simpa using e) hw IK r (ev r aI) ai
    ·cases k with
     |zero=>omega
     |succ k=>
      cases j with
      |zero=>
       simp at e;obtain⟨rfl,rfl⟩:=e;exact bp.old k dh Ay (by simpa using cD) hw IK _ (Vl f cw aa3) (by simpa using ai)
      |succ j=>
       refine bp.now j k io b3 dh Ay f (by omega) (by simpa using e) (by simpa using cD) hw IK cw aa3 ?_;have:i+(j+1)=i+1+j:=by omega
       rw[<-this];exact ai
  rw[ky]at he;split at he
  ·exact absurd he.symm db
  ·rename_i hw;split at he
   ·rename_i f cw;split at he
    ·rename_i v ar;exact go v true h ds _ he hw (by simp) (fun _=>by rw[cw];exact⟨ar,rfl,rfl⟩) (fun r aI=>x9 _ aI) (fun jw ll _=>by rw[cw]at ll;cases ll;exact zP ..) (fun e=>by rw[cw]at e;cases e)
    ·exact absurd he.symm db
   ·rename_i f cw;split at he
    ·rename_i lD;simp only[bn.k,My]at he;split at he
     ·rename_i cL g ar;exact go _ true _ ds _ he hw (by simp) (fun _=>by rw[cw];exact⟨cL,g,ar,rfl,rfl,rfl,lD⟩) (fun r aI=>aI) (fun jw ll _=>by rw[cw]at ll;cases ll) (fun e=>by rw[cw]at e;cases e)
     ·exact absurd he.symm db
    ·exact absurd he.symm db
   ·rename_i aa4 iS;cases e7:o.op.q6 with
    |true=>
     obtain⟨v,aa,gG,avZ,hk⟩:=aDk e7 he db;split at hk
     ·rename_i wg;exact go v true aa gG _ hk hw (by simp) (fun _=>avZ) (fun r aI=>aI) (fun jw ll _=>absurd ll (aa4 jw)) (fun _ _ r aI ai=>aLo wg r aI ai)
     ·exact absurd hk.symm db
    |false=>
     cases cw:o.op with
     |pu f=>
      rw[cw]at he;simp only[bn.k,Mx]at he;cases ar:f.f I with
      |none=>rw[ar]at he;exact absurd he.symm db
      |some v=>
       rw[ar]at he;simp only at he;split at he
       ·exact go v true h ds _ he hw (by simp) (fun _=>by rw[cw];exact⟨ar,rfl,rfl⟩) (fun r aI=>aI) (fun jw ll _=>by rw[cw]at ll;cases ll) (fun e=>by rw[e7]at e;cases e)
       ·exact absurd he.symm db
     |rd f=>exact absurd cw (aa4 f)
     |mk f=>exact absurd cw (iS f)
     |wr _=>rw[cw]at e7;cases e7
     |call _ _=>rw[cw]at e7;cases e7
     |defer _ _=>rw[cw]at e7;cases e7
     |bad _=>rw[cw]at e7;cases e7
  ·rename_i hw;exact go _ false h ds _ he hw (fun _=>⟨rfl,rfl,rfl⟩) (by simp) (fun r aI=>aI) (by simp) (by simp)
structure yS(p:Program)(N:Nat)(r:Bool)(ops:Array Oper)(bY:List (bH×List Nat))(id:Nat->Nat):Prop where
 op:∀k io b,bY[k]?=some (io,b) ->∃o,ops[id k]?=some o/\xg p N r ops o=some io
 inj:∀j k,j<bY.length->k<bY.length->id j=id k->j=k
 aqI:∀i,i<ops.size->∃k,k<bY.length/\id k=i
 av0:∀k o e,k<bY.length->ops[id k]?=some o->e∈o.after.toList->Region.binds .any e=true->∃j,j<k/\id j=e.on
 pair:∀j k io b dh b3 o cu,j<k->bY[j]?=some (io,b) ->bY[k]?=some (dh,b3) ->ops[id j]?=some o->ops[id k]?=some cu->
  MN ops (id j) (id k)\/(io.op.q6=false/\(∀t,o.dst=some t->(s6 ops cu).testBit t=false)/\∀t,cu.dst=some t->(s6 ops o).testBit t=false)
 back:∀j k io b dh b3,j<k->bY[j]?=some (io,b) ->bY[k]?=some (dh,b3) ->dh.op.q6=true->io.op.Va=true->MN ops (id j) (id k)\/j∈b3
theorem amO{α β:Type}{f:α->Option β}:∀{l:List α} {r:List β},l.mapM f=some r->∀{i:Nat} {a:α} {b:β},l[i]?=some a->r[i]?=some b->f a=some b
 |[],r,h,i,a,b,bN,_=>by simp at bN
 |x::l,r,h,i,a,b,bN,ah=>by
  simp only[r8,df,bK,ue,cN]at h;obtain⟨y,ax,cV,tF,rfl⟩:=h;cases i with
  |zero=>simp at bN ah;subst bN ah;exact ax
  |succ i=>simp at bN ah;exact amO tF bN ah
theorem aDl{N:Nat}{r:Bool}{ops:Array Oper}{kU:List bH}(xS:ops.toList.mapM (xg p N r ops)=some kU){l:List i4}(au:∀x∈l,∃o,Xb ops kU (F2 ops.toList []) x o)(iE:Lj (2^ops.size-1) l [] 0=true):
  yS p N r ops (items l [] 0) (fun k=>(l[k]?.map i4.id).getD 0):=by
 obtain⟨bj,a8⟩:=ao3 iE (fun i=>by simp);have hlen:=ao4 l [] 0;have afC:=al9 (ops:=ops) ops.toList [] rfl (fun j a i h=>by simp at h);have hid:∀{k:Nat} {x:i4},l[k]?=some x->(l[k]?.map i4.id).getD 0=x.id:=fun h=>by rw[h];rfl
 have at_:∀{k:Nat} {io:bH} {b:List Nat},(items l [] 0)[k]?=some (io,b) ->∃ x o,l[k]?=some x/\io=x.io/\Xb ops kU (F2 ops.toList []) x o:=fun{k io b} h=>by
  obtain⟨y,h1,ae,_⟩:=Zh h;obtain⟨o,a6⟩:=au y (c0 h1);exact⟨y,o,h1,ae,a6⟩
 have lt:∀{k:Nat},k<(items l [] 0).length->∃ x,l[k]?=some x:=fun{k} h=>by
  rw[hlen]at h;exact⟨_,hN h⟩
 refine⟨fun k io b h=>?_,fun j k a5 hk he=>?_,fun i ai=>?_,fun k o e hk a6 he ah=>?_,fun j k io b dh b3 o cu h6 h1 ae a6 m5=>?_,fun j k io b dh b3 h6 h1 ae hw aI=>?_⟩
 ·obtain⟨x,o,ab,rfl,ok⟩:=at_ h;rw[hid ab];refine⟨o,ok.op,amO xS ?_ ok.io⟩;simpa using ok.op
 ·obtain⟨x,ab⟩:=lt a5;obtain⟨y,ax⟩:=lt hk;simp only[hid ab,hid ax]at he;rcases Nat.lt_trichotomy j k with h|h|h
  ·exact absurd he ((bj k y ax).2.1 j x h ab).2
  ·exact h
  ·exact absurd he.symm ((bj j x ab).2.1 k y h ax).2
 ·rcases a8 i (by rw[Nat.testBit_two_pow_sub_one];simpa using ai)with⟨x,ab,_⟩|⟨j,x,ab,e⟩
  ·cases ab
  ·refine⟨j,?_,by rw[hid ab];exact e⟩;rw[hlen];exact(List.getElem?_eq_some_iff.1 ab).1
 ·obtain⟨x,ab⟩:=lt hk;rw[hid ab]at a6;obtain⟨cu,ok⟩:=au x (c0 ab);rw[ok.op]at a6;cases a6;rcases(bj k x ab).2.2 e.on (by rw[ok.em];exact aH5 he ah)with⟨z,aX,_⟩|⟨j,z,a5,aX,mX⟩
  ·cases aX
  ·exact⟨j,a5,by rw[hid aX];exact mX⟩
 ·obtain⟨x,pR,ab,rfl,Fa⟩:=at_ h1;obtain⟨y,Q4,ax,rfl,CD⟩:=at_ ae;rw[hid ab]at a6⊢;rw[hid ax]at m5⊢;rw[Fa.op]at a6;rw[CD.op]at m5;cases a6;cases m5;have bh:=((bj k y ax).2.1 j x h6 ab).1
  unfold Py at bh;split at bh
  ·rename_i ah;exact .inl (afC _ _ _ CD.gv ah)
  ·split at bh
   ·cases bh
   ·rename_i hw;simp only[dJ]at bh;refine .inr ⟨by rw[<-Fa.wr];exact hw,fun t bp=>?_,fun t bp=>?_⟩
    ·cases aM:(s6 ops cu).testBit t with
     |false=>rfl
     |true=>exact(ao2 bh.1 (by rw[Fa.d];exact Qo.2 bp) (by rw[CD.n];exact aM)).elim
    ·cases aM:(s6 ops o).testBit t with
     |false=>rfl
     |true=>exact(ao2 bh.2 (by rw[CD.d];exact Qo.2 bp) (by rw[Fa.n];exact aM)).elim
 ·obtain⟨x,pR,ab,rfl,Fa⟩:=at_ h1;obtain⟨y,ax,e,KS⟩:=Zh ae;obtain⟨Q4,CD⟩:=au y (c0 ax);rw[hid ab,hid ax];subst e;cases ah:y.gv.testBit x.id with
  |true=>exact .inl (afC _ _ _ CD.gv ah)
  |false=>
   have:=(KS (by rw[CD.wr];exact hw)).2 j x h6 ab (by rw[Fa.rd];exact aI) ah;exact .inr (by simpa using this)
theorem aJO{N:Nat}{r:Bool}{ops:Array Oper}{kU:List bH}(xS:ops.toList.mapM (xg p N r ops)=some kU):(∃w,Pb ops kU=.bad w)\/∃bY id,Pb ops kU=.qi bY/\yS p N r ops bY id:=by
 unfold Pb;simp only;split
 ·rename_i h;refine .inr ⟨_,_,rfl,aDl xS (fun x ab=>?_) h⟩;exact amL (by simp) (by simp) (by simp) (anL _ ab)
 ·exact .inl ⟨_,rfl⟩
theorem anN{h aa:H}(hm:∀g x,h.get g=some x->aa.get g=some x){f:P}{k:Nat}{cs:List V}(e:live h f k=some cs):live aa f k=some cs:=by
 unfold live at e⊢;cases aC:h.get f with
 |none=>rw[aC]at e;cases e
 |some o=>rw[aC]at e;rw[hm f o aC];exact e
theorem aoJ{h aa:H}(hm:∀g x,h.get g=some x->aa.get g=some x){f:P}{k off n:Nat}{cs:List V}(e:lu (live h f k) off n=some cs):lu (live aa f k) off n=some cs:=by
 cases au:live h f k with
 |none=>rw[au]at e;cases e
 |some xs=>rw[au]at e;rw[anN hm au];exact e
theorem aom{h aa:H}(hm:∀g x,h.get g=some x->aa.get g=some x){v:V}{es:List (V×V×Nat)}(e:zx h v=some es):zx aa v=some es:=by
 unfold zx at e⊢;split
 ·exact e
 ·rename_i f;simp only at e;cases aC:h.get f with
  |none=>rw[aC]at e;cases e
  |some o=>rw[aC]at e;rw[hm f o aC];exact e
 ·rename_i h1 ae;split at e
  ·exact absurd rfl h1
  ·exact absurd rfl (ae _)
  ·cases e
theorem aFL{h aa:H}(hm:∀g x,h.get g=some x->aa.get g=some x){f:IR}{I:Fr}{v:V}(e:f.f I h=some v):f.f I aa=some v:=by
 cases f with
 |load agg n x=>
  simp only[IR.f,DR]at e⊢;generalize x.a7 I=q at*;split at e
  ·rename_i f k off room;split at e
   ·cases aI:lu (live h f k) off n with
    |none=>rw[aI]at e;simp[one]at e
    |some cs=>rw[aI]at e;rw[aoJ hm aI];exact e
   ·cases e
  ·cases e
 |FW x=>
  simp only[IR.f,KJ]at e⊢;generalize x.a7 I=q at*;split at e
  ·exact e
  ·rename_i f k off len es cap;split at e
   ·cases aI:lu (live h f k) off len with
    |none=>rw[aI]at e;cases e
    |some cs=>rw[aI]at e;rw[aoJ hm aI];exact e
   ·cases e
  ·cases e
 |lookup q z ok x k=>
  simp only[IR.f,Lh]at e⊢;cases aI:zx h (x.a7 I)with
  |none=>rw[aI]at e;cases e
  |some cs=>rw[aI]at e;rw[aom hm aI];exact e
 |U0 x=>
  simp only[IR.f,KK]at e⊢;cases aI:zx h (x.a7 I)with
  |none=>rw[aI]at e;cases e
  |some cs=>rw[aI]at e;rw[aom hm aI];exact e
 |U1 x=>
  simp only[IR.f,KL]at e⊢;generalize x.a7 I=q at*;split at e
  ·exact e
  ·rename_i f k off room;cases aI:live h f k with
   |none=>rw[aI]at e;cases e
   |some cs=>rw[aI]at e;rw[anN hm aI];exact e
  ·cases e
 |U2 ty s x=>
  simp only[IR.f,KM]at e⊢;generalize x.a7 I=q at*;split at e
  ·exact e
  ·rename_i f k off room;cases aC:h.get f with
   |none=>rw[aC]at e;cases e
   |some o=>rw[aC]at e;rw[hm f o aC];exact e
  ·cases e
theorem aH7{h:H}{o:O}(aq:h.get h.next=none):∀g x,h.get g=some x->(h.new o).get g=some x:=fun g x e=>by
 rw[H.lV]
 ·exact e
 ·rintro rfl;rw[aq]at e;cases e
theorem Step.BT{eS M:aW}{av h:H}{fq w:World}(s:Step p eS av fq M h w)(o:O):Step p eS av fq M (h.new o) w:=by
 have aC:∀{f:P} {k:Nat} {l:Loc},M f k=some l->(h.new o).get f=h.get f:=fun{f k l} e=>H.lV h o (by
  rintro rfl;rw[s.rel.sk]at e;cases e)
 exact{s with
  rel:=s.rel.BT o
  next:=by rw[H.fF];have:=s.next;omega
  uH:=fun f k l a e=>s.uH f k l ((H.sm (aC e)).1 a) e
  u1:=fun f k l a e=>s.u1 f k l ((H.uo (aC e)).1 a) e
  wK:=fun f aE e=>by
   rw[H.lV]
   ·exact s.wK f aE e
   ·rintro rfl;have:=s.next;omega
  tn:=fun f aE e=>by
   rw[H.lV h o (by rintro rfl;have:=s.next;omega)]at e;exact s.tn f aE e}
theorem wR.BT{M:aW}{h:H}{w:World}{b2 r:Nat}(aI:Rel p M h w.heap)(m:wR M h w b2 r)(o:O):wR M (h.new o) w b2 r:=by
 obtain⟨h1,ae,az⟩:=m;refine⟨h1,ae,fun f k l a e=>az f k l ((H.uo (H.lV h o ?_)).1 a) e⟩
 rintro rfl;rw[aI.sk]at e;cases e
theorem Step.GG{eS M:aW}{av h:H}{fq w w':World}(s:Step p eS av fq M h w){f:P}(kG:aH av.next<=aH f)(aE:M f 0=none)(ay:aH f<aH h.next){o:O}(a6:h.get f=some o){l:Loc}{cL:Obj}(au:l.bS=w.heap.size)
  (aq:re p (M.add f 0 l) l o cL) (hw:w'.heap=w.heap.push cL) (h1:w'.os=w.os) (ae:w'.output=w.output) (az:w'.tape=w.tape):Step p eS av fq (M.add f 0 l) h w':=by
 have hold:∀b,b<w.heap.size->w'.heap[b]?=w.heap[b]?:=fun b ah=>by rw[hw,wL];simp;omega
 have eN:w.heap.size<=w'.heap.size:=by rw[hw];simp
 have aI:=s.rel.GG aE ay a6 (l:=l) (cL:=cL) (kE:=w'.heap) (fun g k m _ e=>by have:=s.rel.lt e;omega) eN (by rw[hw,au];simp) (fun b ah _=>hold b ah) (by rw[hw,au];simp) aq;have iz:∀{g:P} {k:Nat} {m:Loc},M.add f 0 l g k=some m->(g=f/\k=0/\m=l)\/M g k=some m:=fun{g k m} e=>by
  by_cases aC:g=f/\k=0
  ·rw[aC.1,aC.2,aW.add_same]at e;cases e;exact .inl ⟨aC.1,aC.2,rfl⟩
  ·rw[aW.mf M l aC]at e;exact .inr e
 have aA:=s.size;exact
 {rel:=aI
  mono:=aW.le_trans s.mono (aW.qo aE)
  next:=s.next
  size:=iK s.size eN
  fresh:=fun g k m e bA=>by
   rcases iz e with⟨rfl,_,_⟩|e
   ·exact .inl kG
   ·exact s.fresh g k m e bA
  s8:=fun b ah db=>by rw[hold b (by omega)];exact s.s8 b ah db
  uH:=fun g k m a e=>by
   rcases iz e with⟨_,_,rfl⟩|e
   ·exact .inl (by omega)
   ·exact s.uH g k m a e
  u1:=fun g k m a e=>by
   rcases iz e with⟨_,_,rfl⟩|e
   ·exact .inl (by omega)
   ·exact s.u1 g k m a e
  wK:=s.wK
  os:=h1.trans s.os
  out:=ae.trans s.out
  tape:=az.trans s.tape
  zG:=fun g k m e bA=>by
   rcases iz e with⟨rfl,_,_⟩|e
   ·exact .inl kG
   ·exact s.zG g k m e bA
  tn:=s.tn}
theorem Qp(d:Option S)(v:V)(I:Fr)(s:S):(cX d v I).get s=if d=some s then v else I.get s:=by
 cases d with
 |none=>simp[cX]
 |some d=>
  by_cases h:d=s
  ·subst h;rw[bl rfl];exact Fr.gV _ _ _
  ·rw[bf (by simpa using h)];exact Fr.ej _ _ h
theorem iX.afD{M:aW}{N:Nat}{I aQ:Fr}{tmps:Array Value}(h:iX M N I tmps)(e:∀n,n<N->aQ.get (a0 n)=I.get (a0 n)):iX M N aQ tmps:=
 ⟨h.size,h.le,fun n aq=>let⟨aL,a,b⟩:=h.get n aq;⟨aL,a,by rw[e n aq];exact b⟩⟩
def h7(T:Nat->uv)(bY:List (bH×List Nat))(id:Nat->Nat)(bF:Array Bool):Nat->Fr
 |0=>(T 0).I
 |k+1=>match bY[k]? with
  |some (io,_)=>match bF.getD (id k) false with
   |true=>cX io.dst (T k).v (h7 T bY id bF k)
   |false=>h7 T bY id bF k
  |none=>h7 T bY id bF k
section
variable {bY:List (bH×List Nat)}{id:Nat->Nat}{J:Prog}{call:iy}{T:Nat->uv}(aG:Trace J call bY 0 [] T)
include aG
theorem Zj{bF:Array Bool}{s:S}:∀k,k<=bY.length->(∀j io b,j<k->bY[j]?=some (io,b) ->bF.getD (id j) false=false->io.dst≠some s) ->(h7 T bY id bF k).get s=(T k).I.get s
 |0,_,_=>rfl
 |k+1,hk,hu=>by
  obtain⟨⟨io,b⟩,dS⟩:∃q,bY[k]?=some q:=⟨_,hN (by omega)⟩;have ih:=Zj (bF:=bF) (s:=s) k (by omega) fun j io b a5=>hu j io b (by omega);rw[(aG.step k io b dS).I,Qp];simp only[h7,dS];cases au:bF.getD (id k) false with
  |true=>simp only[Qp,ih]
  |false=>
   simp only[ih];rw[bf (hu k io b (by omega) dS au)]
theorem aJP{bF:Array Bool}{s:S}{k:Nat}(hk:k<=bY.length)(hu:∀j io b,j<k->bY[j]?=some (io,b) ->bF.getD (id j) false=false->io.dst≠some s):
  ∀t,k<=t->(∀j io b,k<=j->j<t->bY[j]?=some (io,b) ->bF.getD (id j) false=true->io.dst≠some s) ->(h7 T bY id bF t).get s=(T k).I.get s:=by
 intro t bp au
 induction t with
 |zero=>
  have:k=0:=by omega
  subst this;rfl
 |succ t ih=>
  by_cases fP:k=t+1
  ·subst fP;exact Zj aG _ hk hu
  ·have ih:=ih (by omega) fun j io b h1 ae=>au j io b h1 (by omega);cases dS:bY[t]? with
   |none=>simp only[h7,dS,ih]
   |some q=>
    obtain⟨io,b⟩:=q;cases aM:bF.getD (id t) false with
    |true=>
     simp only[h7,dS,aM,Qp,ih];rw[bf (au t io b (by omega) (by omega) dS aM)]
    |false=>simp only[h7,dS,aM,ih]
end
theorem YX{T:Nat->uv}{bY:List (bH×List Nat)}{id:Nat->Nat}{bF aa5:Array Bool}:∀t,(∀j,j<t->j<bY.length->aa5.getD (id j) false=bF.getD (id j) false) ->h7 T bY id aa5 t=h7 T bY id bF t
 |0,_=>rfl
 |t+1,h=>by
  have ih:=YX (T:=T) t fun j a5=>h j (by omega);cases dS:bY[t]? with
  |none=>simp only[h7,dS,ih]
  |some q=>
   obtain⟨io,b⟩:=q;simp only[h7,dS,ih,h t (by omega) (List.getElem?_eq_some_iff.1 dS).1]
end
abbrev BK:=@Option.some.inj
section
variable {p:Program}
structure Inv(p:Program)(N b2:Nat)(ops:Array Oper)(bY:List (bH×List Nat))(id:Nat->Nat)(T:Nat->uv)(eS:aW)(fq:World)(bF:Array Bool)(t:Nat)(M:aW)(a:Act)(w:World):Prop where
 gM:bF.size=ops.size
 cl:Closed ops (fun i=>bF.getD i false=true)
 le:t<=bY.length
 ge:∀k,t<=k->k<bY.length->bF.getD (id k) false=false
 wr:∀k io b,k<t->bY[k]?=some (io,b) ->io.op.q6=true->bF.getD (id k) false=true
 st:Step p eS (T 0).h fq M (T t).h w
 kh:hl M N b2 ⟨h7 T bY id bF t,(T t).ds,(T t).h⟩ a w
 br:∀k io b f,k<t->bY[k]?=some (io,b) ->(T k).wn=true->io.op=.mk f->aH (T 0).h.next<=aH (T k).h.next
 lt:∀k io b f,k<t->bY[k]?=some (io,b) ->(T k).wn=true->io.op=.mk f->aH (T k).h.next<aH (T t).h.next
 ord:∀j k io b f dh b3 jw,j<k->k<t->bY[j]?=some (io,b) ->(T j).wn=true->io.op=.mk f->bY[k]?=some (dh,b3) ->(T k).wn=true->dh.op=.mk jw->aH (T j).h.next<aH (T k).h.next
 un:∀k io b f,k<t->bY[k]?=some (io,b) ->(T k).wn=true->io.op=.mk f->bF.getD (id k) false=false->M (T k).h.next 0=none/\∀o g,f.f (T k).I=some (o,g) ->(T t).h.get (T k).h.next=some o
 rd:∀k io b f,k<t->bY[k]?=some (io,b) ->(T k).wn=true->io.op=.rd f->bF.getD (id k) false=false->f.f (T k).I (T t).h=some (T k).v
def Xc(bY:List (bH×List Nat))(t:Nat):Prop:=t=bY.length\/∃io b,bY[t]?=some (io,b)/\io.op.q6=true
section
variable {N b2:Nat}{r:Bool}{ops:Array Oper}{bY:List (bH×List Nat)}{id:Nat->Nat}{J:Prog}{call:iy}{T:Nat->uv}{eS:aW}{fq:World}
theorem Inv.aqJ(aG:Trace J call bY 0 [] T){bF:Array Bool}{t:Nat}{M:aW}{a:Act}{w:World}(bn:Inv p N b2 ops bY id T eS fq bF t M a w){io:bH}{b:List Nat}(dS:bY[t]?=some (io,b))(hw:io.op.q6=false):
  Inv p N b2 ops bY id T eS fq bF (t+1) M a w:=by
 have ay:t<bY.length:=(List.getElem?_eq_some_iff.1 dS).1;have kq:=bn.ge t (a1 _) ay;have aE:h7 T bY id bF (t+1)=h7 T bY id bF t:=by simp only[h7,dS,kq]
 have S:=aG.step t io b dS;have key:((T (t+1)).h=(T t).h/\(∀f,io.op=.mk f->(T t).wn=false)/\∀f,io.op=.rd f->(T t).wn=true->f.f (T t).I (T t).h=some (T t).v)/\(T (t+1)).ds=(T t).ds\/
   (∃f o g,io.op=.mk f/\f.f (T t).I=some (o,g)/\(T (t+1)).h=(T t).h.new o/\(T t).h.get (T t).h.next=none)/\(T (t+1)).ds=(T t).ds:=by
  cases p1:(T t).wn with
  |false=>obtain⟨_,a8,cc⟩:=S.no p1;exact .inl ⟨⟨a8,(fun _ _=>rfl),(fun _ _ e=>by cases e)⟩,cc⟩
  |true=>
   have e:=S.yes p1;cases cw:io.op with
   |pu f=>rw[cw]at e;obtain⟨_,a8,cc⟩:=e;exact .inl ⟨⟨a8,(fun _ e=>by cases e),(fun _ e=>by cases e)⟩,cc⟩
   |rd f=>rw[cw]at e;obtain⟨bj,a8,cc⟩:=e;exact .inl ⟨⟨a8,(fun _ e=>by cases e),(fun jw e _=>by cases e;exact bj)⟩,cc⟩
   |mk f=>rw[cw]at e;obtain⟨o,g,bj,a8,cc,dc,dn⟩:=e;exact .inr ⟨⟨f,o,g,rfl,bj,cc,dn⟩,dc⟩
   |wr _=>rw[cw]at hw;cases hw
   |call _ _=>rw[cw]at hw;cases hw
   |defer _ _=>rw[cw]at hw;cases hw
   |bad _=>rw[cw]at hw;cases hw
 have aa6:∀k io b,k<t+1->bY[k]?=some (io,b) ->io.op.q6=true->bF.getD (id k) false=true:=fun k dh b3 hk h1 ae=>by
  by_cases fP:k=t
  ·subst fP;rw[dS]at h1;cases h1;rw[hw]at ae;cases ae
  ·exact bn.wr k dh b3 (by omega) h1 ae
 rcases key with⟨⟨aJ,iS,R5⟩,oa⟩|⟨⟨aMs,o,g,cw,sG,aJ,aDm⟩,oa⟩
 ·refine⟨bn.gM,bn.cl,ay,fun k h1 ae=>bn.ge k (by omega) ae,aa6,by rw[aJ];exact bn.st,by rw[aE,aJ,oa];exact bn.kh,fun k dh b3 f hk h1 ae az=>?_,fun k dh b3 f hk h1 ae az=>?_,fun j k dh b3 f J5 Ay jw h6 hk h1 ae az bo cb dM=>?_,fun k dh b3 f hk h1 ae az bo=>?_,fun k dh b3 f hk h1 ae az bo=>?_⟩
  ·by_cases fP:k=t
   ·subst fP;rw[dS]at h1;cases h1;rw[iS f az]at ae;cases ae
   ·exact bn.br k dh b3 f (by omega) h1 ae az
  ·by_cases fP:k=t
   ·subst fP;rw[dS]at h1;cases h1;rw[iS f az]at ae;cases ae
   ·rw[aJ];exact bn.lt k dh b3 f (by omega) h1 ae az
  ·by_cases fP:k=t
   ·subst fP;rw[dS]at bo;cases bo;rw[iS jw dM]at cb;cases cb
   ·exact bn.ord j k dh b3 f J5 Ay jw h6 (by omega) h1 ae az bo cb dM
  ·by_cases fP:k=t
   ·subst fP;rw[dS]at h1;cases h1;rw[iS f az]at ae;cases ae
   ·rw[aJ];exact bn.un k dh b3 f (by omega) h1 ae az bo
  ·rw[aJ];by_cases fP:k=t
   ·subst fP;rw[dS]at h1;cases h1;exact R5 f az ae
   ·exact bn.rd k dh b3 f (by omega) h1 ae az bo
 ·have akz:=aH7 (o:=o) aDm;have bV:∀{q:P},aH q<aH (T t).h.next->(T t).h.next≠q:=fun{q} h e=>by subst e;omega
  have sH:aH (T (t+1)).h.next=aH (T t).h.next+1:=by rw[aJ];exact H.fF _ _
  refine⟨bn.gM,bn.cl,ay,fun k h1 ae=>bn.ge k (by omega) ae,aa6,by rw[aJ];exact bn.st.BT o,?_,fun k dh b3 f hk h1 ae az=>?_,fun k dh b3 f hk h1 ae az=>?_,fun j k dh b3 f J5 Ay jw h6 hk h1 ae az bo cb dM=>?_,fun k dh b3 f hk h1 ae az bo=>?_,fun k dh b3 f hk h1 ae az bo=>?_⟩
  ·rw[aE,aJ,oa];exact⟨bn.kh.I,bn.kh.ds,fun r aI=>(bn.kh.marks r aI).BT bn.st.rel o,bn.kh.nodup⟩
  ·by_cases fP:k=t
   ·subst fP;exact bn.st.next
   ·exact bn.br k dh b3 f (by omega) h1 ae az
  ·rw[sH];by_cases fP:k=t
   ·subst fP;omega
   ·have:=bn.lt k dh b3 f (by omega) h1 ae az;omega
  ·by_cases fP:k=t
   ·subst fP;exact bn.lt j dh b3 f h6 h1 ae az
   ·exact bn.ord j k dh b3 f J5 Ay jw h6 (by omega) h1 ae az bo cb dM
  ·by_cases fP:k=t
   ·subst fP;refine⟨bn.st.rel.sk 0,fun cu bR e=>?_⟩;rw[dS]at h1;cases h1;rw[cw]at az;cases az;rw[sG]at e;cases e;rw[aJ];exact H.vp _ _
   ·obtain⟨bj,a8⟩:=bn.un k dh b3 f (by omega) h1 ae az bo;refine⟨bj,fun cu bR e=>?_⟩;rw[aJ];exact akz _ _ (a8 cu bR e)
  ·rw[aJ];by_cases fP:k=t
   ·subst fP;rw[dS]at h1;cases h1;rw[cw]at az;cases az
   ·exact aFL akz (bn.rd k dh b3 f (by omega) h1 ae az bo)
theorem Inv.front(aG:Trace J call bY 0 [] T){bF:Array Bool}{M:aW}{a:Act}{w:World}:∀(d t:Nat),bY.length-t=d->Inv p N b2 ops bY id T eS fq bF t M a w->∃h0,Inv p N b2 ops bY id T eS fq bF h0 M a w/\Xc bY h0
 |0,t,a3,bn=>⟨t,bn,.inl (by have:=bn.le;omega)⟩
 |d+1,t,a3,bn=>by
  have ay:t<bY.length:=by omega
  obtain⟨⟨io,b⟩,dS⟩:∃q,bY[t]?=some q:=⟨_,hN ay⟩;cases hw:io.op.q6 with
  |true=>exact⟨t,bn,.inr ⟨io,b,dS,hw⟩⟩
  |false=>exact Inv.front aG d (t+1) (by omega) (bn.aqJ aG dS hw)
theorem Inv.agree(D:yS p N r ops bY id)(aG:Trace J call bY 0 [] T){bF:Array Bool}{t:Nat}{M:aW}{a:Act}{w:World}(bn:Inv p N b2 ops bY id T eS fq bF t M a w){k:Nat}{io:bH}{b:List Nat}{o:Oper}(fP:k<=t)(dS:bY[k]?=some (io,b))
  (a6:ops[id k]?=some o) (kq:bF.getD (id k) false=false) (ev:Bc ops (fun i=>bF.getD i false=true) (id k)) {n:Nat} (aq:n<N) (iS:(s6 ops o).testBit n=true):(h7 T bY id bF t).get (a0 n)=(T k).I.get (a0 n):=by
 have vt:=bn.kh.I.le;have dst:∀{j:Nat} {dh:bH} {b3:List Nat} {cu:Oper},bY[j]?=some (dh,b3) ->ops[id j]?=some cu->dh.dst=some (a0 n) ->cu.dst=some n:=fun{j dh b3 cu} h1 ae az=>by
  obtain⟨dD,bj,a8⟩:=D.op j dh b3 h1;rw[ae]at bj;cases bj;obtain⟨a3,_,_⟩:=LI a8 bn.kh.I;rcases YU a3 with⟨_,e⟩|⟨m,aN,hm,bd⟩
  ·rw[e]at az;cases az
  ·rw[bd]at az;have:m=n:=G0 (by omega) (by omega) (BK az);subst this;exact aN
 refine aJP aG (iK fP bn.le) (fun j dh b3 a5 h1 ae az=>?_) t fP fun j dh b3 a5 R6 h1 ae az=>?_
 ·obtain⟨cu,bj,_⟩:=D.op j dh b3 h1;rcases D.pair j k dh b3 io b cu o a5 h1 dS bj a6 with h|⟨_,h,_⟩
  ·have:bF.getD (id j) false=true:=h _ bn.cl ev;rw[ae]at this;cases this
  ·have:=h n (dst h1 bj az);rw[iS]at this;cases this
 ·rcases dz k j with aa7|aa7
  ·obtain⟨cu,bj,_⟩:=D.op j dh b3 h1;rcases D.pair k j io b dh b3 o cu aa7 dS h1 a6 bj with h|⟨_,_,h⟩
   ·have:bF.getD (id k) false=true:=h _ bn.cl (fun dD e yP he ah=>bn.cl (id j) dD e ae yP he ah);rw[kq]at this;cases this
   ·have:=h n (dst h1 bj az);rw[iS]at this;cases this
  ·have:j=k:=by omega
   subst this;rw[kq]at ae;cases ae
end
theorem Eu{bF:Array Bool}{i j:Nat}(ai:i<bF.size):(bF.setIfInBounds i true).getD j false=if j=i then true else bF.getD j false:=by
 rw[BJ,BJ];by_cases h:j=i
 ·subst h;simp[ai]
 ·rw[bf h,GF (fun e=>h e.symm)]
section
variable {N b2:Nat}{r:Bool}{ops:Array Oper}{bY:List (bH×List Nat)}{id:Nat->Nat}{J:Prog}{call:iy}{T:Nat->uv}{eS:aW}{fq:World}
theorem aon{bF:Array Bool}{i:Nat}(ai:i<bF.size)(U:Closed ops (fun i=>bF.getD i false=true))(ev:Bc ops (fun i=>bF.getD i false=true) i):Closed ops (fun j=>(bF.setIfInBounds i true).getD j false=true):=by
 intro x o e ab a6 he ah;simp only[Eu ai]at ab⊢;have:bF.getD e.on false=true:=by
  by_cases h:x=i
  ·subst h;exact ev o e a6 he ah
  ·rw[bf h]at ab;exact U x o e ab a6 he ah
 rw[this];simp
theorem Inv.list(D:yS p N r ops bY id)(aG:Trace J call bY 0 [] T){bF:Array Bool}{t:Nat}{M aT:aW}{a:Act}{w w':World}(bn:Inv p N b2 ops bY id T eS fq bF t M a w){k:Nat}{io:bH}{b:List Nat}{o:Oper}(fP:k<t)(dS:bY[k]?=some (io,b))
  (a6:ops[id k]?=some o) (kq:bF.getD (id k) false=false) (ev:Bc ops (fun i=>bF.getD i false=true) (id k)) (a3:zg N o.dst=some io.dst) {aL:Value} (mm:Step p eS (T 0).h fq aT (T t).h w') (hle:M.le aT) (h8:∀r,wR M (T t).h w b2 r->wR aT (T t).h w' b2 r)
  (ar:bm aT (T k).v aL) (R7:∀j dh b3 f,j≠k->j<t->bY[j]?=some (dh,b3) ->(T j).wn=true->dh.op=.mk f->bF.getD (id j) false=false->aT (T j).h.next 0=none):
  Inv p N b2 ops bY id T eS fq (bF.setIfInBounds (id k) true) t aT (a.put o.dst aL) w':=by
 have ay:k<bY.length:=(List.getElem?_eq_some_iff.1 dS).1;have ai:id k<bF.size:=by rw[bn.gM];exact(Array.getElem?_eq_some_iff.1 a6).1
 have vt:=bn.kh.I.le;have bV:∀{j:Nat},j<bY.length->j≠k->id j≠id k:=fun{j} a5 h6 e=>h6 (D.inj j k a5 ay e);have jn:∀{j:Nat},j<bY.length->j≠k->(bF.setIfInBounds (id k) true).getD (id j) false=bF.getD (id j) false:=fun{j} a5 h6=>by rw[Eu ai,bf (bV a5 h6)]
 have Gu:(bF.setIfInBounds (id k) true).getD (id k) false=true:=by rw[Eu ai,bl rfl]
 have alk:∀{j:Nat} {dh:bH} {b3:List Nat},bY[j]?=some (dh,b3) ->(bF.setIfInBounds (id k) true).getD (id j) false=false->j≠k/\bF.getD (id j) false=false:=fun{j dh b3} h1 ae=>by
  have a5:j<bY.length:=(List.getElem?_eq_some_iff.1 h1).1;by_cases h6:j=k
  ·subst h6;rw[Gu]at ae;cases ae
  ·rw[jn a5 h6]at ae;exact⟨h6,ae⟩
 refine⟨by simp[bn.gM],aon ai bn.cl ev,bn.le,fun j h1 ae=>?_,fun j dh b3 h1 ae az=>?_,mm,?_,bn.br,bn.lt,bn.ord,fun j dh b3 f h1 ae az bo cb=>?_,fun j dh b3 f h1 ae az bo cb=>?_⟩
 ·rw[jn ae (by omega)];exact bn.ge j h1 ae
 ·by_cases h6:j=k
  ·subst h6;exact Gu
  ·rw[jn (List.getElem?_eq_some_iff.1 ae).1 h6];exact bn.wr j dh b3 h1 ae az
 ·
  have Vm:(a.put o.dst aL).defers=a.defers:=by cases o.dst<;>rfl
  have Vk:iX aT N (cX io.dst (T k).v (h7 T bY id bF t)) (a.put o.dst aL).tmps:=amJ a3 (bn.kh.I.mono hle) ar;refine⟨Vk.afD fun n aq=>?_,by rw[Vm];exact bn.kh.ds.mono hle,by rw[Vm];exact fun r aI=>h8 r (bn.kh.marks r aI),by rw[Vm];exact bn.kh.nodup⟩;show(h7 T bY id (bF.setIfInBounds (id k) true) t).get (a0 n)=_;have:∀h0,k<h0->h0<=t->(h7 T bY id (bF.setIfInBounds (id k) true) h0).get (a0 n)=(cX io.dst (T k).v (h7 T bY id bF h0)).get (a0 n):=fun h0 h1 ae=>by
   induction h0 with
   |zero=>omega
   |succ j ih=>
    by_cases h6:j=k
    ·subst h6;have aN:h7 T bY id (bF.setIfInBounds (id j) true) j=h7 T bY id bF j:=YX j fun i az bo=>jn bo (by omega);simp only[h7,dS,Gu,kq,aN]
    ·have ih:=ih (by omega) (by omega);have tK:j<bY.length:=by have:=bn.le;omega
     obtain⟨⟨dh,b3⟩,nc⟩:∃q,bY[j]?=some q:=⟨_,hN tK⟩;cases aM:bF.getD (id j) false with
     |false=>simp only[h7,nc,jn tK h6,aM];exact ih
     |true=>
      simp only[h7,nc,jn tK h6,aM,Qp,ih];by_cases az:dh.dst=some (a0 n)
      ·rw[bl az];by_cases bo:io.dst=some (a0 n)
       ·exfalso;obtain⟨cu,bj,a8⟩:=D.op j dh b3 nc;obtain⟨E9,_,_⟩:=LI a8 bn.kh.I;have aa8:∀{o:Oper} {d:Option S},zg N o.dst=some d->d=some (a0 n) ->o.dst=some n:=fun{o d} U h=>by
         rcases YU U with⟨_,e⟩|⟨m,aN,hm,bd⟩
         ·rw[e]at h;cases h
         ·rw[bd]at h;have:m=n:=G0 (by omega) (by omega) (BK h);subst this;exact aN
        rcases D.pair k j io b dh b3 o cu (by omega) dS nc a6 bj with h|⟨_,h,_⟩
        ·have:bF.getD (id k) false=true:=h _ bn.cl (fun dD e yP he ah=>bn.cl (id j) dD e aM yP he ah);rw[kq]at this;cases this
        ·have:=h n (aa8 a3 bo);rw[aJN (aa8 E9 az)]at this;cases this
       ·rw[bf bo,bl az]
      ·rw[bf az,bf az]
  exact this t fP (a1 _)
 ·obtain⟨bj,a8⟩:=alk ae cb;exact⟨R7 j dh b3 f bj h1 ae az bo a8,(bn.un j dh b3 f h1 ae az bo a8).2⟩
 ·obtain⟨bj,a8⟩:=alk ae cb;exact bn.rd j dh b3 f h1 ae az bo a8
theorem aDn{o:Oper}{i:d5}(h:sB p N r o=.pu i):An p N o=some i:=by
 unfold sB at h;split at h
 ·rename_i ai;cases h;exact ai
 ·split at h
  ·cases h
  ·split at h
   ·cases h
   ·split at h
    ·cases h
    ·split at h
     ·split at h<;>cases h
     ·split at h<;>cases h
     ·cases h
theorem aDo{o:Oper}{i:IR}(h:sB p N r o=.rd i):Ao p N o=some i:=by
 unfold sB at h;split at h
 ·cases h
 ·split at h
  ·rename_i ai;cases h;exact ai
  ·split at h
   ·cases h
   ·split at h
    ·cases h
    ·split at h
     ·split at h<;>cases h
     ·split at h<;>cases h
     ·cases h
theorem aDp{o:Oper}{i:kg}(h:sB p N r o=.mk i):Ap p N o=some i:=by
 unfold sB at h;split at h
 ·cases h
 ·split at h
  ·cases h
  ·split at h
   ·rename_i ai;cases h;exact ai
   ·split at h
    ·cases h
    ·split at h
     ·split at h<;>cases h
     ·split at h<;>cases h
     ·cases h
theorem aoK{o:Oper}{io:bH}(U:xg p N r ops o=some io){I aQ:Fr}(h:∀n,n<N->(s6 ops o).testBit n=true->I.get (a0 n)=aQ.get (a0 n)):wanted io.guard I=wanted io.guard aQ:=by
 unfold xg at U;cases qV:o.guard with
 |none=>
  simp only[qV,df,bK,cN]at U;obtain⟨g,rfl,d,a3,rfl⟩:=U;rfl
 |some g=>
  obtain⟨j,b⟩:=g;simp only[qV]at U;cases bp:(ops[j]?).bind (·.dst)with
  |none=>simp[bp]at U
  |some t=>
   simp only[bp]at U;by_cases ay:t<N
   ·simp only[ay,qt,df,bK,cN]at U;obtain⟨g,rfl,d,a3,rfl⟩:=U;simp only[wanted];rw[h t ay (aLn qV bp)]
   ·simp[ay]at U
end
end
abbrev hC:=@Option.getD_some
abbrev zR:=@Nat.le_of_lt
section
variable {p:Program}
theorem amP{ops:Array Oper}{bF:Array Bool}{i:Nat}(h:i∈Region.ready .any ops bF)(aA:bF.size=ops.size):∃o,ops[i]?=some o/\bF.getD i false=false/\Bc ops (fun i=>bF.getD i false=true) i:=by
 simp only[Region.ready,List.mem_filter,List.mem_range,dJ,wQ]at h;obtain⟨h1,ae,az⟩:=h;have a6:ops[i]?=some ops[i]:=Bz h1;refine⟨ops[i],a6,?_,fun o e m5 he ah=>?_⟩
 ·rw[BJ]at ae⊢;have:bF[i]?=some bF[i]:=Bz (by omega);rw[this]at ae⊢;exact ae
 ·rw[a6]at m5;cases m5;rw[a6]at az;simp only[zN,hC,Array.all_eq_true',uf,wQ]at az;rcases az e (by simpa using he)with h|h
  ·rw[ah]at h;cases h
  ·exact h
theorem aH8{ops:Array Oper}{bF:Array Bool}{i:Nat}{o:Oper}(a6:ops[i]?=some o)(aA:bF.size=ops.size)(kq:bF.getD i false=false)(ev:Bc ops (fun i=>bF.getD i false=true) i):i∈Region.ready .any ops bF:=by
 have ai:i<ops.size:=(Array.getElem?_eq_some_iff.1 a6).1;simp only[Region.ready,List.mem_filter,List.mem_range,dJ,wQ];refine⟨ai,?_,?_⟩
 ·rw[BJ]at kq⊢;have:bF[i]?=some bF[i]:=Bz (by omega);rw[this]at kq⊢;exact kq
 ·rw[a6];simp only[zN,hC,Array.all_eq_true',uf,wQ];intro e he;cases ah:Region.binds .any e with
  |false=>exact .inl rfl
  |true=>exact .inr (ev o e a6 (by simpa using he) ah)
theorem YY{α:Type}{q pQ:α->Bool}:∀{l:List α},(∀x,q x=true->pQ x=true) ->∀{x:α},x∈l->pQ x=true->q x=false->l.countP q<l.countP pQ
 |[],_,x,ab,_,_=>by cases ab
 |y::l,h,x,ab,h1,ae=>by
  rcases List.mem_cons.1 ab with rfl|ab
  ·rw[List.countP_cons_of_neg (by rw[ae];simp),List.countP_cons_of_pos h1];exact Nat.lt_succ_of_le (List.countP_mono_left fun z _ aX=>h z aX)
  ·have:=YY h ab h1 ae;cases ax:q y with
   |true=>rw[List.countP_cons_of_pos ax,List.countP_cons_of_pos (h y ax)];omega
   |false=>
    rw[List.countP_cons_of_neg (by rw[ax];simp)];have:=List.countP_cons (p:=pQ) (a:=y) (l:=l);rw[this];omega
section
variable {N b2:Nat}{ro:Option Nat}{ops:Array Oper}{bY:List (bH×List Nat)}{id:Nat->Nat}{J:Prog}{call:iy}{T:Nat->uv}{eS:aW}{fq:World}
theorem aH9(D:yS p N ro.isSome ops bY id)(aG:Trace J call bY 0 [] T)(uM:g0 p eS){bF:Array Bool}{t:Nat}{M:aW}{a:Act}{w:World}(bn:Inv p N b2 ops bY id T eS fq bF t M a w){k:Nat}{o:Oper}(fP:k<t)
  (a6:ops[id k]?=some o) (kq:bF.getD (id k) false=false) (ev:Bc ops (fun i=>bF.getD i false=true) (id k)) {Q:Exit->Act->World->Prop}:
  wpOpIn (gR ro) 0 p ops Q (id k) (fun fG w'=>∃aT,Inv p N b2 ops bY id T eS fq (bF.setIfInBounds (id k) true) t aT fG w') a w:=by
 have ay:k<bY.length:=by have:=bn.le;omega
 obtain⟨⟨io,b⟩,dS⟩:∃q,bY[k]?=some q:=⟨_,hN ay⟩;obtain⟨cu,bj,U⟩:=D.op k io b dS;rw[a6]at bj;cases bj;obtain⟨a3,cw,hw⟩:=LI U bn.kh.I;have S:=aG.step k io b dS;have IL:=fun{n}=>bn.agree D aG (zR fP) dS a6 kq ev (n:=n);have qV:=aoK U (I:=h7 T bY id bF t) (aQ:=(T k).I) (fun n aq ah=>IL aq ah);rw[S.guard]at qV;have DT:=hw _ qV;have gB:vP N (h7 T bY id bF t) (T k).I o.op.operands.toList:=fun n aq hm=>IL aq (amM hm);have aC:g0 p M:=uM.mono bn.st.mono;obtain⟨RX,RY,RZ,R0⟩:=aps (p:=p) (N:=N) (o:=o);unfold wpOpIn;simp only[a6,DT];have same:∀{aL:Value},bm M (T k).v aL->∃aT,Inv p N b2 ops bY id T eS fq (bF.setIfInBounds (id k) true) t aT (a.put o.dst aL) w:=fun{aL} ar=>
  ⟨M,bn.list D aG fP dS a6 kq ev a3 bn.st (aW.le_refl M) (fun _ h=>h) ar fun j dh b3 f _ h1 ae az bo cb=>(bn.un j dh b3 f h1 ae az bo cb).1⟩
 cases p1:(T k).wn with
 |false=>
  rw[bf (by simp)];exact⟨fun _ _=>trivial,same (by rw[(S.no p1).1];exact bm.undef M)⟩
 |true=>
  rw[bl rfl];have E:=S.yes p1;have Ds:io.op.q6=true->False:=fun h=>by
   have:=bn.wr k io b fP dS h;rw[kq]at this;cases this
  cases nc:io.op with
  |pu f=>
   rw[nc]at E;obtain⟨sG,_,_⟩:=E;have ai:=aDn (cw.symm.trans nc);rw[<-anG ai gB]at sG;obtain⟨aL,h1,ae⟩:=ale bn.kh.I aC ai sG;refine⟨fun _ _=>trivial,?_⟩;rw[BI _ _ _ (RX f ai),ae w];exact same h1
  |rd f=>
   have sG:=bn.rd k io b f fP dS p1 nc kq;have ai:=aDo (cw.symm.trans nc);rw[<-anH ai gB]at sG;obtain⟨aL,h1,ae⟩:=alg bn.kh.I aC bn.st.rel ai sG;refine⟨fun _ _=>trivial,?_⟩;rw[BI _ _ _ (RY f ai),ae];exact same h1
  |mk f=>
   rw[nc]at E;obtain⟨cL,g,sG,aqK,_,_,_⟩:=E;have ai:=aDp (cw.symm.trans nc);obtain⟨lQ,aAF⟩:=bn.un k io b f fP dS p1 nc kq;have jn:=aAF cL g sG;have afE:=sG;rw[<-anI ai gB]at afE;obtain⟨s,hm,ab⟩:=alh bn.kh.I aC ai afE;obtain⟨aM8,ext,lim,aL,w',h1,ae,az,bo,cb,dM⟩:=hm.value w;refine⟨fun _ _=>trivial,?_⟩;rw[BI _ _ _ (RZ f ai),ab,h1];obtain⟨i2,k8⟩:=dM (T k).h.next (M.add (T k).h.next 0 ⟨w.heap.size,0,ext,lim⟩) (aW.qo lQ) (aW.add_same _ _ _ _)
   refine⟨_,bn.list D aG fP dS a6 kq ev a3 (bn.st.GG (bn.br k io b f fP dS p1 nc) lQ (bn.lt k io b f fP dS p1 nc) jn (l:=⟨w.heap.size,0,ext,lim⟩) rfl k8 ae az bo cb) (aW.qo lQ) (fun r aI=>?_) (by rw[aqK];exact i2) fun j dh b3 jw h6 h1 ae az bo cb=>?_⟩
   ·obtain⟨mi,nv,HO⟩:=aI;have ay:r<w.heap.size:=by
     rcases dz r w.heap.size with h|h
     ·exact h
     ·rw[vd h]at mi;cases mi
    refine⟨by rw[ae,wL,bf (by omega)];exact mi,nv,fun g j l au e=>?_⟩;by_cases aM:g=(T k).h.next/\j=0
    ·rw[aM.1,aM.2,aW.add_same]at e;cases e;show w.heap.size≠r;omega
    ·rw[aW.mf _ _ aM]at e;exact HO g j l au e
   ·have bV:(T j).h.next≠(T k).h.next:=fun e=>by
     rcases dz j k with h|h
     ·have:=bn.ord j k dh b3 jw io b f h fP ae az bo dS p1 nc;rw[e]at this;omega
     ·have:=bn.ord k j io b f dh b3 jw (by omega) h1 dS p1 nc ae az bo;rw[e]at this;omega
    rw[aW.mf _ _ (fun h=>bV h.1)];exact(bn.un j dh b3 jw h1 ae az bo cb).1
  |wr _=>exact(Ds (by rw[nc];rfl)).elim
  |call _ _=>exact(Ds (by rw[nc];rfl)).elim
  |defer _ _=>exact(Ds (by rw[nc];rfl)).elim
  |bad _=>exact(Ds (by rw[nc];rfl)).elim
theorem aFM(ni:Ea p call)(D:yS p N ro.isSome ops bY id)(aG:Trace J call bY 0 [] T)(uM:g0 p eS){bF:Array Bool}{t:Nat}{M:aW}{a:Act}{w:World}(bn:Inv p N b2 ops bY id T eS fq bF t M a w){o:Oper}{io:bH}{b:List Nat}
  (dS:bY[t]?=some (io,b)) (e7:io.op.q6=true) (a6:ops[id t]?=some o) (kq:bF.getD (id t) false=false) (ev:Bc ops (fun i=>bF.getD i false=true) (id t)) {Q:Exit->Act->World->Prop}:
  wpOpIn (gR ro) 0 p ops Q (id t) (fun fG w'=>∃aT,Inv p N b2 ops bY id T eS fq (bF.setIfInBounds (id t) true) (t+1) aT fG w') a w:=by
 have ay:t<bY.length:=(List.getElem?_eq_some_iff.1 dS).1;obtain⟨cu,bj,U⟩:=D.op t io b dS;rw[a6]at bj;cases bj;obtain⟨a3,cw,hw⟩:=LI U bn.kh.I;have S:=aG.step t io b dS;have IL:=fun{n}=>bn.agree D aG (a1 _) dS a6 kq ev (n:=n);have qV:=aoK U (I:=h7 T bY id bF t) (aQ:=(T t).I) (fun n aq ah=>IL aq ah);rw[S.guard]at qV;have DT:=hw _ qV;have gB:vP N (h7 T bY id bF t) (T t).I o.op.operands.toList:=fun n aq hm=>IL aq (amM hm);have aC:g0 p M:=uM.mono bn.st.mono;have ai:id t<bF.size:=by rw[bn.gM];exact(Array.getElem?_eq_some_iff.1 a6).1
 have bV:∀{j:Nat},j<bY.length->j≠t->id j≠id t:=fun{j} a5 h6 e=>h6 (D.inj j t a5 ay e);have jn:∀{j:Nat},j<bY.length->j≠t->(bF.setIfInBounds (id t) true).getD (id j) false=bF.getD (id j) false:=fun{j} a5 h6=>by rw[Eu ai,bf (bV a5 h6)]
 have Gu:(bF.setIfInBounds (id t) true).getD (id t) false=true:=by rw[Eu ai,bl rfl]
 have lD:h7 T bY id (bF.setIfInBounds (id t) true) (t+1)=cX io.dst (T t).v (h7 T bY id bF t):=by
  have aN:h7 T bY id (bF.setIfInBounds (id t) true) t=h7 T bY id bF t:=YX t fun i az bo=>jn bo (by omega);simp only[h7,dS,Gu,aN]
 have Oc:∀f,io.op=.mk f->False:=fun f e=>by rw[e]at e7;cases e7
 have av1:∀f,io.op=.rd f->False:=fun f e=>by rw[e]at e7;cases e7
 have fin:∀{aT:aW} {fG:Act} {w':World},Step p M (T t).h w aT (T (t+1)).h w'->hl aT N b2 ⟨cX io.dst (T t).v (h7 T bY id bF t),(T (t+1)).ds,(T (t+1)).h⟩ fG w'->
   (∀k dh b3 f,k<t->bY[k]?=some (dh,b3) ->(T k).wn=true->dh.op=.rd f->bF.getD (id k) false=false->f.f (T k).I (T (t+1)).h=some (T k).v) ->
   Inv p N b2 ops bY id T eS fq (bF.setIfInBounds (id t) true) (t+1) aT fG w':=fun{aT fG w'} st kh R5=>by
  refine⟨by simp[bn.gM],aon ai bn.cl ev,ay,fun j h1 ae=>?_,fun j dh b3 h1 ae az=>?_,bn.st.trans st,by rw[lD];exact kh,fun k dh b3 f hk h1 ae az=>?_,fun k dh b3 f hk h1 ae az=>?_,fun j k dh b3 f J5 Ay jw h6 hk h1 ae az bo cb dM=>?_,fun k dh b3 f hk h1 ae az bo=>?_,fun k dh b3 f hk h1 ae az bo=>?_⟩
  ·rw[jn ae (by omega)];exact bn.ge j (by omega) ae
  ·by_cases R6:j=t
   ·subst R6;exact Gu
   ·rw[jn (List.getElem?_eq_some_iff.1 ae).1 R6];exact bn.wr j dh b3 (by omega) ae az
  ·by_cases fP:k=t
   ·subst fP;rw[dS]at h1;cases h1;exact(Oc f az).elim
   ·exact bn.br k dh b3 f (by omega) h1 ae az
  ·by_cases fP:k=t
   ·subst fP;rw[dS]at h1;cases h1;exact(Oc f az).elim
   ·exact oW (bn.lt k dh b3 f (by omega) h1 ae az) st.next
  ·by_cases fP:k=t
   ·subst fP;rw[dS]at bo;cases bo;exact(Oc jw dM).elim
   ·exact bn.ord j k dh b3 f J5 Ay jw h6 (by omega) h1 ae az bo cb dM
  ·by_cases fP:k=t
   ·subst fP;rw[dS]at h1;cases h1;exact(Oc f az).elim
   ·rw[jn (List.getElem?_eq_some_iff.1 h1).1 fP]at bo;have lE:k<t:=by omega
    obtain⟨i2,k8⟩:=bn.un k dh b3 f lE h1 ae az bo;have av2:=bn.lt k dh b3 f lE h1 ae az;refine⟨?_,fun o g e=>?_⟩
    ·cases aM:aT (T k).h.next 0 with
     |none=>rfl
     |some l=>
      rcases st.fresh _ _ _ aM i2 with h|h
      ·omega
      ·rw[i2]at h;cases h
    ·rw[st.wK _ av2 i2];exact k8 o g e
  ·by_cases fP:k=t
   ·subst fP;rw[dS]at h1;cases h1;exact(av1 f az).elim
   ·rw[jn (List.getElem?_eq_some_iff.1 h1).1 fP]at bo;exact R5 k dh b3 f (by omega) h1 ae az bo
 unfold wpOpIn;simp only[a6,DT];cases p1:(T t).wn with
 |false=>
  obtain⟨aN,bd,bO⟩:=S.no p1;rw[bf (by simp)];refine⟨fun _ _=>trivial,M,fin ?_ ?_ fun k dh b3 f hk h1 ae az bo=>?_⟩
  ·rw[bd];exact .refl bn.st.rel rfl rfl rfl rfl
  ·rw[aN,bd,bO];exact bn.kh.put a3 (bm.undef M)
  ·rw[bd];exact bn.rd k dh b3 f hk h1 ae az bo
 |true=>
  rw[bl rfl];have E:=S.yes p1;have apF:∀K,(sB p N ro.isSome o).k J call (h7 T bY id bF t) (T t).h (T t).ds K=K (T t).v (T (t+1)).h (T (t+1)).ds:=fun K=>by
   rw[aJM gB,<-cw];unfold IJ at E;cases aM:io.op with
   |pu f=>rw[aM]at e7;cases e7
   |rd f=>rw[aM]at e7;cases e7
   |mk f=>rw[aM]at e7;cases e7
   |wr f=>rw[aM]at E;exact E K
   |call f cT=>rw[aM]at E;exact E K
   |defer f cT=>rw[aM]at E;exact E K
   |bad f=>rw[aM]at E;exact E K
  have he:=apF (KP io.dst (fun I h ds=>.norm ⟨I,ds,h⟩) (h7 T bY id bF t));refine ape (fun fG w' pc=>?_) (alj ni a3 he (by simp[KP]) aC bn.st.rel bn.kh Q);obtain⟨aQ,aa,gG,aT,e,st,oK⟩:=pc;simp only[KP,Out.norm.injEq,eM.mk.injEq]at e;obtain⟨rfl,rfl,rfl⟩:=e;refine⟨aT,fin st oK fun k dh b3 f hk h1 ae az bo=>?_⟩;have KS:k∈b:=by
   rcases D.back k t dh b3 io b hk h1 dS e7 (by rw[az];rfl)with h|h
   ·have:bF.getD (id k) false=true:=h _ bn.cl ev;rw[bo]at this;cases this
   ·exact h
  exact aG.now k t dh b3 io b f hk h1 dS e7 p1 az ae (by simpa using KS)
theorem aKO(D:yS p N ro.isSome ops bY id){bF:Array Bool}{t:Nat}{M:aW}{a:Act}{w:World}(bn:Inv p N b2 ops bY id T eS fq bF t M a w)(aI:Region.ready .any ops bF=[]):∀k,k<bY.length->bF.getD (id k) false=true:=by
 intro k
 induction k using Nat.strongRecOn with
 |_ k ih=>
  intro hk;cases kq:bF.getD (id k) false with
  |true=>rfl
  |false=>
   exfalso;obtain⟨⟨io,b⟩,dS⟩:∃q,bY[k]?=some q:=⟨_,hN hk⟩;obtain⟨o,a6,_⟩:=D.op k io b dS;have:id k∈Region.ready .any ops bF:=aH8 a6 bn.gM kq fun cu e m5 he ah=>by
    obtain⟨j,a5,cD⟩:=D.av0 k cu e hk m5 he ah;rw[<-cD];exact ih j a5 (by omega)
   rw[aI]at this;cases this
theorem aDq(ni:Ea p call)(D:yS p N ro.isSome ops bY id)(aG:Trace J call bY 0 [] T)(uM:g0 p eS){Q:Exit->Act->World->Prop}
  (lB:∀M a w,Step p eS (T 0).h fq M (T bY.length).h w->hl M N b2 ⟨(T bY.length).I,(T bY.length).ds,(T bY.length).h⟩ a w->Q .normal a w):
  ∀(fuel:Nat) (bF:Array Bool) (t:Nat) (M:aW) (a:Act) (w:World),Inv p N b2 ops bY id T eS fq bF t M a w->Xc bY t->(List.range ops.size).countP (fun i=>!bF.getD i false)<=fuel->wpAnyIn (gR ro) 0 p .any ops Q fuel bF a w:=by
 have done:∀(bF:Array Bool) (t:Nat) (M:aW) (a:Act) (w:World),Inv p N b2 ops bY id T eS fq bF t M a w->Xc bY t->Region.ready .any ops bF=[] ->Q .normal a w:=fun bF t M a w bn F aI=>by
  have u2:=aKO D bn aI;have bp:t=bY.length:=by
   rcases F with h|⟨io,b,dS,_⟩
   ·exact h
   ·have ay:t<bY.length:=(List.getElem?_eq_some_iff.1 dS).1;have:=bn.ge t (a1 _) ay;rw[u2 t ay]at this;cases this
  subst bp;refine lB M a w bn.st ⟨bn.kh.I.afD fun n aq=>?_,bn.kh.ds,bn.kh.marks,bn.kh.nodup⟩;exact(Zj aG bY.length (a1 _) fun j io b a5 _ h=>by rw[u2 j a5]at h;cases h).symm
 intro fuel
 induction fuel with
 |zero=>
  intro bF t M a w bn F aE;have aI:Region.ready .any ops bF=[]:=by
   cases aM:Region.ready .any ops bF with
   |nil=>rfl
   |cons i l=>
    exfalso;obtain⟨o,a6,kq,_⟩:=amP (i:=i) (by rw[aM];simp) bn.gM;have:0<(List.range ops.size).countP (fun i=>!bF.getD i false):=List.countP_pos_iff.2 ⟨i,by simpa using(Array.getElem?_eq_some_iff.1 a6).1,by rw[kq];rfl⟩;omega
  exact⟨aI,done bF t M a w bn F aI⟩
 |succ fuel ih=>
  intro bF t M a w bn F aE;refine⟨done bF t M a w bn F,fun i ai=>?_⟩;obtain⟨o,a6,kq,ev⟩:=amP ai bn.gM;have IM:i<ops.size:=(Array.getElem?_eq_some_iff.1 a6).1;obtain⟨k,hk,rfl⟩:=D.aqI i IM;have Vn:(List.range ops.size).countP (fun j=>!(bF.setIfInBounds (id k) true).getD j false)<=fuel:=by
   have eN:id k<bF.size:=by rw[bn.gM];exact IM
   have:=YY (q:=fun j=>!(bF.setIfInBounds (id k) true).getD j false) (pQ:=fun j=>!bF.getD j false) (l:=List.range ops.size) (fun j a5=>by
    rw[Eu eN]at a5;by_cases h:j=id k
    ·rw[bl h]at a5;cases a5
    ·rw[bf h]at a5;exact a5) (x:=id k) (by simpa using IM) (by simp only[kq];rfl) (by simp only[Eu eN];simp)
   omega
  have go:∀h0,(∃aT,Inv p N b2 ops bY id T eS fq (bF.setIfInBounds (id k) true) h0 aT a w) ->wpAnyIn (gR ro) 0 p .any ops Q fuel (bF.setIfInBounds (id k) true) a w:=fun h0 ⟨aT,B7⟩=>by
   obtain⟨IN,IP,IQ⟩:=B7.front aG _ h0 rfl;exact ih _ IN aT a w IP IQ Vn
  rcases dz k t with fP|fP
  ·refine wpOpIn_mono (fun fG w' ⟨aT,B7⟩=>?_) (aH9 D aG uM bn fP a6 kq ev);obtain⟨IN,IP,IQ⟩:=B7.front aG _ t rfl;exact ih _ IN aT fG w' IP IQ Vn
  ·rcases F with h|⟨io,b,dS,e7⟩
   ·omega
   ·have ay:t<bY.length:=(List.getElem?_eq_some_iff.1 dS).1;have MC:k=t:=by
     rcases dz t k with h|h
     ·exfalso;obtain⟨⟨dh,b3⟩,nc⟩:∃q,bY[k]?=some q:=⟨_,hN hk⟩;obtain⟨cu,m5,_⟩:=D.op t io b dS;rcases D.pair t k io b dh b3 cu o h dS nc m5 a6 with h1|⟨h1,_⟩
      ·have:bF.getD (id t) false=true:=h1 _ bn.cl ev;rw[bn.ge t (a1 _) ay]at this;cases this
      ·rw[e7]at h1;cases h1
     ·omega
    subst MC;refine wpOpIn_mono (fun fG w' ⟨aT,B7⟩=>?_) (aFM ni D aG uM bn dS e7 a6 kq ev);obtain⟨IN,IP,IQ⟩:=B7.front aG _ _ rfl;exact ih _ IN aT fG w' IP IQ Vn
end
end
abbrev dk:=@Nat.zero_le
abbrev nV:=@Nat.not_lt_zero
section
variable {p:Program}
theorem aFN{J:Prog}(wh: p.follows .mixedOrders=true){call:iy}(ni:Ea p call){ro:Option Nat}{N MO:Nat}{ops:Array Oper}{bY:List (bH×List Nat)}{id:Nat->Nat}(D:yS p N ro.isSome ops bY id){s:eM}{out:Out}
  (he:ky J call bY 0 [] s.I s.h s.ds=out) (db:out≠.no) {M:aW} {a:Act} {w:World} {b2:Nat} (aC:g0 p M) (r:Rel p M s.h w.heap) (aA:hl M N b2 s a w):(Code.region MO ops true).wpIn (gR ro) 0 p (gy p M s.h w N b2 out) a w:=by
 obtain⟨T,aG,aN,bd,bO,fY⟩:=amN he db;refine wpIn_region_any wh ?_;have aX:∀i,(Array.replicate ops.size false).getD i false=false:=fun i=>by
  rw[BJ];rcases dz i ops.size with h|h
  ·simp[h]
  ·rw[vd (by simpa using h)];rfl
 have bn:Inv p N b2 ops bY id T M w (Array.replicate ops.size false) 0 M a {w with drawn:=w.drawn+1}:=by
  refine⟨by simp,(fun x o e ab=>absurd ab (by simp[aX])),dk _,fun k _ _=>aX _,(fun k io b hk=>absurd hk (nV _)),?_,?_,(fun k io b f hk=>absurd hk (nV _)),(fun k io b f hk=>absurd hk (nV _)),(fun j k io b f dh b3 jw a5 hk=>absurd hk (nV _)),(fun k io b f hk=>absurd hk (nV _)),(fun k io b f hk=>absurd hk (nV _))⟩
  ·rw[bd];exact .refl r rfl rfl rfl rfl
  ·rw[bd,bO];show hl M N b2 ⟨(T 0).I,_,_⟩ _ _;rw[aN];exact⟨aA.I,aA.ds,fun q aM=>let⟨x,y,z⟩:=aA.marks q aM;⟨x,y,z⟩,aA.nodup⟩
 obtain⟨h0,B7,apG⟩:=bn.front aG _ 0 rfl;refine aDq ni D aG aC (fun aT fG w' st kh=>?_) ops.size _ h0 M a _ B7 apG ?_
 ·rw[fY];rw[bd]at st;exact⟨aT,st,kh⟩
 ·have:=List.countP_le_length (p:=fun i=>!(Array.replicate ops.size false).getD i false) (l:=List.range ops.size);simpa using this
theorem aJQ{J:Prog}(wh: p.follows .mixedOrders=true){k:Nat}(ni:Ea p (gT (exec J k) J)){ro:Option Nat}{N MO:Nat}{ops:Array Oper}{Q5:Bool}{s:eM}{out:Out}
  (he:(X7 p N ro.isSome ops Q5).e (exec J k) J s=out) (db:out≠.no) {M:aW} {a:Act} {w:World} {b2:Nat} (aC:g0 p M) (r:Rel p M s.h w.heap) (aA:hl M N b2 s a w):(Code.region MO ops Q5).wpIn (gR ro) 0 p (gy p M s.h w N b2 out) a w:=by
 unfold X7 at he;split at he
 ·exact absurd he.symm db
 ·rename_i kU xS;split at he
  ·rcases aJO xS with⟨q,e⟩|⟨bY,id,e,D⟩
   ·rw[e]at he;exact absurd he.symm db
   ·rw[e]at he;exact aFN wh ni D he db aC r aA
  ·refine wpIn_region ?_;have hf:ig J (gT (exec J k) J) kU s.I s.h s.ds=out:=he;have:=Yb ni (ro:=ro) (Q:=gy p M s.h w N b2 out) ops.size 0 kU (ops:=ops) (by omega) (by simpa using xS) hf db aC r aA fun aT fG w' aQ aa gG e st oK=>by
    rw[e];exact⟨aT,st,oK⟩
   rw[List.range_eq_range'];exact this
theorem P5{J:Prog}(wh: p.follows .mixedOrders=true)(bh:gm p J):∀k,∀j,j<=k->vf p J j:=by
 intro k
 induction k with
 |zero=>
  intro j a5 ro N c s out he db;have:j=0:=by omega
  subst this;exact absurd he.symm db
 |succ k Q6=>
  intro j a5;rcases dz j (k+1)with h|h
  ·exact Q6 j (by omega)
  ·have:j=k+1:=by omega
   subst this;have ih:=Q6 k (a1 _);intro ro N c s out he db M a w b2 aC r aA ah;have hf:(gJ p N ro.isSome c).e (exec J k) J s=out:=he;cases c with
   |skip=>subst hf;exact aFF (J:=J) r aA
   |region MO ops Q5=>exact aJQ wh (aH3 bh ih) hf db aC r aA
   |seq x y=>exact aDg ih hf db aC r aA ah
   |cond q x y=>
    simp only[gJ]at hf;split at hf
    ·rename_i X qI;exact aFG ih qI hf db aC r aA ah
    ·exact absurd hf.symm db
   |block id x=>exact aHY ih hf db aC r aA ah
   |loop x=>exact aFJ Q6 he db aC r aA ah
   |rangeFunc q ps x y=>
    simp only[gJ]at hf;split at hf
    ·rename_i X pc qI;have:ro=none:=by cases ro<;>simp_all
     subst this;split at hf
     ·rename_i Aq;refine aAD bh ih qI (fun t bp=>?_) hf db aC r aA ah;have:=Array.all_eq_true'.1 (Array.all_toList.symm.trans Aq) t (by simpa using bp);simpa using this
     ·exact absurd hf.symm db
    ·exact absurd hf.symm db
   |exit id=>subst hf;exact aFH r aA
   |scope x=>exact aH0 ih hf db aC r aA ah
   |label l=>subst hf;exact aHZ r aA
   |goto l=>subst hf;exact aFI r aA
   |ret=>subst hf;exact aDh r aA
   |refuse _=>exact absurd hf.symm db
end
end Go.ao
