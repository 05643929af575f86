/- A part of the proof that ProofForms holds for every input. -/
import Derived.Test.YtphcmfmpbndkbaaGreatDoorQ20
import Derived.Test.YtphcmfmpbndkbaaGreatDoorQ22
import Derived.Test.YtphcmfmpbndkbaaGreatDoorQ23
import Derived.Test.YtphcmfmpbndkbaaGreatDoorQ24
import Derived.Test.YtphcmfmpbndkbaaGreatDoorQ25
import Derived.Test.YtphcmfmpbndkbaaGreatDoorQ26
import Derived.Test.YtphcmfmpbndkbaaGreatDoorQ27
import Derived.Test.YtphcmfmpbndkbaaGreatDoorQ28
import Derived.Test.YtphcmfmpbndkbaaGreatDoorQ29
set_option maxRecDepth 100000
set_option maxHeartbeats 4000000
set_option linter.all false
noncomputable section
namespace Go.ao
section
noncomputable def Hd(u:fm):eX:=fun args h=>match args with
 |[]=>match oQ h u with
  |true=>some (.bool true,h)
  |false=>none
 |_=>none
noncomputable def A4(u:fm):Prog:={iF with spec:=fun g args h=>match Nat.beq g 4 with
 |true=>Hd u args h
 |false=>match Nat.beq g 243 with
  |true=>Ep 166 args h
  |false=>Gr ids g args h}
variable {u:fm}
instance:ak (A4 u) where
 has g F h k:=⟨h,fun args h=>by
  simp only[spare,dJ,wQ]at k;obtain⟨a,b,c,d,e,f,i,j,l,m⟩:=k;simp only[A4,Gr,a,b,c,d,e,f,i,j,l,m]⟩
instance:Q9 u (A4 u) where
 ZT h e:=by
  show Hd u [] h=_;unfold Hd;rw[e]
instance:ET (A4 u) where
 ajN _ _:=rfl
instance:uz (A4 u) where
 jm s b h ah:=by
  have e:K7 [.str s,.int .u8 (b:Nat)] h=(match Nat.blt b 256 with
   |true=>some (.int .i64 (jm s b),h)
   |false=>none):=rfl
  show K7 [.str s,.int .u8 (b:Nat)] h=_;rw[e,show Nat.blt b 256=true by rw[lv];exact ah]
instance:vE (A4 u) where
 rS s b h m l:=by
  obtain⟨md,ty,e⟩:=m;show Li _ [.str s,.str b] h=_;have q:Li ids.maxLen [.str s,.str b] h=(match h.get (gQ 4)with
   |some (.cells [.num .i64] 0 0 _ _)=>match Nat.blt s.length 4294967281 with
    |true=>some (.int .i64 (rS s b),h)
    |false=>none
   |_=>none):=rfl
  rw[q,e];show(match Nat.blt s.length 4294967281 with
   |true=>_
   |false=>_)=_
  rw[show Nat.blt s.length 4294967281=true by rw[lv];exact l]
end
theorem aCh:gm a4 aam:=iB
theorem aCi:gm a4 aan:=iB
theorem aCj:gm a4 aao:=((iB).with mixed UJ aCi aEN)
theorem aCk:gm a4 aap:=iB
theorem aCl:gm a4 aaq:=((iB).with mixed UL aCk aEP)
theorem aCm:gm a4 aar:=((iB).with mixed UM aCl aEQ)
theorem aCn:gm a4 aas:=((((iB).with mixed UK aCj aEO)).with mixed UN aCm aER)
theorem aCo:gm a4 aat:=iB
theorem aCp:gm a4 aau:=iB
theorem aCq:gm a4 aav:=((iB).with mixed UQ aCp aEU)
theorem aEW:gm a4 aeB:=iB
theorem aEX:gm a4 aeC:=((iB).with mixed Wu aEW aHf)
theorem aEY:gm a4 aeD:=((iB).with mixed Wv aEX aHg)
theorem aEZ:gm a4 aeE:=((((iB).with mixed UR aCq aEV)).with mixed Ww aEY aHh)
theorem aE0:gm a4 aeF:=iB
theorem aE1:gm a4 aeG:=((iB).with mixed Wy aE0 aHj)
theorem aE2:gm a4 aeH:=iB
theorem aE3:gm a4 aeI:=((iB).with mixed WA aE2 aHm)
theorem aE4:gm a4 aeJ:=((((iB).with mixed Wz aE1 aHl)).with mixed WB aE3 aHn)
theorem aE5:gm a4 aeK:=iB
theorem aE6:gm a4 aeL:=iB
theorem aE7:gm a4 aeM:=iB
theorem aE8:gm a4 aeN:=iB
theorem aE9:gm a4 aeO:=iB
theorem aFa:gm a4 aeP:=iB
theorem aFb:gm a4 aeQ:=iB
theorem aFc:gm a4 aeR:=iB
theorem aFd:gm a4 aeS:=iB
theorem aFe:gm a4 aeT:=((iB).with mixed WM aFd aHw)
theorem aFf:gm a4 aeU:=iB
theorem aFg:gm a4 aeV:=((iB).with mixed WO aFf aHy)
theorem aFh:gm a4 aeW:=((iB).with mixed WQ aFg aHz)
theorem aFi:gm a4 aeX:=((((iB).with mixed WN aFe aHx)).with mixed WR aFh aHA)
theorem aFj:gm a4 aeY:=iB
theorem aFk:gm a4 aeZ:=((((((((((((((((((((((((((((((iB).with mixed UI aCh aEM)).with mixed UO aCn aES)).with mixed UP aCo aET)).with mixed Wx aEZ aHi)).with mixed WC aE4 aHo)).with mixed WD aE5 aHk)).with mixed WE aE6 aHq)).with mixed WG aE7 aHr)).with mixed WH aE8 aHp)).with mixed WI aE9 aHs)).with mixed WJ aFa aHt)).with mixed WK aFb aHu)).with mixed WL aFc aHv)).with mixed WS aFi aHB)).with mixed WT aFj aHC)
section
open Go.Proofs Go.RowKit
theorem aJz{ro:Option Nat}{h:H}{M:aW}{w:World}(aC:g0 a4 M)(r:Rel a4 M h w.heap)(au:oQ h rh=true):
  pC a4 ro 4 #[] w fun aL w'=>∃aT,Step a4 M h w aT h w'/\bm aT (.bool true) aL:=
 aFl mixed aFk akk aHD (by kernel_rfl) rfl rfl rfl (by
  have:∀g,g<12->aH (gQ g)<14:=by decide
  intro g yK;exact this g yK) (by kernel_rfl) aC r (by show oQ h (rh++[])=true;rw[qy];exact au)
theorem aFm(w:World):(isAgg 62).run a4 w=.ok true w:=by kernel_rfl
theorem aHE(w:World):(Go.sizeOf 62).run a4 w=.ok 2 w:=by kernel_rfl
theorem alZ:gm a4 (A4 rh) where
 funcs:=iB.funcs
 w2:=iB.w2
 quiet:=iB.quiet
 spec ro g aF dV h aa v M w ar aC r he:=by
  by_cases aaw:g=4
  ·subst aaw;have he:Hd rh aF h=some (v,aa):=he;unfold Hd at he;split at he
   ·split at he
    ·rename_i au;cases he;have:dV=#[]:=by
      have:=ar.length;exact G3 (by simpa using this.symm)
     subst this;exact aJz aC r au
    ·cases he
   ·cases he
  by_cases aax:g=243
  ·subst aax;have he:Ep 166 aF h=some (v,aa):=he;exact aJw (ρ:=Tryz.sortF_ren) {Tryz.sortF with} aFm aHE (enters_of Tryz.func243 (by kernel_rfl) rfl) (enters_of Tryz.func166 (by kernel_rfl) rfl) (fun x y W=>Tryz.order166 x y W) ar r he
  ·have he:(match Nat.beq g 4 with
    |true=>Hd rh aF h
    |false=>match Nat.beq g 243 with
     |true=>Ep 166 aF h
     |false=>Gr ids g aF h)=some (v,aa):=he
   have h1:Nat.beq g 4=false:=by rw[hE];simpa using aaw
   have ae:Nat.beq g 243=false:=by rw[hE];simpa using aax
   rw[h1,ae]at he;exact anq ar aC r he
theorem xu.fn{J:Prog}{g:FuncId}{args:List V}{h:H}{v:V}{aa:H}(a:xu J (.fn (.func g) [] []) args h v aa):oi J g args h v aa:=rI.is (Eq.mpr (a fun x y=>x=v/\y=aa) ⟨rfl,rfl⟩)
theorem azJ{h:H}(hu:oQ h rh=true):Bf h:=⟨.ro,167,Hj hu (c0 (i:=1) rfl)⟩
theorem aCr{h:H}(hu:oQ h rh=true):u6 h:=⟨.ro,3,Hj hu (c0 (i:=4) rfl)⟩
theorem aJA{M:aW}{h:H}{W:World}{dV:Array Value}{p:Form.jh}{bg aF:V}{Y:Nat->V}{S Z:Nat->Nat->V}{D:Nat->j4}(aC:g0 a4 M)(r:Rel a4 M h W.heap)(vx:IV M h)(hu:oQ h rh=true)(ir:u4 h p bg aF Y S Z D)(ah:NQ p)(n:Int)(ar:dq M [.agg [bg,aF],.int .i64 n] dV.toList):
  Calls a4 3 dV W fun e w'=>e=.returned (.bool true)/\Below W.heap.size W w':=by
 have bP:aK h:=⟨r.lD⟩;obtain⟨aa,t,_⟩:=dF (J:=A4 rh) hu (azJ hu) (aCr hu) ir ah n h an;obtain⟨m,aq⟩:=xu.fn t;obtain⟨cg,b5,bj,a8⟩:=QA alZ (P5 mixed alZ m m (a1 _)) (ro:=none) ar aC r aq;rw[enters_of Tryz.func3 (by kernel_rfl) rfl]at bj;cases bj;refine(callsIn_wide.1 a8).mono fun e w' ⟨aL,aN,aT,st,n8⟩=>?_;subst aN;cases n8;exact⟨rfl,st.os,st.tape,st.out,st.size,fun b ah=>st.s8 b ah fun f k l hw e=>absurd hw (vx f k l e)⟩
end
end Go.ao
