/- A part of the proof that ProofForms holds for every input. -/
import Derived.KernelRfl
import Derived.Test.YtphcmfmpbndkbaaGreatDoorQ04
set_option maxRecDepth 100000
set_option maxHeartbeats 4000000
set_option linter.all false
set_option exponentiation.threshold 1000
noncomputable section
namespace Go.ao
section
section
variable (d g n:Nat)(x f:X)(o:Option S)(i:bn)(p:d5)(r:IR)(m:kg)(w:g7)(l:List X)
theorem aqP:(⟨some (a0 d),.pu (.dd x),none⟩:bH)=bz d x:=rfl
theorem aqQ:(⟨some (a0 d),.pu p,none⟩:bH)=b6 d p:=rfl
theorem aqR:(⟨some (a0 d),.rd r,none⟩:bH)=fv d r:=rfl
theorem aqS:(⟨some (a0 d),.mk m,none⟩:bH)=qL d m:=rfl
theorem aqT:(⟨some (a0 d),.wr w,none⟩:bH)=vy d w:=rfl
theorem aqU:(⟨some (a0 d),.call f l,none⟩:bH)=ru d f l:=rfl
theorem aqV:(⟨none,i,none⟩:bH)=uw i:=rfl
theorem aqW:(⟨o,i,some (a0 d,true)⟩:bH)=nw d ⟨o,i,none⟩:=rfl
theorem aqX:(⟨o,i,some (a0 d,false)⟩:bH)=k9 d ⟨o,i,none⟩:=rfl
theorem aqY:X.t (a0 n)=T n:=rfl
theorem aqZ:X.c (.int .i64 (.ofNat n))=iu n:=rfl
theorem aq0:X.c (.fn (.func g) [] [])=w5 g:=rfl
end
noncomputable def C.iG:C->List C
 |.seq a b=>a.iG++b.iG
 |.cond _ a b=>a.iG++b.iG
 |.block _ c=>c.iG
 |.scope c=>c.iG
 |.loop c=>.loop c::c.iG
 |.hp _ _ a b=>a.iG++b.iG
 |_=>[]
noncomputable def C.mL:C->List (C×C)
 |.seq a b=>a.mL++b.mL
 |.cond _ a b=>a.mL++b.mL
 |.block _ c=>c.mL
 |.scope c=>c.mL
 |.loop c=>c.mL
 |.hp _ _ a b=>(a,b)::(a.mL++b.mL)
 |_=>[]
abbrev be(g:Func)(x:F)(_:zy a4 g=some x:=by conv=>lhs;reduce;simp only[go_sem]):F:=x
abbrev cl(c x:C)(_:c=x:=by conv=>lhs;reduce;simp only[go_sem]):C:=x
def Has(J:Prog)(g:FuncId)(F:F):Prop:=J.funcs g=some F/\∀args h,J.spec g args h=none
def spare(g:Nat):Bool:=!Nat.beq g 4&&(!Nat.beq g 243&&(!Nat.beq g ids.Yy&&(!Nat.beq g ids.count&&(!Nat.beq g ids.jm&&(!Nat.beq g ids.index&&(!Nat.beq g ids.make&&(!Nat.beq g ids.cmp&&(!Nat.beq g ids.sorted&&!Nat.beq g ids.del))))))))
class ak(J:Prog):Prop where
 has:∀g F,(a4.funcs[g]?).bind (zy a4)=some F->spare g=true->Has J g F
theorem ak.q{J:Prog}[ak J]{g:FuncId}{F:F}(h:(a4.funcs[g]?).bind (zy a4)=some F:=by kernel_rfl)(k:spare g=true:=by rfl):Has J g F:=ak.has g F h k
attribute [local irreducible] a0 gQ
attribute [local go_sem] aqW aqX aqP aqR aqS aqT aqU aqY aqZ aq0
attribute [local go_sem low] aqQ aqV
open Go.Proofs
variable {J:Prog}[ak J]
noncomputable def Ca:F:=be Tryz.f5 _
noncomputable def afL:C:=cl ((Ca.body.iG[1]?).getD .skip) _
theorem ak.bu:Has J 5 Ca:=ak.q
noncomputable def Mc:F:=be Tryz.f6 _
theorem ak.cj:Has J 6 Mc:=ak.q
noncomputable def EH:F:=be Tryz.f7 _
theorem ak.cH:Has J 7 EH:=ak.q
noncomputable def ys:F:=be Tryz.f8 _
theorem ak.cQ:Has J 8 ys:=ak.q
noncomputable def ZR:F:=be Tryz.f9 _
theorem ak.dm:Has J 9 ZR:=ak.q
noncomputable def abc:F:=be Tryz.f10 _
theorem ak.ew:Has J 10 abc:=ak.q
noncomputable def Ff:F:=be Tryz.f11 _
theorem ak.iT:Has J 11 Ff:=ak.q
noncomputable def vS:F:=be Tryz.f12 _
theorem ak.kW:Has J 12 vS:=ak.q
noncomputable def vT:F:=F.mk 26 (.seq (.cF [bz 4 (.c (.bool false))])<|
.seq (.seq (.cF [bz 6 (T 0),
 b6 7 (.jO false (T 6)),
 bz 8 (T 1),
 b6 9 (.jO false (T 8)),
 b6 10 (.bin .neq .int (T 7) (T 9))])<|
.cond (T 10) (.seq (.cF [bz 4 (.c (.bool false))])<|
.ret) (.skip))<|
.seq (.seq (.cF [bz 5 (iu 0)])<|
.block 0 (.loop (.seq (.seq (.cF [bz 11 (T 5),
 bz 12 (T 0),
 b6 13 (.jO false (T 12)),
 b6 14 (.bin .lss .int (T 11) (T 13))])<|
.cond (T 14) (.skip) (.exit 0))<|
.seq (.block 1 (.seq (.qi [(bz 17 (T 0),[]),
 (bz 18 (T 5),[]),
 (b6 19 (.lL 2 (T 17) (T 18)),[]),
 (fv 20 (.load true 2 (T 19)),[]),
 (bz 21 (T 1),[]),
 (bz 22 (T 5),[]),
 (b6 23 (.lL 2 (T 21) (T 22)),[]),
 (fv 24 (.load true 2 (T 23)),[]),
 (b6 25 (.bin .neq (.agg [.li,.fL]) (T 20) (T 24)),[])])<|
.cond (T 25) (.seq (.cF [bz 4 (.c (.bool false))])<|
.ret) (.skip)))<|
.cF [bz 15 (T 5),
 b6 16 (.bin .add .int (T 15) (iu 1)),
 bz 5 (T 16)])))<|
.seq (.cF [bz 4 (.c (.bool true))])<|
.ret) [.tmp (a0 4)]
theorem ak.h9:Has J 13 vT:=ak.q
noncomputable def Sg:F:=be Tryz.f26 _
noncomputable def akJ:C:=cl ((Sg.body.iG[1]?).getD .skip) _
theorem ak.Sh:Has J 26 Sg:=ak.q
noncomputable def Si:F:=be Tryz.f27 _
noncomputable def akK:C:=cl ((Si.body.iG[0]?).getD .skip) _
theorem ak.Sj:Has J 27 Si:=ak.q
noncomputable def abd:F:=be Tryz.f28 _
theorem ak.AB:Has J 28 abd:=ak.q
noncomputable def abe:F:=be Tryz.f29 _
theorem ak.oM:Has J 29 abe:=ak.q
noncomputable def abf:F:=be Tryz.f30 _
theorem ak.qW:Has J 30 abf:=ak.q
noncomputable def Sk:F:=be Tryz.f31 _
theorem ak.m6:Has J 31 Sk:=ak.q
noncomputable def I0:F:=be Tryz.f32 _
theorem ak.f32:Has J 32 I0:=ak.q
noncomputable def abg:F:=be Tryz.f33 _
theorem ak.yU:Has J 33 abg:=ak.q
noncomputable def abh:F:=be Tryz.f34 _
theorem ak.AD:Has J 34 abh:=ak.q
noncomputable def MU:F:=be Tryz.f35 _
theorem ak.Sl:Has J 35 MU:=ak.q
noncomputable def abi:F:=be Tryz.f36 _
theorem ak.abj:Has J 36 abi:=ak.q
noncomputable def Fg:F:=be Tryz.f37 _
noncomputable def akL:C:=cl ((Fg.body.iG[3]?).getD .skip) _
noncomputable def akM:C:=cl ((Fg.body.iG[2]?).getD .skip) _
noncomputable def akN:C:=cl ((Fg.body.iG[1]?).getD .skip) _
noncomputable def akO:C:=cl ((Fg.body.iG[0]?).getD .skip) _
theorem ak.abk:Has J 37 Fg:=ak.q
noncomputable def aq1:F:=be Tryz.f38 _
theorem ak.CL:Has J 38 aq1:=ak.q
noncomputable def abl:F:=be Tryz.f39 _
theorem ak.abm:Has J 39 abl:=ak.q
noncomputable def abn:F:=be Tryz.f40 _
theorem ak.CM:Has J 40 abn:=ak.q
noncomputable def abo:F:=be Tryz.f41 _
theorem ak.Fh:Has J 41 abo:=ak.q
noncomputable def abp:F:=be Tryz.f42 _
theorem ak.Fi:Has J 42 abp:=ak.q
noncomputable def abq:F:=be Tryz.f43 _
theorem ak.abr:Has J 43 abq:=ak.q
noncomputable def Sm:F:=be Tryz.f64 _
theorem ak.f64:Has J 64 Sm:=ak.q
noncomputable def abt:F:=be Tryz.f67 _
theorem ak.abu:Has J 67 abt:=ak.q
noncomputable def abv:F:=be Tryz.f68 _
theorem ak.abw:Has J 68 abv:=ak.q
noncomputable def abx:F:=be Tryz.f69 _
theorem ak.aby:Has J 69 abx:=ak.q
noncomputable def Sn:F:=be Tryz.f72 _
theorem ak.I1:Has J 72 Sn:=ak.q
noncomputable def abz:F:=be Tryz.f85 _
theorem ak.AE:Has J 85 abz:=ak.q
noncomputable def abA:F:=be Tryz.f86 _
theorem ak.CN:Has J 86 abA:=ak.q
noncomputable def abB:F:=be Tryz.f87 _
theorem ak.Fj:Has J 87 abB:=ak.q
noncomputable def Fk:F:=be Tryz.f88 _
noncomputable def Gy:C:=cl (((Fk.body.mL[0]?).getD (.skip,.skip)).1) _
noncomputable def r3:C:=cl (((Fk.body.mL[0]?).getD (.skip,.skip)).2) _
noncomputable def Gz:C:=r3
theorem t9{J:Prog}(s:eM)(k:c4):dA J Gz s k=dA J r3 s k:=rfl
noncomputable def akP:C:=.hp (T 22) [(a0 23)] Gy Gz
theorem ak.abC:Has J 88 Fk:=ak.q
noncomputable def abD:F:=be Tryz.f89 _
theorem ak.abE:Has J 89 abD:=ak.q
noncomputable def Sp:F:=be Tryz.f90 _
theorem ak.abF:Has J 90 Sp:=ak.q
noncomputable def Sq:F:=be Tryz.f91 _
theorem ak.abG:Has J 91 Sq:=ak.q
noncomputable def abH:F:=be Tryz.f92 _
theorem ak.abI:Has J 92 abH:=ak.q
noncomputable def I2:F:=be Tryz.f93 _
theorem ak.abJ:Has J 93 I2:=ak.q
noncomputable def abK:F:=be Tryz.f94 _
theorem ak.abL:Has J 94 abK:=ak.q
noncomputable def I3:F:=be Tryz.f95 _
theorem ak.abM:Has J 95 I3:=ak.q
noncomputable def abN:F:=be Tryz.f96 _
theorem ak.abO:Has J 96 abN:=ak.q
noncomputable def abP:F:=be Tryz.f97 _
theorem ak.abQ:Has J 97 abP:=ak.q
noncomputable def abR:F:=be Tryz.f98 _
theorem ak.abS:Has J 98 abR:=ak.q
noncomputable def abT:F:=be Tryz.f99 _
theorem ak.abU:Has J 99 abT:=ak.q
noncomputable def Dw:F:=be Tryz.f100 _
theorem ak.afM:Has J 100 Dw:=ak.q
noncomputable def afN:F:=be Tryz.f101 _
theorem ak.afO:Has J 101 afN:=ak.q
noncomputable def afP:F:=be Tryz.f102 _
theorem ak.afQ:Has J 102 afP:=ak.q
noncomputable def Ka:F:=be Tryz.f103 _
theorem ak.afR:Has J 103 Ka:=ak.q
noncomputable def Dx:F:=be Tryz.f104 _
noncomputable def aln:C:=cl ((Dx.body.iG[0]?).getD .skip) _
theorem ak.afS:Has J 104 Dx:=ak.q
noncomputable def xT:F:=be Tryz.f105 _
theorem ak.afT:Has J 105 xT:=ak.q
noncomputable def Of:F:=be Tryz.f106 _
noncomputable def alo:C:=cl ((Of.body.iG[1]?).getD .skip) _
noncomputable def aDO:C:=cl ((Of.body.iG[0]?).getD .skip) _
theorem ak.afU:Has J 106 Of:=ak.q
noncomputable def afV:F:=be Tryz.f107 _
theorem ak.afW:Has J 107 afV:=ak.q
noncomputable def g4:F:=be Tryz.f108 _
theorem ak.zj:Has J 108 g4:=ak.q
noncomputable def afX:F:=be Tryz.f109 _
theorem ak.afY:Has J 109 afX:=ak.q
noncomputable def Og:F:=be Tryz.f110 _
theorem ak.afZ:Has J 110 Og:=ak.q
noncomputable def af0:F:=be Tryz.f111 _
theorem ak.af1:Has J 111 af0:=ak.q
noncomputable def af2:F:=be Tryz.f112 _
theorem ak.af3:Has J 112 af2:=ak.q
noncomputable def af4:F:=be Tryz.f113 _
theorem ak.af5:Has J 113 af4:=ak.q
noncomputable def af6:F:=be Tryz.f114 _
theorem ak.af7:Has J 114 af6:=ak.q
noncomputable def Vs:F:=F.mk 26 (.seq (.cF [bz 4 (.c (.bool false))])<|
.seq (.seq (.cF [bz 6 (T 0),
 b6 7 (.jO false (T 6)),
 bz 8 (T 1),
 b6 9 (.jO false (T 8)),
 b6 10 (.bin .neq .int (T 7) (T 9))])<|
.cond (T 10) (.seq (.cF [bz 4 (.c (.bool false))])<|
.ret) (.skip))<|
.seq (.seq (.cF [bz 11 (T 0),
 b6 12 (.jO false (T 11)),
 bz 13 (iu 0)])<|
.block 0 (.loop (.seq (.cF [b6 14 (.bin .lss .int (T 13) (T 12))])<|
.seq (.cond (T 14) (.skip) (.exit 0))<|
.seq (.block 1 (.seq (.cF [bz 15 (T 13),
 bz 5 (T 15)])<|
.seq (.qi [(bz 16 (T 0),[]),
 (bz 17 (T 5),[]),
 (b6 18 (.lL 2 (T 16) (T 17)),[]),
 (fv 19 (.load true 2 (T 18)),[]),
 (bz 20 (T 1),[]),
 (bz 21 (T 5),[]),
 (b6 22 (.lL 2 (T 20) (T 21)),[]),
 (fv 23 (.load true 2 (T 22)),[]),
 (b6 24 (.bin .neq (.agg [.li,.fL]) (T 19) (T 23)),[])])<|
.cond (T 24) (.seq (.cF [bz 4 (.c (.bool false))])<|
.ret) (.skip)))<|
.cF [b6 25 (.bin .add .int (T 13) (iu 1)),
 bz 13 (T 25)])))<|
.seq (.cF [bz 4 (.c (.bool true))])<|
.ret) [.tmp (a0 4)]
theorem ak.av6:Has J 115 Vs:=ak.q
noncomputable def af8:F:=be Tryz.f116 _
theorem ak.af9:Has J 116 af8:=ak.q
noncomputable def aga:F:=be Tryz.f117 _
theorem ak.agb:Has J 117 aga:=ak.q
noncomputable def agc:F:=F.mk 60 (.seq (.cF [bz 2 (.c (.al))])<|
.seq (.cF [bz 3 (.c (.al))])<|
.seq (.seq (.cF [bz 4 (iu 0)])<|
.block 0 (.loop (.seq (.seq (.cF [bz 6 (T 4),
 bz 7 (T 0),
 b6 8 (.jO false (T 7)),
 b6 9 (.bin .lss .int (T 6) (T 8))])<|
.cond (T 9) (.skip) (.exit 0))<|
.seq (.block 1 (.seq (.cF [bz 5 (iu 0)])<|
.seq (.block 2 (.loop (.seq (.seq (.qi [(bz 12 (T 5),[]),
 (bz 13 (T 3),[]),
 (b6 14 (.jO false (T 13)),[]),
 (b6 15 (.bin .lss .int (T 12) (T 14)),[]),
 (bz 16 (T 15),[]),
 (nw 16 (bz 17 (T 3)),[]),
 (nw 16 (bz 18 (T 5)),[]),
 (nw 16 (b6 19 (.lL 2 (T 17) (T 18))),[]),
 (nw 16 (fv 20 (.load true 2 (T 19))),[]),
 (nw 16 (bz 21 (T 0)),[]),
 (nw 16 (bz 22 (T 4)),[]),
 (nw 16 (b6 23 (.lL 2 (T 21) (T 22))),[]),
 (nw 16 (fv 24 (.load true 2 (T 23))),[]),
 (nw 16 (ru 25 (w5 227) [(T 20),(T 24)]),[]),
 (b6 26 (.pick (T 16) (T 25) (.c (.bool false))),[])])<|
.cond (T 26) (.skip) (.exit 2))<|
.block 3 (.cF [bz 27 (T 5),
 b6 28 (.bin .add .int (T 27) (iu 1)),
 bz 5 (T 28)]))))<|
.seq (.seq (.qi [(bz 29 (T 5),[]),
 (bz 30 (T 3),[]),
 (b6 31 (.jO false (T 30)),[]),
 (b6 32 (.bin .lss .int (T 29) (T 31)),[]),
 (bz 33 (T 32),[]),
 (nw 33 (bz 34 (T 3)),[]),
 (nw 33 (bz 35 (T 5)),[]),
 (nw 33 (b6 36 (.lL 2 (T 34) (T 35))),[]),
 (nw 33 (fv 37 (.load true 2 (T 36))),[]),
 (nw 33 (bz 38 (T 0)),[]),
 (nw 33 (bz 39 (T 4)),[]),
 (nw 33 (b6 40 (.lL 2 (T 38) (T 39))),[]),
 (nw 33 (fv 41 (.load true 2 (T 40))),[]),
 (nw 33 (b6 42 (.bin .eql (.agg [.li,.fL]) (T 37) (T 41))),[]),
 (b6 43 (.pick (T 33) (T 42) (.c (.bool false))),[])])<|
.cond (T 43) (.exit 1) (.skip))<|
.qi [(qL 44 (.K4 62 2 0 [.int .i64 (.ofNat 0),.bool false] []),[]),
 (bz 45 (T 3),[]),
 (bz 46 (T 5),[]),
 (b6 47 (.A8 2 (T 45) none (some (T 46)) none),[]),
 (bz 49 (T 0),[]),
 (bz 50 (T 4),[]),
 (b6 51 (.lL 2 (T 49) (T 50)),[]),
 (fv 52 (.load true 2 (T 51)),[]),
 (qL 53 (.K4 62 2 1 [.int .i64 (.ofNat 0),.bool false] [(0,2,(T 52))]),[]),
 (bz 55 (T 3),[]),
 (bz 56 (T 5),[]),
 (b6 57 (.A8 2 (T 55) (some (T 56)) none none),[]),
 (vy 48 (.app 62 2 16 (T 44) (T 47)),[7]),
 (vy 54 (.app 62 2 16 (T 48) (T 53)),[]),
 (vy 58 (.app 62 2 16 (T 54) (T 57)),[]),
 (bz 3 (T 58),[])]))<|
.cF [bz 10 (T 4),
 b6 11 (.bin .add .int (T 10) (iu 1)),
 bz 4 (T 11)])))<|
.seq (.cF [bz 59 (T 3),
 bz 2 (T 59)])<|
.ret) [.tmp (a0 2)]
theorem ak.av7:Has J 118 agc:=ak.q
noncomputable def Vt:F:=be Tryz.f141 _
theorem ak.Dy:Has J 141 Vt:=ak.q
noncomputable def agd:F:=be Tryz.f142 _
theorem ak.age:Has J 142 agd:=ak.q
noncomputable def Oh:F:=be Tryz.f143 _
theorem ak.agf:Has J 143 Oh:=ak.q
noncomputable def agh:F:=be Tryz.f153 _
theorem ak.agi:Has J 153 agh:=ak.q
noncomputable def Vu:F:=be Tryz.f159 _
theorem ak.agj:Has J 159 Vu:=ak.q
noncomputable def av8:F:=be Tryz.f165 _
theorem ak.Vv:Has J 165 av8:=ak.q
noncomputable def Kb:F:=F.mk 22 (.seq (.cF [qL 2 (.box 62 2 (T 0)),
 qL 3 (.box 62 2 (T 1)),
 bz 4 (iu 0)])<|
.seq (.seq (.cF [b6 5 (.er 0 1 (T 2)),
 fv 6 (.load false 1 (T 5)),
 b6 7 (.er 0 1 (T 3)),
 fv 8 (.load false 1 (T 7)),
 b6 9 (.bin .neq .int (T 6) (T 8))])<|
.cond (T 9) (.seq (.cF [b6 10 (.er 0 1 (T 2)),
 fv 11 (.load false 1 (T 10)),
 b6 12 (.er 0 1 (T 3)),
 fv 13 (.load false 1 (T 12)),
 ru 14 (w5 295) [(T 11),(T 13)],
 bz 4 (T 14)])<|
.ret) (.skip))<|
.seq (.block 0 (.seq (.cF [fv 16 (.load true 2 (T 2)),
 fv 17 (.load true 2 (T 3)),
 b6 18 (.bin .eql (.agg [.li,.fL]) (T 16) (T 17)),
 bz 15 (T 18)])<|
.cond (T 15) (.seq (.cF [bz 4 (iu 0)])<|
.ret) (.seq (.cF [b6 20 (.er 1 1 (T 3)),
 fv 21 (.load false 1 (T 20)),
 bz 19 (T 21)])<|
.cond (T 19) (.seq (.cF [bz 4 (.c (.int .i64 (.negSucc 0)))])<|
.ret) (.skip))))<|
.seq (.cF [bz 4 (iu 1)])<|
.ret) [.tmp (a0 4)]
theorem ak.av9:Has J 166 Kb:=ak.q
noncomputable def Kc:F:=be Tryz.f184 _
theorem ak.Vw:Has J 184 Kc:=ak.q
noncomputable def agk:F:=be Tryz.f193 _
theorem ak.agl:Has J 193 agk:=ak.q
noncomputable def agm:F:=be Tryz.f194 _
theorem ak.agn:Has J 194 agm:=ak.q
noncomputable def ago:F:=be Tryz.f205 _
theorem ak.Ga:Has J 205 ago:=ak.q
noncomputable def agp:F:=be Tryz.f206 _
theorem ak.agq:Has J 206 agp:=ak.q
noncomputable def Oi:F:=be Tryz.f207 _
noncomputable def PK:C:=cl (((Oi.body.mL[0]?).getD (.skip,.skip)).1) _
noncomputable def Lf:C:=cl (((Oi.body.mL[0]?).getD (.skip,.skip)).2) _
noncomputable def PL:C:=Lf
theorem XK{J:Prog}(s:eM)(k:c4):dA J PL s k=dA J Lf s k:=rfl
noncomputable def alp:C:=.hp (T 13) [(a0 14),(a0 15)] PK PL
theorem ak.agr:Has J 207 Oi:=ak.q
noncomputable def ags:F:=be Tryz.f208 _
theorem ak.agt:Has J 208 ags:=ak.q
noncomputable def Dz:F:=be Tryz.f209 _
theorem ak.agu:Has J 209 Dz:=ak.q
noncomputable def DC:F:=be Tryz.f210 _
noncomputable def alq:C:=cl ((DC.body.iG[0]?).getD .skip) _
theorem ak.agv:Has J 210 DC:=ak.q
noncomputable def agw:F:=be Tryz.f211 _
theorem ak.agx:Has J 211 agw:=ak.q
noncomputable def agy:F:=be Tryz.f212 _
theorem ak.agz:Has J 212 agy:=ak.q
noncomputable def Kd:F:=be Tryz.f213 _
noncomputable def aDP:C:=cl ((Kd.body.iG[0]?).getD .skip) _
noncomputable def XL:C:=cl (((Kd.body.mL[0]?).getD (.skip,.skip)).1) _
noncomputable def XM:C:=cl (((Kd.body.mL[0]?).getD (.skip,.skip)).2) _
noncomputable def XN:C:=XM
theorem aDQ{J:Prog}(s:eM)(k:c4):dA J XN s k=dA J XM s k:=rfl
noncomputable def alr:C:=.hp (T 11) [(a0 12)] XL XN
theorem ak.agA:Has J 213 Kd:=ak.q
noncomputable def agB:F:=be Tryz.f214 _
theorem ak.agC:Has J 214 agB:=ak.q
noncomputable def agD:F:=be Tryz.f215 _
theorem ak.agE:Has J 215 agD:=ak.q
noncomputable def agF:F:=be Tryz.f216 _
theorem ak.agG:Has J 216 agF:=ak.q
noncomputable def DD:F:=be Tryz.f217 _
theorem ak.Vx:Has J 217 DD:=ak.q
noncomputable def Ke:F:=be Tryz.f218 _
noncomputable def als:C:=cl ((Ke.body.iG[0]?).getD .skip) _
noncomputable def GO:C:=cl (((Ke.body.mL[0]?).getD (.skip,.skip)).1) _
noncomputable def XO:C:=cl (((Ke.body.mL[0]?).getD (.skip,.skip)).2) _
noncomputable def GP:C:=XO
theorem aDR{J:Prog}(s:eM)(k:c4):dA J GP s k=dA J XO s k:=rfl
noncomputable def alu:C:=.hp (T 16) [(a0 17)] GO GP
theorem ak.agH:Has J 218 Ke:=ak.q
noncomputable def agI:F:=be Tryz.f219 _
theorem ak.Vy:Has J 219 agI:=ak.q
noncomputable def agJ:F:=be Tryz.f220 _
theorem ak.agK:Has J 220 agJ:=ak.q
noncomputable def agL:F:=be Tryz.f221 _
theorem ak.agM:Has J 221 agL:=ak.q
noncomputable def Oj:F:=be Tryz.f222 _
theorem ak.agN:Has J 222 Oj:=ak.q
noncomputable def agO:F:=be Tryz.f223 _
theorem ak.agP:Has J 223 agO:=ak.q
noncomputable def Vz:F:=be Tryz.f224 _
theorem ak.VA:Has J 224 Vz:=ak.q
noncomputable def VB:F:=be Tryz.f225 _
theorem ak.VC:Has J 225 VB:=ak.q
noncomputable def Ol:F:=be Tryz.f226 _
theorem ak.agQ:Has J 226 Ol:=ak.q
noncomputable def Om:F:=be Tryz.f227 _
theorem ak.agR:Has J 227 Om:=ak.q
noncomputable def VD:F:=be Tryz.f228 _
theorem ak.agS:Has J 228 VD:=ak.q
noncomputable def agT:F:=be Tryz.f229 _
theorem ak.agU:Has J 229 agT:=ak.q
noncomputable def Gb:F:=be Tryz.f230 _
noncomputable def alv:C:=cl ((Gb.body.iG[3]?).getD .skip) _
noncomputable def alw:C:=cl ((Gb.body.iG[2]?).getD .skip) _
noncomputable def alx:C:=cl ((Gb.body.iG[1]?).getD .skip) _
theorem ak.agV:Has J 230 Gb:=ak.q
noncomputable def agW:F:=be Tryz.f231 _
theorem ak.agX:Has J 231 agW:=ak.q
noncomputable def Kf:F:=be Tryz.f232 _
noncomputable def aly:C:=cl ((Kf.body.iG[1]?).getD .skip) _
noncomputable def alz:C:=cl ((Kf.body.iG[0]?).getD .skip) _
theorem ak.agY:Has J 232 Kf:=ak.q
noncomputable def agZ:F:=be Tryz.f233 _
theorem ak.ag0:Has J 233 agZ:=ak.q
noncomputable def ag1:F:=be Tryz.f234 _
theorem ak.ag2:Has J 234 ag1:=ak.q
noncomputable def ag3:F:=be Tryz.f235 _
theorem ak.ag4:Has J 235 ag3:=ak.q
noncomputable def ag5:F:=be Tryz.f236 _
theorem ak.ag6:Has J 236 ag5:=ak.q
noncomputable def ag7:F:=be Tryz.f237 _
theorem ak.ag8:Has J 237 ag7:=ak.q
noncomputable def ag9:F:=be Tryz.f238 _
theorem ak.aha:Has J 238 ag9:=ak.q
noncomputable def ahb:F:=be Tryz.f239 _
theorem ak.ahc:Has J 239 ahb:=ak.q
noncomputable def VE:F:=be Tryz.f240 _
theorem ak.VF:Has J 240 VE:=ak.q
noncomputable def ahd:F:=be Tryz.f241 _
theorem ak.ahe:Has J 241 ahd:=ak.q
noncomputable def awa:F:=be Tryz.f242 _
theorem ak.VG:Has J 242 awa:=ak.q
noncomputable def VH:F:=F.mk 61 (.seq (.cF [bz 2 (.c (.al))])<|
.seq (.seq (.cF [bz 6 (T 0),
 b6 7 (.jO false (T 6)),
 b6 8 (.bin .lss .int (T 7) (iu 2))])<|
.cond (T 8) (.seq (.cF [bz 9 (T 0),
 bz 2 (T 9)])<|
.ret) (.skip))<|
.seq (.seq (.cF [bz 3 (iu 1)])<|
.block 0 (.loop (.seq (.seq (.cF [bz 10 (T 3),
 bz 11 (T 0),
 b6 12 (.jO false (T 11)),
 b6 13 (.bin .lss .int (T 10) (T 12))])<|
.cond (T 13) (.skip) (.exit 0))<|
.seq (.block 1 (.seq (.qi [(bz 16 (T 0),[]),
 (bz 17 (T 3),[]),
 (b6 18 (.lL 2 (T 16) (T 17)),[]),
 (fv 19 (.load true 2 (T 18)),[]),
 (bz 20 (T 0),[]),
 (bz 21 (T 3),[]),
 (b6 22 (.bin .sub .int (T 21) (iu 1)),[]),
 (b6 23 (.lL 2 (T 20) (T 22)),[]),
 (fv 24 (.load true 2 (T 23)),[]),
 (b6 25 (.bin .eql (.agg [.li,.fL]) (T 19) (T 24)),[])])<|
.cond (T 25) (.seq (.cF [bz 26 (T 0),
 bz 27 (T 3),
 b6 28 (.A8 2 (T 26) (some (T 27)) none none),
 bz 4 (T 28)])<|
.seq (.seq (.cF [bz 5 (iu 1)])<|
.block 2 (.loop (.seq (.seq (.cF [bz 29 (T 5),
 bz 30 (T 4),
 b6 31 (.jO false (T 30)),
 b6 32 (.bin .lss .int (T 29) (T 31))])<|
.cond (T 32) (.skip) (.exit 2))<|
.seq (.block 3 (.seq (.qi [(bz 35 (T 4),[]),
 (bz 36 (T 5),[]),
 (b6 37 (.lL 2 (T 35) (T 36)),[]),
 (fv 38 (.load true 2 (T 37)),[]),
 (bz 39 (T 4),[]),
 (bz 40 (T 5),[]),
 (b6 41 (.bin .sub .int (T 40) (iu 1)),[]),
 (b6 42 (.lL 2 (T 39) (T 41)),[]),
 (fv 43 (.load true 2 (T 42)),[]),
 (b6 44 (.bin .neq (.agg [.li,.fL]) (T 38) (T 43)),[])])<|
.cond (T 44) (.seq (.cF [bz 45 (T 0),
 bz 46 (T 3),
 bz 47 (T 4),
 bz 48 (T 5),
 b6 49 (.lL 2 (T 47) (T 48)),
 fv 50 (.load true 2 (T 49)),
 b6 51 (.lL 2 (T 45) (T 46)),
 uw (.wr (.store 2 (T 51) (T 50)))])<|
.cF [bz 52 (T 3),
 b6 53 (.bin .add .int (T 52) (iu 1)),
 bz 3 (T 53)]) (.skip)))<|
.cF [bz 33 (T 5),
 b6 34 (.bin .add .int (T 33) (iu 1)),
 bz 5 (T 34)])))<|
.seq (.cF [bz 54 (T 0),
 bz 55 (T 3),
 b6 56 (.A8 2 (T 54) (some (T 55)) none none),
 uw (.wr (.N2 2 [.int .i64 (.ofNat 0),.bool false] (T 56)))])<|
.seq (.cF [bz 57 (T 0),
 bz 58 (T 3),
 b6 59 (.A8 2 (T 57) none (some (T 58)) none),
 bz 2 (T 59)])<|
.ret) (.skip)))<|
.cF [bz 14 (T 3),
 b6 15 (.bin .add .int (T 14) (iu 1)),
 bz 3 (T 15)])))<|
.seq (.cF [bz 60 (T 0),
 bz 2 (T 60)])<|
.ret) [.tmp (a0 2)]
theorem ak.ahf:Has J 244 VH:=ak.q
noncomputable def awb:F:=be Tryz.f245 _
theorem ak.VI:Has J 245 awb:=ak.q
noncomputable def ahg:F:=be Tryz.f246 _
theorem ak.ahh:Has J 246 ahg:=ak.q
noncomputable def ahi:F:=be Tryz.f247 _
theorem ak.ahj:Has J 247 ahi:=ak.q
noncomputable def ahk:F:=be Tryz.f248 _
theorem ak.ahl:Has J 248 ahk:=ak.q
noncomputable def ahm:F:=be Tryz.f249 _
theorem ak.ahn:Has J 249 ahm:=ak.q
noncomputable def aho:F:=be Tryz.f250 _
theorem ak.ahp:Has J 250 aho:=ak.q
noncomputable def ahq:F:=be Tryz.f251 _
theorem ak.ahr:Has J 251 ahq:=ak.q
noncomputable def awc:F:=be Tryz.f259 _
theorem ak.VJ:Has J 259 awc:=ak.q
noncomputable def ahs:F:=be Tryz.f268 _
theorem ak.aht:Has J 268 ahs:=ak.q
noncomputable def ahu:F:=be Tryz.f276 _
theorem ak.ahv:Has J 276 ahu:=ak.q
noncomputable def ahw:F:=be Tryz.f282 _
theorem ak.ahx:Has J 282 ahw:=ak.q
noncomputable def VK:F:=be Tryz.f283 _
theorem ak.ahy:Has J 283 VK:=ak.q
noncomputable def ahz:F:=be Tryz.f288 _
theorem ak.ahA:Has J 288 ahz:=ak.q
noncomputable def ahB:F:=be Tryz.f289 _
theorem ak.ahC:Has J 289 ahB:=ak.q
noncomputable def On:F:=be Tryz.f295 _
theorem ak.VL:Has J 295 On:=ak.q
noncomputable def ahD:F:=be Tryz.f302 _
theorem ak.ahE:Has J 302 ahD:=ak.q
noncomputable def Oo:F:=be Tryz.f303 _
theorem ak.ahF:Has J 303 Oo:=ak.q
noncomputable def ahG:F:=be Tryz.f327 _
theorem ak.ahH:Has J 327 ahG:=ak.q
noncomputable def ahI:F:=be Tryz.f334 _
theorem ak.Kg:Has J 334 ahI:=ak.q
noncomputable def ahJ:F:=be Tryz.f335 _
theorem ak.ahK:Has J 335 ahJ:=ak.q
noncomputable def ahL:F:=be Tryz.f336 _
theorem ak.ahM:Has J 336 ahL:=ak.q
noncomputable def VM:F:=be Tryz.f337 _
theorem ak.ahN:Has J 337 VM:=ak.q
noncomputable def ahO:F:=be Tryz.f338 _
theorem ak.ahP:Has J 338 ahO:=ak.q
noncomputable def ahQ:F:=be Tryz.f339 _
theorem ak.Kh:Has J 339 ahQ:=ak.q
noncomputable def VN:F:=be Tryz.f340 _
theorem ak.ahR:Has J 340 VN:=ak.q
noncomputable def ahS:F:=be Tryz.f341 _
theorem ak.ahT:Has J 341 ahS:=ak.q
noncomputable def DE:F:=be Tryz.f342 _
noncomputable def alA:C:=cl ((DE.body.iG[0]?).getD .skip) _
noncomputable def Ed:C:=cl (((DE.body.mL[0]?).getD (.skip,.skip)).1) _
noncomputable def XP:C:=cl (((DE.body.mL[0]?).getD (.skip,.skip)).2) _
noncomputable def Ee:C:=XP
theorem aDS{J:Prog}(s:eM)(k:c4):dA J Ee s k=dA J XP s k:=rfl
noncomputable def alB:C:=.hp (T 85) [(a0 86),(a0 87)] Ed Ee
theorem ak.ahU:Has J 342 DE:=ak.q
noncomputable def wk:F:=be Tryz.f343 _
noncomputable def alC:C:=cl ((wk.body.iG[0]?).getD .skip) _
theorem ak.ahV:Has J 343 wk:=ak.q
noncomputable def ahW:F:=be Tryz.f344 _
theorem ak.ahX:Has J 344 ahW:=ak.q
noncomputable def ahY:F:=be Tryz.f345 _
theorem ak.ahZ:Has J 345 ahY:=ak.q
noncomputable def ah0:F:=be Tryz.f346 _
theorem ak.ah1:Has J 346 ah0:=ak.q
noncomputable def ah2:F:=be Tryz.f347 _
theorem ak.ah3:Has J 347 ah2:=ak.q
noncomputable def ah4:F:=be Tryz.f348 _
theorem ak.ah5:Has J 348 ah4:=ak.q
noncomputable def ah6:F:=be Tryz.f349 _
theorem ak.ah7:Has J 349 ah6:=ak.q
noncomputable def ah8:F:=be Tryz.f350 _
theorem ak.ah9:Has J 350 ah8:=ak.q
noncomputable def aia:F:=be Tryz.f352 _
theorem ak.aib:Has J 352 aia:=ak.q
noncomputable def Ki:F:=F.mk 102 (.seq (.cF [bz 4 (.c (.bool false))])<|
.seq (.seq (.cF [bz 10 (T 0),
 b6 11 (.jO false (T 10)),
 bz 12 (T 1),
 b6 13 (.jO false (T 12)),
 b6 14 (.bin .neq .int (T 11) (T 13))])<|
.cond (T 14) (.seq (.cF [bz 4 (.c (.bool false))])<|
.ret) (.skip))<|
.seq (.seq (.cF [bz 5 (iu 0)])<|
.block 0 (.loop (.seq (.seq (.cF [bz 15 (T 5),
 bz 16 (T 0),
 b6 17 (.jO false (T 16)),
 b6 18 (.bin .lss .int (T 15) (T 17))])<|
.cond (T 18) (.skip) (.exit 0))<|
.seq (.block 1 (.seq (.qi [(bz 21 (T 0),[]),
 (bz 22 (T 5),[]),
 (b6 23 (.lL 5 (T 21) (T 22)),[]),
 (fv 24 (.load true 5 (T 23)),[]),
 (bz 25 (T 1),[]),
 (bz 26 (T 5),[]),
 (b6 27 (.lL 5 (T 25) (T 26)),[]),
 (fv 28 (.load true 5 (T 27)),[]),
 (qL 6 (.alloc 90 [.int .i64 (.ofNat 0),.str [],.str [],.al,.al]),[]),
 (qL 7 (.alloc 90 [.int .i64 (.ofNat 0),.str [],.str [],.al,.al]),[]),
 (uw (.wr (.store 5 (T 6) (T 24))),[7]),
 (uw (.wr (.store 5 (T 7) (T 28))),[])])<|
.seq (.seq (.cF [b6 29 (.er 0 1 (T 6)),
 fv 30 (.load false 1 (T 29)),
 b6 31 (.er 0 1 (T 7)),
 fv 32 (.load false 1 (T 31)),
 b6 33 (.bin .neq .int (T 30) (T 32)),
 bz 34 (T 33),
 k9 34 (b6 35 (.er 1 1 (T 6))),
 k9 34 (fv 36 (.load false 1 (T 35))),
 k9 34 (b6 37 (.er 1 1 (T 7))),
 k9 34 (fv 38 (.load false 1 (T 37))),
 k9 34 (b6 39 (.bin .neq .str (T 36) (T 38))),
 b6 40 (.pick (T 34) (.c (.bool true)) (T 39)),
 bz 41 (T 40),
 k9 41 (b6 42 (.er 2 1 (T 6))),
 k9 41 (fv 43 (.load false 1 (T 42))),
 k9 41 (b6 44 (.er 2 1 (T 7))),
 k9 41 (fv 45 (.load false 1 (T 44))),
 k9 41 (b6 46 (.bin .neq .str (T 43) (T 45))),
 b6 47 (.pick (T 41) (.c (.bool true)) (T 46)),
 bz 48 (T 47),
 k9 48 (b6 49 (.er 4 1 (T 6))),
 k9 48 (fv 50 (.load false 1 (T 49))),
 k9 48 (b6 51 (.jO false (T 50))),
 k9 48 (b6 52 (.er 4 1 (T 7))),
 k9 48 (fv 53 (.load false 1 (T 52))),
 k9 48 (b6 54 (.jO false (T 53))),
 k9 48 (b6 55 (.bin .neq .int (T 51) (T 54))),
 b6 56 (.pick (T 48) (.c (.bool true)) (T 55)),
 bz 57 (T 56),
 k9 57 (b6 58 (.er 3 1 (T 6))),
 k9 57 (fv 59 (.load false 1 (T 58))),
 k9 57 (b6 60 (.jO false (T 59))),
 k9 57 (b6 61 (.er 3 1 (T 7))),
 k9 57 (fv 62 (.load false 1 (T 61))),
 k9 57 (b6 63 (.jO false (T 62))),
 k9 57 (b6 64 (.bin .neq .int (T 60) (T 63))),
 b6 65 (.pick (T 57) (.c (.bool true)) (T 64))])<|
.cond (T 65) (.seq (.cF [bz 4 (.c (.bool false))])<|
.ret) (.skip))<|
.seq (.seq (.cF [bz 8 (iu 0)])<|
.block 2 (.loop (.seq (.seq (.cF [bz 66 (T 8),
 b6 67 (.er 4 1 (T 6)),
 fv 68 (.load false 1 (T 67)),
 b6 69 (.jO false (T 68)),
 b6 70 (.bin .lss .int (T 66) (T 69))])<|
.cond (T 70) (.skip) (.exit 2))<|
.seq (.block 3 (.seq (.qi [(b6 73 (.er 4 1 (T 6)),[]),
 (fv 74 (.load false 1 (T 73)),[]),
 (bz 75 (T 8),[]),
 (b6 76 (.lL 1 (T 74) (T 75)),[]),
 (fv 77 (.load false 1 (T 76)),[]),
 (b6 78 (.er 4 1 (T 7)),[]),
 (fv 79 (.load false 1 (T 78)),[]),
 (bz 80 (T 8),[]),
 (b6 81 (.lL 1 (T 79) (T 80)),[]),
 (fv 82 (.load false 1 (T 81)),[]),
 (b6 83 (.bin .neq .int (T 77) (T 82)),[])])<|
.cond (T 83) (.seq (.cF [bz 4 (.c (.bool false))])<|
.ret) (.skip)))<|
.cF [bz 71 (T 8),
 b6 72 (.bin .add .int (T 71) (iu 1)),
 bz 8 (T 72)])))<|
.seq (.cF [bz 9 (iu 0)])<|
.block 4 (.loop (.seq (.seq (.cF [bz 84 (T 9),
 b6 85 (.er 3 1 (T 6)),
 fv 86 (.load false 1 (T 85)),
 b6 87 (.jO false (T 86)),
 b6 88 (.bin .lss .int (T 84) (T 87))])<|
.cond (T 88) (.skip) (.exit 4))<|
.seq (.block 5 (.seq (.qi [(b6 91 (.er 3 1 (T 6)),[]),
 (fv 92 (.load false 1 (T 91)),[]),
 (bz 93 (T 9),[]),
 (b6 94 (.lL 2 (T 92) (T 93)),[]),
 (fv 95 (.load true 2 (T 94)),[]),
 (b6 96 (.er 3 1 (T 7)),[]),
 (fv 97 (.load false 1 (T 96)),[]),
 (bz 98 (T 9),[]),
 (b6 99 (.lL 2 (T 97) (T 98)),[]),
 (fv 100 (.load true 2 (T 99)),[]),
 (b6 101 (.bin .neq (.agg [.bF,.bF]) (T 95) (T 100)),[])])<|
.cond (T 101) (.seq (.cF [bz 4 (.c (.bool false))])<|
.ret) (.skip)))<|
.cF [bz 89 (T 9),
 b6 90 (.bin .add .int (T 89) (iu 1)),
 bz 9 (T 90)]))))<|
.cF [bz 19 (T 5),
 b6 20 (.bin .add .int (T 19) (iu 1)),
 bz 5 (T 20)])))<|
.seq (.cF [bz 4 (.c (.bool true))])<|
.ret) [.tmp (a0 4)]
noncomputable def alD:C:=cl ((Ki.body.iG[2]?).getD .skip) _
noncomputable def alE:C:=cl ((Ki.body.iG[1]?).getD .skip) _
theorem ak.awd:Has J 353 Ki:=ak.q
noncomputable def VO:F:=F.mk 55 (.seq (.cF [bz 4 (iu 0)])<|
.seq (.seq (.cF [bz 11 (T 1),
 b6 12 (.bin .eql .str (T 11) (.c (.str [])))])<|
.cond (T 12) (.seq (.cF [bz 4 (.c (.int .i64 (.negSucc 0)))])<|
.ret) (.skip))<|
.seq (.seq (.cF [bz 13 (T 1),
 b6 14 (.jO true (T 13)),
 b6 15 (.bin .eql .int (T 14) (iu 1))])<|
.cond (T 15) (.seq (.cF [bz 16 (T 1),
 b6 17 (.Gp (T 16) (iu 0)),
 b6 18 (.Mw .i32 (T 17)),
 bz 5 (T 18)])<|
.seq (.seq (.cF [bz 19 (T 5),
 b6 20 (.bin .geq .int (T 19) (.c (.int .i32 (.ofNat 128))))])<|
.cond (T 20) (.cF [bz 5 (.c (.int .i32 (.ofNat 65533)))]) (.skip))<|
.seq (.cF [bz 21 (T 0),
 bz 22 (T 5),
 ru 23 (w5 453) [(T 21),(T 22)],
 bz 4 (T 23)])<|
.ret) (.skip))<|
.seq (.seq (.cF [bz 24 (T 0),
 b6 25 (.jO true (T 24)),
 ru 26 (w5 454) [(T 25)]])<|
.cond (T 26) (.seq (.cF [bz 28 (T 1),
 ru 29 (w5 455) [(T 28)],
 bz 27 (T 29),
 b6 30 (.uY 0 (T 27)),
 b6 31 (.uY 1 (T 27)),
 qL 6 (.alloc 485 (List.replicate 256 (.bool false))),
 uw (.wr (.store 256 (T 6) (T 30))),
 bz 7 (T 31)])<|
.seq (.cF [bz 32 (T 7)])<|
.cond (T 32) (.seq (.seq (.cF [bz 8 (iu 0)])<|
.block 0 (.loop (.seq (.seq (.cF [bz 33 (T 8),
 bz 34 (T 0),
 b6 35 (.jO true (T 34)),
 b6 36 (.bin .lss .int (T 33) (T 35))])<|
.cond (T 36) (.skip) (.exit 0))<|
.seq (.block 1 (.seq (.cF [bz 39 (T 0),
 bz 40 (T 8),
 b6 41 (.Gp (T 39) (T 40)),
 ru 42 (w5 456) [(T 6),(T 41)]])<|
.cond (T 42) (.seq (.cF [bz 43 (T 8),
 bz 4 (T 43)])<|
.ret) (.skip)))<|
.cF [bz 37 (T 8),
 b6 38 (.bin .add .int (T 37) (iu 1)),
 bz 8 (T 38)])))<|
.seq (.cF [bz 4 (.c (.int .i64 (.negSucc 0)))])<|
.ret) (.skip)) (.skip))<|
.seq (.seq (.cF [bz 44 (T 0),
 qL 45 (.N1 (T 44))])<|
.block 2 (.loop (.seq (.cF [vy 46 (.yH true (T 45)),
 b6 47 (.uY 0 (T 46))])<|
.seq (.cond (T 47) (.skip) (.exit 2))<|
.block 3 (.seq (.cF [b6 48 (.uY 1 (T 46)),
 b6 49 (.uY 2 (T 46)),
 bz 9 (T 48),
 bz 10 (T 49)])<|
.seq (.cF [bz 50 (T 1),
 bz 51 (T 10),
 ru 52 (w5 453) [(T 50),(T 51)],
 b6 53 (.bin .geq .int (T 52) (iu 0))])<|
.cond (T 53) (.seq (.cF [bz 54 (T 9),
 bz 4 (T 54)])<|
.ret) (.skip)))))<|
.seq (.cF [bz 4 (.c (.int .i64 (.negSucc 0)))])<|
.ret) [.tmp (a0 4)]
theorem ak.awe:Has J 367 VO:=ak.q
noncomputable def VP:F:=be Tryz.f371 _
theorem ak.VQ:Has J 371 VP:=ak.q
noncomputable def Oq:F:=be Tryz.f376 _
theorem ak.aic:Has J 376 Oq:=ak.q
noncomputable def aid:F:=be Tryz.f378 _
theorem ak.aie:Has J 378 aid:=ak.q
noncomputable def aif:F:=be Tryz.f382 _
theorem ak.aih:Has J 382 aif:=ak.q
noncomputable def aii:F:=be Tryz.f397 _
theorem ak.Ot:Has J 397 aii:=ak.q
noncomputable def aij:F:=be Tryz.f403 _
theorem ak.aik:Has J 403 aij:=ak.q
noncomputable def VR:F:=be Tryz.f415 _
theorem ak.ail:Has J 415 VR:=ak.q
noncomputable def aim:F:=be Tryz.f416 _
theorem ak.ain:Has J 416 aim:=ak.q
noncomputable def aio:F:=be Tryz.f417 _
theorem ak.aip:Has J 417 aio:=ak.q
noncomputable def VS:F:=be Tryz.f418 _
theorem ak.aiq:Has J 418 VS:=ak.q
noncomputable def air:F:=be Tryz.f419 _
theorem ak.ais:Has J 419 air:=ak.q
noncomputable def Kj:F:=be Tryz.f420 _
noncomputable def PM:C:=cl (((Kj.body.mL[0]?).getD (.skip,.skip)).1) _
noncomputable def PN:C:=cl (((Kj.body.mL[0]?).getD (.skip,.skip)).2) _
noncomputable def PO:C:=PN
theorem alF{J:Prog}(s:eM)(k:c4):dA J PO s k=dA J PN s k:=rfl
noncomputable def alG:C:=.hp (T 23) [(a0 24),(a0 25)] PM PO
theorem ak.ait:Has J 420 Kj:=ak.q
noncomputable def Ou:F:=be Tryz.f421 _
noncomputable def XQ:C:=cl (((Ou.body.mL[0]?).getD (.skip,.skip)).1) _
noncomputable def XR:C:=cl (((Ou.body.mL[0]?).getD (.skip,.skip)).2) _
noncomputable def XS:C:=XR
theorem aDT{J:Prog}(s:eM)(k:c4):dA J XS s k=dA J XR s k:=rfl
noncomputable def alH:C:=.hp (T 17) [(a0 18),(a0 19)] XQ XS
theorem ak.aiu:Has J 421 Ou:=ak.q
noncomputable def Ov:F:=be Tryz.f422 _
noncomputable def alI:C:=cl ((Ov.body.iG[1]?).getD .skip) _
noncomputable def aDU:C:=cl ((Ov.body.iG[0]?).getD .skip) _
theorem ak.aiv:Has J 422 Ov:=ak.q
noncomputable def aiw:F:=be Tryz.f423 _
theorem ak.DF:Has J 423 aiw:=ak.q
noncomputable def VT:F:=be Tryz.f424 _
theorem ak.aix:Has J 424 VT:=ak.q
noncomputable def aiy:F:=be Tryz.f425 _
theorem ak.aiz:Has J 425 aiy:=ak.q
noncomputable def Ow:F:=be Tryz.f426 _
theorem ak.aiA:Has J 426 Ow:=ak.q
noncomputable def Ox:F:=be Tryz.f427 _
noncomputable def XT:C:=cl ((Ox.body.iG[1]?).getD .skip) _
noncomputable def aDV:C:=cl ((Ox.body.iG[0]?).getD .skip) _
theorem ak.aiB:Has J 427 Ox:=ak.q
noncomputable def aiC:F:=be Tryz.f428 _
theorem ak.aiD:Has J 428 aiC:=ak.q
noncomputable def VU:F:=be Tryz.f432 _
theorem ak.aiE:Has J 432 VU:=ak.q
noncomputable def Gc:F:=be Tryz.f433 _
theorem ak.aiF:Has J 433 Gc:=ak.q
noncomputable def aiG:F:=be Tryz.f442 _
theorem ak.aiH:Has J 442 aiG:=ak.q
noncomputable def Kk:F:=be Tryz.f453 _
theorem ak.Oy:Has J 453 Kk:=ak.q
noncomputable def aiI:F:=be Tryz.f454 _
theorem ak.aiJ:Has J 454 aiI:=ak.q
noncomputable def aiK:F:=F.mk 21 (.seq (.cF [qL 2 (.alloc 485 (List.replicate 256 (.bool false))),
 bz 3 (.c (.bool false))])<|
.seq (.seq (.cF [bz 4 (iu 0)])<|
.block 0 (.loop (.seq (.seq (.cF [bz 6 (T 4),
 bz 7 (T 0),
 b6 8 (.jO true (T 7)),
 b6 9 (.bin .lss .int (T 6) (T 8))])<|
.cond (T 9) (.skip) (.exit 0))<|
.seq (.block 1 (.seq (.cF [bz 12 (T 0),
 bz 13 (T 4),
 b6 14 (.Gp (T 12) (T 13)),
 bz 5 (T 14)])<|
.seq (.seq (.cF [bz 15 (T 5),
 b6 16 (.bin .geq .int (T 15) (.c (.int .u8 (.ofNat 128))))])<|
.cond (T 16) (.seq (.cF [fv 17 (.load true 256 (T 2)),
 uw (.wr (.store 256 (T 2) (T 17))),
 bz 3 (.c (.bool false))])<|
.ret) (.skip))<|
.cF [bz 18 (T 5),
 b6 19 (.KG 1 256 (T 2) (T 18)),
 uw (.wr (.store 1 (T 19) (.c (.bool true))))]))<|
.cF [bz 10 (T 4),
 b6 11 (.bin .add .int (T 10) (iu 1)),
 bz 4 (T 11)])))<|
.seq (.cF [fv 20 (.load true 256 (T 2)),
 uw (.wr (.store 256 (T 2) (T 20))),
 bz 3 (.c (.bool true))])<|
.ret) [.cell (a0 2) true 256,.tmp (a0 3)]
theorem ak.Oz:Has J 455 aiK:=ak.q
noncomputable def aiL:F:=be Tryz.f456 _
theorem ak.aiM:Has J 456 aiL:=ak.q
noncomputable def aiN:F:=be Tryz.f480 _
theorem ak.aiO:Has J 480 aiN:=ak.q
noncomputable def OA:F:=be Tryz.f515 _
theorem ak.aiP:Has J 515 OA:=ak.q
noncomputable def aiQ:F:=be Tryz.f516 _
theorem ak.aiR:Has J 516 aiQ:=ak.q
noncomputable def OB:F:=be Tryz.f517 _
theorem ak.aiS:Has J 517 OB:=ak.q
noncomputable def aiT:F:=be Tryz.f518 _
theorem ak.aiU:Has J 518 aiT:=ak.q
noncomputable def VV:F:=be Tryz.f519 _
theorem ak.aiV:Has J 519 VV:=ak.q
noncomputable def VW:F:=F.mk 26 (.seq (.cF [bz 4 (.c (.bool false))])<|
.seq (.seq (.cF [bz 6 (T 0),
 b6 7 (.jO false (T 6)),
 bz 8 (T 1),
 b6 9 (.jO false (T 8)),
 b6 10 (.bin .neq .int (T 7) (T 9))])<|
.cond (T 10) (.seq (.cF [bz 4 (.c (.bool false))])<|
.ret) (.skip))<|
.seq (.seq (.cF [bz 11 (T 0),
 b6 12 (.jO false (T 11)),
 bz 13 (iu 0)])<|
.block 0 (.loop (.seq (.cF [b6 14 (.bin .lss .int (T 13) (T 12))])<|
.seq (.cond (T 14) (.skip) (.exit 0))<|
.seq (.block 1 (.seq (.cF [bz 15 (T 13),
 bz 5 (T 15)])<|
.seq (.qi [(bz 16 (T 0),[]),
 (bz 17 (T 5),[]),
 (b6 18 (.lL 2 (T 16) (T 17)),[]),
 (fv 19 (.load true 2 (T 18)),[]),
 (bz 20 (T 1),[]),
 (bz 21 (T 5),[]),
 (b6 22 (.lL 2 (T 20) (T 21)),[]),
 (fv 23 (.load true 2 (T 22)),[]),
 (b6 24 (.bin .neq (.agg [.bF,.bF]) (T 19) (T 23)),[])])<|
.cond (T 24) (.seq (.cF [bz 4 (.c (.bool false))])<|
.ret) (.skip)))<|
.cF [b6 25 (.bin .add .int (T 13) (iu 1)),
 bz 13 (T 25)])))<|
.seq (.cF [bz 4 (.c (.bool true))])<|
.ret) [.tmp (a0 4)]
theorem ak.awf:Has J 522 VW:=ak.q
noncomputable def VX:F:=be Tryz.f523 _
theorem ak.aiW:Has J 523 VX:=ak.q
noncomputable def OC:F:=be Tryz.f532 _
theorem ak.OD:Has J 532 OC:=ak.q
noncomputable def VY:F:=be Tryz.f541 _
theorem ak.aiX:Has J 541 VY:=ak.q
noncomputable def aiY:F:=be Tryz.f550 _
theorem ak.aiZ:Has J 550 aiY:=ak.q
noncomputable def OE:F:=be Tryz.f588 _
noncomputable def alJ:C:=cl ((OE.body.iG[1]?).getD .skip) _
noncomputable def aDW:C:=cl ((OE.body.iG[0]?).getD .skip) _
theorem ak.ai0:Has J 588 OE:=ak.q
noncomputable def VZ:F:=be Tryz.f597 _
theorem ak.ai1:Has J 597 VZ:=ak.q
noncomputable def ai2:F:=be Tryz.f795 _
theorem ak.ai3:Has J 795 ai2:=ak.q
noncomputable def ai4:F:=be Tryz.f796 _
theorem ak.ai5:Has J 796 ai4:=ak.q
noncomputable def OF:F:=be Tryz.f797 _
theorem ak.ai6:Has J 797 OF:=ak.q
noncomputable def ai7:F:=be Tryz.f798 _
theorem ak.ai8:Has J 798 ai7:=ak.q
noncomputable def V0:F:=be Tryz.f799 _
theorem ak.ai9:Has J 799 V0:=ak.q
noncomputable def OG:F:=be Tryz.f800 _
theorem ak.aja:Has J 800 OG:=ak.q
noncomputable def ajb:F:=be Tryz.f801 _
theorem ak.ajc:Has J 801 ajb:=ak.q
noncomputable def ZS:F:=be Tryz.f3 _
theorem ak.aR:Has J 3 ZS:=ak.q
end
end Go.ao
