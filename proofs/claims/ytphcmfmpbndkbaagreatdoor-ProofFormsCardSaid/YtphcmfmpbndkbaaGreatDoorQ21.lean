/- A part of the proof that ProofForms holds for every input. -/
import Derived.Shelf.SlIterI.Sorted
import Derived.Shelf.SortM.Plain
import Derived.Shelf.SortM.SortNone
import Derived.Shelf.SlSortCmp.NoneTotal
import Derived.Shelf.SlicesG.Cmp
import Derived.Shelf.Small.Bits
import Derived.Ground.GgzProg
import Derived.Ground.SlgmProg
import Derived.Ground.SlsfProg
import Derived.Ground.SlgcProg
import Derived.Ground.NamesProg
import Derived.Shelf.Strings.Search2
import Derived.Test.YtphcmfmpbndkbaaGreatDoorProg
import Derived.Lib.Bytealg
import Derived.Lib.Index
import Derived.Lib.MakeNoZero
import Derived.Laws.AppendOwn
import Derived.Laws.Entries
import Derived.Laws.NewFold
import Derived.KernelRfl
import Derived.RecoverIn
import Derived.Conc.EntryLaws
import Derived.Test.YtphcmfmpbndkbaaGreatDoorQ03
set_option maxRecDepth 100000
set_option maxHeartbeats 4000000
set_option linter.all false
noncomputable section
namespace Go.Proofs
section
open Go.Shelf
def Tryz.keysA_ren:Go.Shelf.Ren:=⟨fun|7=>175|10=>301|n=>n,fun|23=>192|26=>3|3=>4|28=>253|0=>0|27=>252|33=>147|4=>4|n=>n,fun|n=>n⟩
theorem Tryz.keysA:Go.Proofs.SlLaysZI.n7 Tryz.prog Tryz.keysA_ren:={
 mixed:=by kernel_rfl
 f7:=⟨Tryz.f175.name,by decide,Tryz.func175.trans (congrArg some (by kernel_rfl))⟩
 f10:=⟨Tryz.f301.name,by decide,Tryz.func301.trans (congrArg some (by kernel_rfl))⟩
 t0:=Tryz.underlying0
 a0:=Tryz.isAgg0
 z0:=Tryz.sizeOf0
 v0:=Tryz.zeroValue0
 t4:=Tryz.underlying4
 a4:=Tryz.isAgg4
 z4:=Tryz.sizeOf4
 v4:=Tryz.zeroValue4
 t23:=Tryz.underlying192
 a23:=Tryz.isAgg192
 z23:=Tryz.sizeOf192
 v23:=Tryz.zeroValue192
 t26:=Tryz.underlying3
 a26:=Tryz.isAgg3
 z26:=Tryz.sizeOf3
 v26:=Tryz.zeroValue3
 t27:=Tryz.underlying252
 a27:=Tryz.isAgg252
 z27:=Tryz.sizeOf252
 v27:=Tryz.zeroValue252
 t28:=Tryz.underlying253
 a28:=Tryz.isAgg253
 z28:=Tryz.sizeOf253
 v28:=Tryz.zeroValue253
 t33:=Tryz.underlying147
 a33:=Tryz.isAgg147
 z33:=Tryz.sizeOf147
 v33:=Tryz.zeroValue147}
def Tryz.sortedA_ren:Go.Shelf.Ren:=⟨fun|6=>174|8=>300|9=>124|11=>402|13=>258|12=>257|23=>363|24=>364|14=>354|15=>355|16=>356|17=>357|18=>358|19=>359|20=>360|21=>361|22=>362|25=>443|26=>444|27=>445|28=>446|29=>447|30=>397|31=>527|n=>n,fun|26=>3|28=>253|24=>58|0=>0|3=>3|37=>324|48=>397|50=>419|4=>4|40=>411|39=>410|45=>213|5=>5|9=>9|51=>472|55=>476|57=>510|58=>36|33=>147|n=>n,fun|n=>n⟩
theorem Tryz.sortedA:Go.Proofs.SlLaysZI.n6 Tryz.prog Tryz.sortedA_ren:={
 mixed:=by kernel_rfl
 f6:=⟨Tryz.f174.name,by decide,Tryz.func174.trans (congrArg some (by kernel_rfl))⟩
 f8:=⟨Tryz.f300.name,by decide,Tryz.func300.trans (congrArg some (by kernel_rfl))⟩
 f11:=⟨Tryz.f402.name,by decide,Tryz.func402.trans (congrArg some (by kernel_rfl))⟩
 t0:=Tryz.underlying0
 a0:=Tryz.isAgg0
 z0:=Tryz.sizeOf0
 v0:=Tryz.zeroValue0
 t24:=Tryz.underlying58
 a24:=Tryz.isAgg58
 z24:=Tryz.sizeOf58
 v24:=Tryz.zeroValue58
 t26:=Tryz.underlying3
 a26:=Tryz.isAgg3
 z26:=Tryz.sizeOf3
 v26:=Tryz.zeroValue3
 t28:=Tryz.underlying253
 a28:=Tryz.isAgg253
 z28:=Tryz.sizeOf253
 v28:=Tryz.zeroValue253
 i26:=by kernel_rfl}
def Tryz.sortA_ren:Go.Shelf.Ren:=⟨fun|5=>124|8=>258|7=>257|19=>363|20=>364|10=>354|11=>355|12=>356|13=>357|14=>358|15=>359|16=>360|17=>361|18=>362|30=>443|31=>444|32=>445|33=>446|34=>447|35=>397|40=>527|n=>n,fun|23=>58|25=>3|3=>3|32=>324|22=>58|0=>0|44=>397|46=>419|4=>4|36=>411|35=>410|41=>213|5=>5|9=>9|53=>472|57=>476|63=>510|64=>36|n=>n,fun|n=>n⟩
theorem Tryz.sortA:Go.Proofs.SlLaysM.n5 Tryz.prog Tryz.sortA_ren:={
 mixed:=by kernel_rfl
 f5:=⟨Tryz.f124.name,by decide,Tryz.func124.trans (congrArg some (by kernel_rfl))⟩
 f7:=⟨Tryz.f257.name,by decide,Tryz.func257.trans (congrArg some (by kernel_rfl))⟩
 f8:=Tryz.func258.trans (congrArg some (by kernel_rfl))
 f10:=⟨Tryz.f354.name,by decide,Tryz.func354.trans (congrArg some (by kernel_rfl))⟩
 f11:=⟨Tryz.f355.name,by decide,Tryz.func355.trans (congrArg some (by kernel_rfl))⟩
 f12:=⟨Tryz.f356.name,by decide,Tryz.func356.trans (congrArg some (by kernel_rfl))⟩
 f13:=⟨Tryz.f357.name,by decide,Tryz.func357.trans (congrArg some (by kernel_rfl))⟩
 f14:=⟨Tryz.f358.name,by decide,Tryz.func358.trans (congrArg some (by kernel_rfl))⟩
 f15:=⟨Tryz.f359.name,by decide,Tryz.func359.trans (congrArg some (by kernel_rfl))⟩
 f16:=⟨Tryz.f360.name,by decide,Tryz.func360.trans (congrArg some (by kernel_rfl))⟩
 f17:=⟨Tryz.f361.name,by decide,Tryz.func361.trans (congrArg some (by kernel_rfl))⟩
 f18:=⟨Tryz.f362.name,by decide,Tryz.func362.trans (congrArg some (by kernel_rfl))⟩
 f19:=Tryz.func363.trans (congrArg some (by kernel_rfl))
 f20:=Tryz.func364.trans (congrArg some (by kernel_rfl))
 f30:=⟨Tryz.f443.name,by decide,Tryz.func443.trans (congrArg some (by kernel_rfl))⟩
 f31:=Tryz.func444.trans (congrArg some (by kernel_rfl))
 f32:=Tryz.func445.trans (congrArg some (by kernel_rfl))
 f33:=⟨Tryz.f446.name,by decide,Tryz.func446.trans (congrArg some (by kernel_rfl))⟩
 f34:=⟨Tryz.f447.name,by decide,Tryz.func447.trans (congrArg some (by kernel_rfl))⟩
 f35:=⟨Tryz.f397.name,by decide,Tryz.func397.trans (congrArg some (by kernel_rfl))⟩
 f40:=⟨Tryz.f527.name,by decide,Tryz.func527.trans (congrArg some (by kernel_rfl))⟩
 t0:=Tryz.underlying0
 a0:=Tryz.isAgg0
 z0:=Tryz.sizeOf0
 v0:=Tryz.zeroValue0
 t3:=Tryz.underlying3
 a3:=Tryz.isAgg3
 z3:=Tryz.sizeOf3
 v3:=Tryz.zeroValue3
 t4:=Tryz.underlying4
 a4:=Tryz.isAgg4
 z4:=Tryz.sizeOf4
 v4:=Tryz.zeroValue4
 t5:=Tryz.underlying5
 a5:=Tryz.isAgg5
 z5:=Tryz.sizeOf5
 v5:=Tryz.zeroValue5
 t9:=Tryz.underlying9
 a9:=Tryz.isAgg9
 z9:=Tryz.sizeOf9
 v9:=Tryz.zeroValue9
 t22:=Tryz.underlying58
 a22:=Tryz.isAgg58
 z22:=Tryz.sizeOf58
 v22:=Tryz.zeroValue58
 t23:=Tryz.underlying58
 a23:=Tryz.isAgg58
 z23:=Tryz.sizeOf58
 v23:=Tryz.zeroValue58
 t25:=Tryz.underlying3
 a25:=Tryz.isAgg3
 z25:=Tryz.sizeOf3
 v25:=Tryz.zeroValue3
 t32:=Tryz.underlying324
 a32:=Tryz.isAgg324
 z32:=Tryz.sizeOf324
 v32:=Tryz.zeroValue324
 t35:=Tryz.underlying410
 a35:=Tryz.isAgg410
 z35:=Tryz.sizeOf410
 v35:=Tryz.zeroValue410
 t36:=Tryz.underlying411
 a36:=Tryz.isAgg411
 z36:=Tryz.sizeOf411
 v36:=Tryz.zeroValue411
 t41:=Tryz.underlying213
 a41:=Tryz.isAgg213
 z41:=Tryz.sizeOf213
 v41:=Tryz.zeroValue213
 t44:=Tryz.underlying397
 a44:=Tryz.isAgg397
 z44:=Tryz.sizeOf397
 v44:=Tryz.zeroValue397
 t46:=Tryz.underlying419
 a46:=Tryz.isAgg419
 z46:=Tryz.sizeOf419
 v46:=Tryz.zeroValue419
 t53:=Tryz.underlying472
 a53:=Tryz.isAgg472
 z53:=Tryz.sizeOf472
 v53:=Tryz.zeroValue472
 t57:=Tryz.underlying476
 a57:=Tryz.isAgg476
 z57:=Tryz.sizeOf476
 v57:=Tryz.zeroValue476
 t63:=Tryz.underlying510
 a63:=Tryz.isAgg510
 z63:=Tryz.sizeOf510
 v63:=Tryz.zeroValue510
 t64:=Tryz.underlying36
 a64:=Tryz.isAgg36
 z64:=Tryz.sizeOf36
 v64:=Tryz.zeroValue36}
def Tryz.sl219_ren:Go.Shelf.Ren:=⟨fun|219=>287|217=>378|225=>379|224=>380|267=>381|266=>461|314=>462|n=>n,fun|9=>9|3=>3|4=>4|5=>5|46=>324|146=>489|51=>397|n=>n,fun|1=>4|n=>n⟩
theorem Tryz.sl219:Go.Proofs.Lays.n219 Tryz.prog Tryz.sl219_ren:={
 mixed:=by kernel_rfl
 f217:=Tryz.func378.trans (congrArg some (by kernel_rfl))
 f219:=Tryz.func287.trans (congrArg some (by kernel_rfl))
 f224:=Tryz.func380.trans (congrArg some (by kernel_rfl))
 f225:=Tryz.func379.trans (congrArg some (by kernel_rfl))
 f266:=Tryz.func461.trans (congrArg some (by kernel_rfl))
 f267:=Tryz.func381.trans (congrArg some (by kernel_rfl))
 f314:=Tryz.func462.trans (congrArg some (by kernel_rfl))
 t3:=Tryz.underlying3
 a3:=Tryz.isAgg3
 z3:=Tryz.sizeOf3
 v3:=Tryz.zeroValue3
 t4:=Tryz.underlying4
 a4:=Tryz.isAgg4
 z4:=Tryz.sizeOf4
 v4:=Tryz.zeroValue4
 t5:=Tryz.underlying5
 a5:=Tryz.isAgg5
 z5:=Tryz.sizeOf5
 v5:=Tryz.zeroValue5
 t9:=Tryz.underlying9
 a9:=Tryz.isAgg9
 z9:=Tryz.sizeOf9
 v9:=Tryz.zeroValue9
 t46:=Tryz.underlying324
 a46:=Tryz.isAgg324
 z46:=Tryz.sizeOf324
 v46:=Tryz.zeroValue324
 t51:=Tryz.underlying397
 a51:=Tryz.isAgg397
 z51:=Tryz.sizeOf397
 v51:=Tryz.zeroValue397
 t146:=Tryz.underlying489
 a146:=Tryz.isAgg489
 z146:=Tryz.sizeOf489
 v146:=Tryz.zeroValue489
 g1:=by kernel_rfl}
def Tryz.sortF_ren:Go.Shelf.Ren:=⟨fun|6=>243|15=>258|14=>351|28=>363|29=>364|20=>434|21=>435|22=>436|23=>437|24=>438|25=>439|26=>440|27=>441|46=>524|47=>444|48=>445|49=>525|50=>526|57=>589|n=>n,fun|22=>43|24=>62|25=>244|3=>3|39=>324|0=>0|53=>397|55=>419|4=>4|46=>411|45=>410|50=>213|5=>5|9=>9|66=>472|70=>476|76=>510|77=>36|n=>n,fun|n=>n⟩
theorem Tryz.sortF:Go.Proofs.SlLaysF0.n6 Tryz.prog Tryz.sortF_ren:={
 mixed:=by kernel_rfl
 f6:=⟨Tryz.f243.name,by decide,Tryz.func243.trans (congrArg some (by kernel_rfl))⟩
 f14:=⟨Tryz.f351.name,by decide,Tryz.func351.trans (congrArg some (by kernel_rfl))⟩
 f15:=Tryz.func258.trans (congrArg some (by kernel_rfl))
 f20:=⟨Tryz.f434.name,by decide,Tryz.func434.trans (congrArg some (by kernel_rfl))⟩
 f21:=⟨Tryz.f435.name,by decide,Tryz.func435.trans (congrArg some (by kernel_rfl))⟩
 f22:=⟨Tryz.f436.name,by decide,Tryz.func436.trans (congrArg some (by kernel_rfl))⟩
 f23:=⟨Tryz.f437.name,by decide,Tryz.func437.trans (congrArg some (by kernel_rfl))⟩
 f24:=⟨Tryz.f438.name,by decide,Tryz.func438.trans (congrArg some (by kernel_rfl))⟩
 f25:=⟨Tryz.f439.name,by decide,Tryz.func439.trans (congrArg some (by kernel_rfl))⟩
 f26:=⟨Tryz.f440.name,by decide,Tryz.func440.trans (congrArg some (by kernel_rfl))⟩
 f27:=⟨Tryz.f441.name,by decide,Tryz.func441.trans (congrArg some (by kernel_rfl))⟩
 f28:=Tryz.func363.trans (congrArg some (by kernel_rfl))
 f29:=Tryz.func364.trans (congrArg some (by kernel_rfl))
 f46:=⟨Tryz.f524.name,by decide,Tryz.func524.trans (congrArg some (by kernel_rfl))⟩
 f47:=Tryz.func444.trans (congrArg some (by kernel_rfl))
 f48:=Tryz.func445.trans (congrArg some (by kernel_rfl))
 f49:=⟨Tryz.f525.name,by decide,Tryz.func525.trans (congrArg some (by kernel_rfl))⟩
 f50:=⟨Tryz.f526.name,by decide,Tryz.func526.trans (congrArg some (by kernel_rfl))⟩
 f57:=⟨Tryz.f589.name,by decide,Tryz.func589.trans (congrArg some (by kernel_rfl))⟩
 t0:=Tryz.underlying0
 a0:=Tryz.isAgg0
 z0:=Tryz.sizeOf0
 v0:=Tryz.zeroValue0
 t3:=Tryz.underlying3
 a3:=Tryz.isAgg3
 z3:=Tryz.sizeOf3
 v3:=Tryz.zeroValue3
 t4:=Tryz.underlying4
 a4:=Tryz.isAgg4
 z4:=Tryz.sizeOf4
 v4:=Tryz.zeroValue4
 t5:=Tryz.underlying5
 a5:=Tryz.isAgg5
 z5:=Tryz.sizeOf5
 v5:=Tryz.zeroValue5
 t9:=Tryz.underlying9
 a9:=Tryz.isAgg9
 z9:=Tryz.sizeOf9
 v9:=Tryz.zeroValue9
 t22:=Tryz.underlying43
 a22:=Tryz.isAgg43
 z22:=Tryz.sizeOf43
 v22:=Tryz.zeroValue43
 t25:=Tryz.underlying244
 a25:=Tryz.isAgg244
 z25:=Tryz.sizeOf244
 v25:=Tryz.zeroValue244
 t39:=Tryz.underlying324
 a39:=Tryz.isAgg324
 z39:=Tryz.sizeOf324
 v39:=Tryz.zeroValue324
 t45:=Tryz.underlying410
 a45:=Tryz.isAgg410
 z45:=Tryz.sizeOf410
 v45:=Tryz.zeroValue410
 t46:=Tryz.underlying411
 a46:=Tryz.isAgg411
 z46:=Tryz.sizeOf411
 v46:=Tryz.zeroValue411
 t50:=Tryz.underlying213
 a50:=Tryz.isAgg213
 z50:=Tryz.sizeOf213
 v50:=Tryz.zeroValue213
 t53:=Tryz.underlying397
 a53:=Tryz.isAgg397
 z53:=Tryz.sizeOf397
 v53:=Tryz.zeroValue397
 t55:=Tryz.underlying419
 a55:=Tryz.isAgg419
 z55:=Tryz.sizeOf419
 v55:=Tryz.zeroValue419
 t66:=Tryz.underlying472
 a66:=Tryz.isAgg472
 z66:=Tryz.sizeOf472
 v66:=Tryz.zeroValue472
 t70:=Tryz.underlying476
 a70:=Tryz.isAgg476
 z70:=Tryz.sizeOf476
 v70:=Tryz.zeroValue476
 t76:=Tryz.underlying510
 a76:=Tryz.isAgg510
 z76:=Tryz.sizeOf510
 v76:=Tryz.zeroValue510
 t77:=Tryz.underlying36
 a77:=Tryz.isAgg36
 z77:=Tryz.sizeOf36
 v77:=Tryz.zeroValue36}
def Tryz.cmpInt_ren:Go.Shelf.Ren:=⟨fun|5=>295|7=>397|n=>n,fun|22=>3|3=>3|4=>4|n=>n,fun|n=>n⟩
theorem Tryz.cmpInt:Go.Proofs.SlLaysC2.n5 Tryz.prog Tryz.cmpInt_ren:={
 mixed:=by kernel_rfl
 f5:=⟨Tryz.f295.name,by decide,Tryz.func295.trans (congrArg some (by kernel_rfl))⟩
 f7:=⟨Tryz.f397.name,by decide,Tryz.func397.trans (congrArg some (by kernel_rfl))⟩
 t3:=Tryz.underlying3
 a3:=Tryz.isAgg3
 z3:=Tryz.sizeOf3
 v3:=Tryz.zeroValue3
 t4:=Tryz.underlying4
 a4:=Tryz.isAgg4
 z4:=Tryz.sizeOf4
 v4:=Tryz.zeroValue4
 t22:=Tryz.underlying3
 a22:=Tryz.isAgg3
 z22:=Tryz.sizeOf3
 v22:=Tryz.zeroValue3}
end
section
open Go.RowKit Go.Maps Go.Sort Go.Shelf
theorem Tryz.sortsA(m:Nat):AnyZI.SortsIn Tryz.prog Tryz.sortedA_ren Fence.wide m:=
 ⟨fun blk off cap ss W hH hblk hsz=>callsIn_wide.2 (AnyM.slices_Sort_int Tryz.sortA blk off cap ss W hH hblk hsz),
  fun p cap W=>callsIn_wide.2 (AnyM.slices_Sort_int_none Tryz.sortA p cap W)⟩
end
end Go.Proofs
namespace Go.ao
section
variable {p:Program}{M:aW}
def va(p:Program)(g:FuncId)(e:Array Value->Sem Value):Prop:=∀args w,(callFunc g args).run p w=((e args).run p w).andThen fun v w'=>.ok (.value v) w'
theorem LY{g:FuncId}{e:Array Value->Sem Value}(bX:va p g e){ro:Option Nat}{dV:Array Value}{w w':World}{aL:Value}{R:Value->World->Prop}(h:(e dV).run p w=.ok aL w')(dP:R aL w'): pC p ro g dV w R:=
 ⟨.value aL,w',by rw[bX,h];rfl,dP⟩
theorem JN{x:V}{dV:Array Value}(h:dq M [x] dV.toList):∃rx,dV=#[rx]/\bm M x rx:=by
 generalize au:dV.toList=l at h;cases h with
 |cons ab bp=>
  cases bp;exact⟨_,pG (by simpa using au),ab⟩
theorem A3{x y:V}{dV:Array Value}(h:dq M [x,y] dV.toList):∃rx ek,dV=#[rx,ek]/\bm M x rx/\bm M y ek:=by
 generalize au:dV.toList=l at h;cases h with
 |cons ab bp=>
  cases bp with
  |cons ax bp=>
   cases bp;exact⟨_,_,pG (by simpa using au),ab,ax⟩
theorem GW{a b:Nat}(h:Nat.blt a b=true):a<b:=by rw[lv]at h;exact h
theorem aEx{a b:Nat}(h:a<b):Nat.blt a b=true:=by rw[lv];exact h
theorem aHa(l:List UInt8)(c:Nat)(U:c<256):JY (l.map UInt8.toNat) c=Lib.countByte l c.toUInt8:=by
 have qR:c.toUInt8.toNat=c:=by simp;omega
 induction l with
 |nil=>rfl
 |cons b l ih=>
  simp only[nQ,JY,Lib.countByte,List.count_cons]at ih⊢;split
  ·rename_i ah;have e:b=c.toUInt8:=UInt8.toNat_inj.1 (by rw[qR];exact dI ah);rw[ih,e];simp
  ·rename_i ah;have e:¬b=c.toUInt8:=fun e=>by rw[e,qR,BC]at ah;cases ah
   rw[ih];simp[e]
theorem aHb(l:List UInt8)(c:Nat)(U:c<256):jm (l.map UInt8.toNat) c=Lib.indexByte l c.toUInt8:=by
 have qR:c.toUInt8.toNat=c:=by simp;omega
 induction l with
 |nil=>rfl
 |cons b l ih=>
  simp only[nQ,jm,Lib.indexByte];split
  ·rename_i ah;have e:b=c.toUInt8:=UInt8.toNat_inj.1 (by rw[qR];exact dI ah);rw[e];simp
  ·rename_i ah;have e:¬b=c.toUInt8:=fun e=>by rw[e,qR,BC]at ah;cases ah
   have cD:(b==c.toUInt8)=false:=by simpa using e
   rw[cD,ih];simp only[iJ,qu];have vQ:=Lib.indexByte_ge l c.toUInt8;cases aM:Lib.indexByte l c.toUInt8 with
   |ofNat n=>
    have:((Int.ofNat n)==-1)=false:=by simp
    rw[this];rfl
   |negSucc n=>
    rw[aM]at vQ;have:n=0:=by omega
    subst this;rfl
theorem anp:∀(a b:List UInt8),U9 (a.map UInt8.toNat) (b.map UInt8.toNat)=Lib.compareBytes a b
 |[],[]=>rfl
 |[],_::_=>rfl
 |_::_,[]=>rfl
 |x::a,y::b=>by
  have ih:=anp a b;simp only[nQ,U9,leq,wC,Lib.compareBytes]at ih⊢;by_cases fJ:x=y
  ·subst fJ;simp only[BC,UInt8.lt_irrefl,qu];rw[<-ih];have:Nat.blt x.toNat x.toNat=false:=by
    cases ah:Nat.blt x.toNat x.toNat with
    |false=>rfl
    |true=>have:=GW ah;omega
   rw[this];simp only[Bool.false_or,Bool.true_and]
  ·have bV:Nat.beq x.toNat y.toNat=false:=by
    cases ah:Nat.beq x.toNat y.toNat with
    |false=>rfl
    |true=>exact absurd (UInt8.toNat_inj.1 (dI ah)) fJ
   simp only[bV,Bool.false_and,Lc];by_cases ay:x<y
   ·have ah:Nat.blt x.toNat y.toNat=true:=aEx (UInt8.lt_iff_toNat_lt.1 ay);rw[bl ay,ah];rfl
   ·have AZ:y<x:=UInt8.lt_of_le_of_ne (UInt8.not_lt.1 ay) (kv fJ);have ah:Nat.blt x.toNat y.toNat=false:=by
     cases ah:Nat.blt x.toNat y.toNat with
     |false=>rfl
     |true=>exact absurd (UInt8.lt_iff_toNat_lt.2 (GW ah)) ay
    rw[bf ay,bl AZ,ah];rfl
section
variable {g:FuncId}{ro:Option Nat}{aF:List V}{dV:Array Value}{h aa:H}{v:V}{w:World}(ar:dq M aF dV.toList)(r:Rel p M h w.heap)
include ar r
theorem aK6(bX:va p g Extern.AbiNoEscape.same)(he:X5 aF h=some (v,aa)): pC p ro g dV w fun aL w'=>∃aT,Step p M h w aT aa w'/\bm aT v aL:=by
 unfold X5 at he;split at he
 ·cases he;obtain⟨rx,rfl,ab⟩:=JN ar;exact LY bX (aL:=rx) (w':=w) rfl ⟨M,.refl r rfl rfl rfl rfl,ab⟩
 ·cases he
theorem aK7(bX:va p g Extern.BytealgCount.count)(he:X6 aF h=some (v,aa)): pC p ro g dV w fun aL w'=>∃aT,Step p M h w aT aa w'/\bm aT v aL:=by
 unfold X6 at he;split at he
 ·rename_i s b;split at he
  ·rename_i ah;cases he;have ah:=GW ah;obtain⟨rx,ek,rfl,ab,ax⟩:=A3 ar;cases ab with
   |str s=>
    cases ax;refine LY bX (Lib.run_countString s (.ofNat b) w) ⟨M,.refl r rfl rfl rfl rfl,?_⟩;have:=aHa s.data.toList b ah;unfold gi;rw[this];exact .int _ _
  ·cases he
 ·cases he
theorem aKw(bX:va p g Extern.BytealgIndexByte.indexByte)(he:K7 aF h=some (v,aa)): pC p ro g dV w fun aL w'=>∃aT,Step p M h w aT aa w'/\bm aT v aL:=by
 unfold K7 at he;split at he
 ·rename_i s b;split at he
  ·rename_i ah;cases he;have ah:=GW ah;obtain⟨rx,ek,rfl,ab,ax⟩:=A3 ar;cases ab with
   |str s=>
    cases ax;refine LY bX (Lib.run_indexByteString s (.ofNat b) w) ⟨M,.refl r rfl rfl rfl rfl,?_⟩;have:=aHb s.data.toList b ah;unfold gi;rw[this];exact .int _ _
  ·cases he
 ·cases he
theorem aJo(bX:va p g Extern.BytealgCompare.compare)(he:W4 aF h=some (v,aa)): pC p ro g dV w fun aL w'=>∃aT,Step p M h w aT aa w'/\bm aT v aL:=by
 unfold W4 at he;split at he
 ·cases he;obtain⟨rx,ek,rfl,ab,ax⟩:=A3 ar;cases ab with
  |str s=>
   cases ax with
   |str b=>
    refine LY bX (Lib.run_compareString s b w) ⟨M,.refl r rfl rfl rfl rfl,?_⟩;have:=anp s.data.toList b.data.toList;unfold gi;rw[this];exact .int _ _
 ·cases he
end
theorem alU:∀(a b:List UInt8),Cs (a.map UInt8.toNat) (b.map UInt8.toNat)=a.isPrefixOf b
 |[],b=>by simp[Cs]
 |_::_,[]=>rfl
 |x::a,y::b=>by
  simp only[nQ,Cs,List.isPrefixOf];by_cases h:x=y
  ·subst h;simp[alU a b]
  ·have:Nat.beq x.toNat y.toNat=false:=by
    cases ah:Nat.beq x.toNat y.toNat with
    |false=>rfl
    |true=>exact absurd (UInt8.toNat_inj.1 (dI ah)) h
   simp[this,h]
theorem amx(sub:List UInt8):∀(l:List UInt8),rS (l.map UInt8.toNat) (sub.map UInt8.toNat)=Lib.index l sub
 |[]=>by cases sub<;>rfl
 |b::l=>by
  have bh:=alU sub (b::l);simp only[nQ]at bh;simp only[nQ,rS,Lib.index,bh];split
  ·rename_i h;rw[h];rfl
  ·rename_i h;rw[h];simp only[iJ,qu];rw[amx sub l];have vQ:=Lib.index_ge l sub;cases aM:Lib.index l sub with
   |ofNat n=>
    have:((Int.ofNat n)==-1)=false:=by simp
    rw[this];rfl
   |negSucc n=>
    rw[aM]at vQ;have:n=0:=by omega
    subst this;rfl
def ak2(p:Program)(g w1:Nat):Prop:=(∀args w,(callFunc g args).run p w=.ok (.enter g args) w)/\∀(s sub:ByteArray) (m:Int) (w:World),s.size<4294967281->w.cell? ⟨w1,0,none⟩=some (.int .i64 m) ->
 Calls p g #[.string s,.string sub] w fun e w'=>e=.returned (.int .i64 (Lib.index s.data.toList sub.data.toList))/\w'=w
theorem QP{g:FuncId}(bX:∀args w,(callFunc g args).run p w=.ok (.enter g args) w){ro:Option Nat}{dV:Array Value}{w:World}{R:Value->World->Prop}(h:Calls p g dV w fun e w'=>∃v,e=.returned v/\R v w'): pC p ro g dV w R:=by
 refine⟨.enter g dV,w,bX _ _,?_⟩;exact Zy (callsIn_wide.2 h)
theorem aoX:∀(n t:Nat) (acc:Array Value),(∀(i:Nat) (v:Value),acc[i]?=some v->DS v=true) ->∀(i:Nat) (v:Value),(Extern.BytealgMakeNoZero.digits n t acc)[i]?=some v->DS v=true
 |0,_,acc,h=>h
 |n+1,t,acc,h=>aoX n (t/256) _ fun i v e=>by
  rw[wL]at e;split at e
  ·cases e;rfl
  ·exact h i v e
section
variable {g:FuncId}{ro:Option Nat}{aF:List V}{dV:Array Value}{h aa:H}{v:V}{w:World}(ar:dq M aF dV.toList)(r:Rel p M h w.heap)
include ar r
theorem aK8(aC:g0 p M){w1:Nat}{oz:Global}{n:Nat}(kV: p.globals[w1]?=some oz)(eN:gM p oz.type=some n)(bX:ak2 p g w1)(he:Li (gQ w1) aF h=some (v,aa)): pC p ro g dV w fun aL w'=>∃aT,Step p M h w aT aa w'/\bm aT v aL:=by
 unfold Li at he;split at he
 ·rename_i s b;split at he
  ·rename_i md ty hm;split at he
   ·rename_i ay;cases he;have ay:=GW ay;obtain⟨rx,ek,rfl,ab,ax⟩:=A3 ar;cases ab with
    |str s=>
     cases ax with
     |str b=>
      obtain⟨l,au,ah,K1,_⟩:=aC w1 oz n kV eN;obtain⟨cr,eB,U⟩:=r.cells _ _ _ _ _ _ l hm au 0 (a1 _) (a1 _);rw[au]at eB;cases eB;obtain⟨c,du,hblk,Xo,r7,_⟩:=U.cells;have JZ:l.ext=1:=U.own rfl;obtain⟨aL,n8,g3,_⟩:=r7 0 _ (by omega) rfl;cases g3 with
      |num k m=>
       have pB:w.cell? ⟨w1,0,none⟩=some (.int .i64 m):=by
        rw[ah]at hblk;simp only[World.cell?,hblk];rw[K1]at n8;simpa using n8
       rw[vq]at ay;refine QP bX.1 ((bX.2 s b m w ay pB).mono fun e w' ⟨aN,bd⟩=>⟨_,aN,M,by rw[bd];exact .refl r rfl rfl rfl rfl,?_⟩)
       have:=amx b.data.toList s.data.toList;unfold gi;rw[this];exact .int _ _
   ·cases he
  ·cases he
 ·cases he
theorem aKx{t e:TypeId}{ps:Array TypeId}(bp: p.underlying t=some (.slice e))(aA:gM p e=some 1)(bX:va p g (Extern.BytealgMakeNoZero.makeNoZero ps #[t])) (he:XC e aF h=some (v,aa)): pC p ro g dV w fun aL w'=>∃aT,Step p M h w aT aa w'/\bm aT v aL:=by
 unfold XC at he;split at he
 ·rename_i n;split at he
  ·rename_i aq;have aq:=iZ aq;cases he;obtain⟨rx,rfl,ab⟩:=JN ar;cases ab;have h1:¬(Int.ofNat n)<0:=by simp
   have ae:¬(281474976710656:Int)<(Int.ofNat n):=by simp;omega
   have d0:(Extern.BytealgMakeNoZero.makeNoZero ps #[t] #[.int .i64 (Int.ofNat n)]).run p w=.ok (.slice (some ⟨w.heap.size,0,none⟩) n (grownCap w n 0 e))
     (w.drew.drew.alloc (.cells (Extern.BytealgMakeNoZero.digits (grownCap w n 0 e) ((Question.extern "internal/bytealg.MakeNoZero.bytes" 0).cut (w.tape (w.drawn+1) (.extern "internal/bytealg.MakeNoZero.bytes" 0))) #[]) e)):=by
    rw[show Extern.BytealgMakeNoZero.makeNoZero ps #[t] #[.int .i64 (Int.ofNat n)]=(underlying t>>=_) from rfl]
    simp[cW bp,Question.forced,newRow,grownCap];intro aRe;omega
   generalize hK:Extern.BytealgMakeNoZero.digits (grownCap w n 0 e) ((Question.extern "internal/bytealg.MakeNoZero.bytes" 0).cut (w.tape (w.drawn+1) (.extern "internal/bytealg.MakeNoZero.bytes" 0))) #[]=cs at d0
   have Xo:cs.size=grownCap w n 0 e:=by rw[<-hK,Lib.size_digits];simp
   have vQ:n<=grownCap w n 0 e:=grownCap_ge w n 0 e;have nN:∀(i:Nat) (v:Value),cs[i]?=some v->DS v=true:=by
    rw[<-hK];exact aoX _ _ _ fun i v e=>by simp at e
   have hlen:(e2 [V.fO] n).length=n:=by rw[zW];simp
   refine LY bX d0 ⟨M.add h.next 0 ⟨w.heap.size,0,n,cs.size⟩,?_,?_⟩
   ·refine Hg r (l:=⟨w.heap.size,0,n,cs.size⟩) rfl (.cells (.zero _ _) hlen.symm (by rw[Xo];exact vQ) (by simp) (fun i x ai=>?_) (fun i _=>by simp)) rfl rfl rfl rfl;have ck:i<n:=by
     rcases dz i n with h|h
     ·exact h
     ·rw[ei (by omega)]at ai;cases ai
    have ab:x=.fO:=by
     rw[Ya [V.fO] (by simp) n i (by simpa using ck)]at ai;simp[Nat.mod_one]at ai;exact ai.symm
    subst ab;have aj5:i<cs.size:=by omega
    refine⟨cs[i],by simp[aj5],.fO (nN i _ (Bz aj5)),rfl⟩
   ·exact .ag (l:=⟨w.heap.size,0,n,cs.size⟩) (aW.add_same _ _ _ _) (by simp) (.inr rfl) vQ (fun c e=>by cases e) (fun _=>by simp[Xo])
  ·cases he
 ·cases he
end
theorem aoY(n:Nat)(aq:0<n)(w:World):∃i w',i<n/\(choose (.mapNext n)).run p w=.ok i w'/\w'.heap=w.heap/\w'.os=w.os/\w'.output=w.output/\w'.tape=w.tape:=by
 by_cases h:n<=1
 ·have:n=1:=by omega
  subst this;exact⟨0,w,by omega,by simp[Question.forced],rfl,rfl,rfl,rfl⟩
 ·exact⟨w.tape w.drawn (.mapNext n)%n,{w with drawn:=w.drawn+1},qv _ aq,by simp[Question.forced,Question.cut,h],rfl,rfl,rfl,rfl⟩
def nm(seen:List Nat)(e:V×V×Nat):Bool:=!seen.any (Nat.beq e.2.2)
theorem eK.aHc{α β:Type}{R:α->β->Prop}{cT:List α}{bs:List β}(h:eK R cT bs):cT=[]↔bs=[]:=by cases h<;>simp
theorem eK.Zb{α β:Type}{R:α->β->Prop}:∀{cT:List α} {bs:List β},eK R cT bs->∀{b:β},b∈bs->∃a,a∈cT/\R a b
 |_,_,.nil,b,h=>by cases h
 |_,_,.cons ab t,b,h=>by
  rcases List.mem_cons.1 h with rfl|h
  ·exact⟨_,zP ..,ab⟩
  ·obtain⟨a,bN,aI⟩:=t.Zb h;exact⟨a,x9 _ bN,aI⟩
theorem aJp{h:H}{w:World}(r:Rel p M h w.heap){it cU:P}{since last gE:Nat}{seen:List Nat}{es:List (V×V×Nat)}(hit:h.get it=some (.kI (some cU) since seen last))(p0:h.get cU=some (.map es gE)){L:Loc}(aj6:M it 0=some L)
  (ah:∀e∈es,e.2.2<since) (au:∀e∈es,e.2.2<last) (yO:∃aqh,M cU 0=some aqh) (ty:TypeId):
  (∃w',(Instr.next (.pointer (some ⟨L.bS,0,none⟩)) false ty).run p w=.ok (.tuple #[.bool false]) w'/\es.filter (nm seen)=[]/\w'.heap=w.heap/\w'.os=w.os/\w'.output=w.output/\w'.tape=w.tape)\/
  ∃k v b hr aL w',(k,v,b)∈es/\nm seen (k,v,b)=true/\(Instr.next (.pointer (some ⟨L.bS,0,none⟩)) false ty).run p w=.ok (.tuple #[.bool true,hr,aL]) w'/\bm M k hr/\bm M v aL/\
   Step p M h w M (h.set it (.kI (some cU) since (seen++[b]) gE)) w':=by
 obtain⟨K1,cL,Wr,a6⟩:=r.oh it _ L hit rfl aj6;cases a6 with
 |kI aj7=>
  rename_i lm seen;obtain⟨aD,CC,dw⟩:=BB r p0 aj7;have Xp:∀e∈aD.toList,e.born<since/\e.born<last:=fun e he=>by
   obtain⟨a,bN,_,_,ab⟩:=dw.Zb he;rw[<-ab];exact⟨ah a bN,au a bN⟩
  have wg:(!seen.isEmpty&&!aD.isEmpty&&aD.all (fun e=>decide (e.born>=last)))=false:=by
   cases aM:(!seen.isEmpty&&!aD.isEmpty&&aD.all (fun e=>decide (e.born>=last)))with
   |false=>rfl
   |true=>
    simp only[dJ,Array.all_eq_true',kL]at aM;obtain⟨⟨_,ae⟩,az⟩:=aM;have bV:aD.toList≠[]:=by intro e;simp[Array.isEmpty]at ae;exact ae (by simpa using e)
    cases eB:aD.toList with
    |nil=>exact absurd eB bV
    |cons x xs=>
     have ab:x∈aD.toList:=by rw[eB];simp
     have:=az x (by simpa using ab);have:=(Xp x ab).2;omega
  have Vh:∀n,seen.toList.any (Nat.beq n)=seen.contains n:=fun n=>by
   rw[i9,GJ,Array.contains_iff_mem];constructor
   ·rintro⟨x,ab,e⟩;have:=dI e;subst this;simpa using ab
   ·intro h;exact⟨n,by simpa using h,BC n⟩
  have Gt:eK (s7 M) (es.filter (nm seen.toList)) (aD.filter fun e=>!seen.contains e.born).toList:=by
   rw[PF];refine dw.filter fun a b ⟨_,_,e⟩=>?_;simp only[nm];rw[e,Vh]
  have hold:(aD.filter fun e=>!seen.contains e.born).filter (fun e=>decide (e.born<since))=aD.filter fun e=>!seen.contains e.born:=by
   refine Array.filter_eq_self.2 fun e he=>?_;have:=(Array.mem_filter.1 he).1;simpa using(Xp e (by simpa using this)).1
  have hh:(aD.filter fun e=>!seen.contains e.born).filter (fun e=>decide (e.born>=since))=#[]:=by
   refine Array.filter_eq_empty_iff.2 fun e he=>?_;have:=(Array.mem_filter.1 he).1;have:=(Xp e (by simpa using this)).1;simp;omega
  generalize gB:(aD.filter fun e=>!seen.contains e.born)=A at Gt hold hh;by_cases ad1:A=#[]
  ·left;subst ad1;have he:es.filter (nm seen.toList)=[]:=(Gt.aHc).2 rfl;obtain⟨i,w',ai,d0,h1,ae,az,bo⟩:=aoY (p:=p) 1 (by omega) w;have:i=0:=by omega
   subst this;refine⟨w',?_,he,h1,ae,az,bo⟩;simp only[Instr.next,ja,ns Wr rfl,jb,ns CC rfl,gB,hold,hh,wg,iJ,qu];have aN:((if(#[]:Array MapEntry).isEmpty=true then #[none]else #[])++Array.map some ((#[]:Array MapEntry)++#[]))=#[none]:=by simp
   simp only[aN];rw[show(#[none]:Array (Option MapEntry)).size=1 from rfl,d0]
   simp[Result.andThen]
  ·right;have eN:0<A.size:=by
    rcases nS A.size with h|h
    ·exact absurd (G3 h) ad1
    ·exact h
   obtain⟨i,w',ai,d0,h1,ae,az,bo⟩:=aoY (p:=p) A.size eN w;have J4:A[i]∈A.toList:=by simp
   obtain⟨⟨k,v,b⟩,ev,hk,ar,xm⟩:=Gt.Zb J4;have Vf:=List.mem_filter.1 ev;have Vg:A.isEmpty=false:=by simp[Array.isEmpty];omega
   refine⟨k,v,b,(A[i]).key,(A[i]).val,{w' with heap:=w'.heap.setIfInBounds L.bS (.mapIter (some lm.bS) since (seen.push b) gE)},Vf.1,Vf.2,?_,hk,ar,?_⟩
   ·simp only[Instr.next,ja,ns Wr rfl,jb,ns CC rfl,gB,hold,hh,wg,iJ,qu,Vg];have aBJ:w'.heap[L.bS]?=some (.mapIter (some lm.bS) since seen last):=by rw[h1];exact Wr
    have azk:(A[i]).born=b:=xm.symm;have aN:((#[]:Array (Option MapEntry))++Array.map some (A++#[]))=Array.map some A:=by simp
    simp only[aN,Array.size_map];rw[d0];simp[Result.andThen,ai,run_setObj_at aBJ rfl,azk]
   ·have hm:=nJ.kI (p:=p) (since:=since) (st:=gE) (seen:=seen.push b) aj7;rw[Array.toList_push]at hm;exact BU r aj6 hit rfl hm (by rw[h1]) ae az bo
end
section
variable {p:Program}{M aT:aW}
theorem Step.dead{h U aa:H}{w w':World}(s:Step p M h w aT U w'){it:P}(hit:aH h.next<=aH it)(hk:∀k,0<k->aT it k=none)(h1:∀f,f≠it->aa.get f=U.get f)(ae:aa.get it=some (.cells [] 0 1 .ro 0))(aq:aa.next=U.next)(ay:aH it<aH U.next):
  Step p M h w aT aa w':=by
 have Mr:∀k,¬aa.dE it k:=fun k a=>by unfold H.dE at a;rw[ae]at a;omega
 have live:∀{f:P} {k:Nat},aa.dE f k->f≠it/\U.dE f k:=fun{f k} a=>by
  have bV:f≠it:=fun e=>by subst e;exact Mr k a
  exact⟨bV,(H.uo (h1 f bV)).1 a⟩
 have aI:Rel p aT aa w'.heap:=by
  refine⟨fun f k l e=>by rw[aq];exact s.rel.i5 f k l e,fun f xs aZ dead md ty dO aC h4 k i6 km=>?_,fun f o l aC iw h4=>?_,fun f k l g j m a b c d bV hw=>s.rel.sep f k l g j m (live a).2 b (live c).2 d bV (hw.imp (H.sm (h1 f (live a).1)).1 (H.sm (h1 g (live c).1)).1),fun f xs aZ dead md ty k aC Bd=>?_,fun f o k aC iw av=>?_,s.rel.base,fun f aE=>?_⟩
  ·by_cases e:f=it
   ·subst e;rw[ae]at aC;cases aC;omega
   ·rw[h1 f e]at aC;exact s.rel.cells f xs aZ dead md ty dO aC h4 k i6 km
  ·by_cases e:f=it
   ·subst e;rw[ae]at aC;cases aC;cases iw
   ·rw[h1 f e]at aC;exact s.rel.oh f o l aC iw h4
  ·by_cases e:f=it
   ·subst e;rw[ae]at aC;cases aC;exact hk k Bd
   ·rw[h1 f e]at aC;exact s.rel.n6 f xs aZ dead md ty k aC Bd
  ·by_cases e:f=it
   ·subst e;rw[ae]at aC;cases aC;cases iw
   ·rw[h1 f e]at aC;exact s.rel.po f o k aC iw av
  ·rw[aq]at aE;rw[h1 f (by rintro rfl;omega)];exact s.rel.lD f aE
 refine⟨aI,s.mono,by rw[aq];exact s.next,s.size,s.fresh,s.s8,fun f k l a e=>?_,fun f k l a e=>s.u1 f k l (live a).2 e,fun f aE av=>?_,s.os,s.out,s.tape,s.zG,fun f aE e=>?_⟩
 ·obtain⟨bV,_⟩:=live a.1;exact s.uH f k l ((H.sm (h1 f bV)).1 a) e
 ·rw[h1 f (by rintro rfl;omega)];exact s.wK f aE av
 ·rw[h1 f (by rintro rfl;omega)]at e;exact s.tn f aE e
def aai:Code->Code|.seq a _=>a|c=>c
def vB:Code->Code|.seq _ b=>b|c=>c
def auU:Code->Code|.block _ c=>c|c=>c
def auV:Code->Code|.loop c=>c|c=>c
def opsOf:Code->Array Oper|.region _ ops _=>ops|_=>#[]
theorem Zu{c:Nat}:∀{es:List (V×V×Nat)},KQ c es=true->(∀e∈es,∃k b,e.1=.int .i64 k/\e.2.1=.bool b/\e.2.2<c)/\
  es.Pairwise fun e f=>e.2.2≠f.2.2/\e.1≠f.1
 |[],_=>⟨(fun e h=>by cases h),List.Pairwise.nil⟩
 |(a,v,b)::es,h=>by
  unfold KQ at h;split at h
  ·rename_i heq;cases heq
  ·rename_i k t b3 jA heq;cases heq;split at h
   ·rename_i ay;split at h
    ·cases h
    ·rename_i auW;obtain⟨ry,kC⟩:=Zu h;have bV:∀e∈es,b≠e.2.2/\V.int .i64 k≠e.1:=fun e he=>by
      obtain⟨ch,h0,aN,bd,_⟩:=ry e he;have:∀(es:List (V×V×Nat)),Px b k es=false->(∀e∈es,∃k b,e.1=V.int .i64 k/\e.2.1=V.bool b/\e.2.2<c) ->∀e∈es,b≠e.2.2/\V.int .i64 k≠e.1:=fun es=>by
       induction es with
       |nil=>intro _ _ e he;cases he
       |cons x es ih=>
        intro ah bN e he;obtain⟨aMV,apO,bG,ct,_⟩:=bN x (by simp);obtain⟨b7,aMW,aMX⟩:=x;simp only at bG ct;subst bG ct;simp only[Px]at ah;split at ah
        ·cases ah
        ·rename_i h1;split at ah
         ·cases ah
         ·rename_i ae;rcases List.mem_cons.1 he with rfl|he
          ·refine⟨fun e=>by subst e;simp at h1,fun e=>?_⟩;cases e;rw[Bw]at ae;simp at ae
          ·exact ih ah (fun e he=>bN e (by simp[he])) e he
      exact this es auW ry e he
     exact⟨fun e he=>by
      rcases List.mem_cons.1 he with rfl|he
      ·exact⟨k,t,rfl,rfl,GW ay⟩
      ·exact ry e he,List.pairwise_cons.2 ⟨bV,kC⟩⟩
   ·cases h
  ·cases h
end
noncomputable def na:Prog:={funcs:=fun g=>(a4.funcs[g]?).bind (zy a4),spec:=fun _ _ _=>none,quiet:=fun _=>false}
theorem mixed:a4.follows .mixedOrders=true:=by kernel_rfl
theorem aJq:a4.funcs.toList.all (fun fn=>!(fn.name== "runtime.NumGoroutine"))=true:=by kernel_rfl
theorem ak3(g:FuncId)(fn:Func)(h:a4.funcs[g]?=some fn):(fn.name== "runtime.NumGoroutine")=false:=by
 have:=List.all_eq_true.1 aJq fn (by
  have:=Array.mem_of_getElem? h;simpa using this)
 simpa using this
theorem alV:gm a4 na where
 funcs:=fun g F h=>by
  simp only[na,bK]at h;exact h
 w2:=ak3
 quiet:=fun g h=>by simp[na]at h
 spec:=fun ro g aF dV h aa v M w ar aC r he=>by simp[na]at he
theorem Xq(k:Nat):vf a4 na k:=P5 mixed alV k k (a1 _)
noncomputable def aaj:Code:=Go.Proofs.Tryz.f255.body.getD .skip
noncomputable def JO:Code:=aai aaj
noncomputable def ad2:Code:=auV (auU (vB aaj))
noncomputable def FT:Code:=aai ad2
noncomputable def Ip:Code:=vB ad2
theorem aBK:Go.Proofs.Tryz.f255.body=some (.seq JO (.block 0 (.loop (.seq FT Ip)))):=by kernel_rfl
theorem aEy:FT=.region 1 (opsOf FT) false:=by kernel_rfl
noncomputable def ad3:C:=.cF [⟨some (a0 6),.pu (.dd (.t (a0 0))),none⟩,⟨some (a0 7),.wr (.U4 (.t (a0 6))),none⟩]
def NR:List bH:=[⟨some (a0 11),.pu (.uY 0 (.t (a0 10))),none⟩,⟨some (a0 12),.pu (.uY 1 (.t (a0 10))),none⟩,⟨some (a0 4),.pu (.dd (.t (a0 11))),none⟩,⟨some (a0 5),.pu (.dd (.t (a0 12))),none⟩]
def TU:List bH:=[⟨some (a0 13),.pu (.dd (.t (a0 1))),none⟩,⟨some (a0 14),.pu (.dd (.t (a0 4))),none⟩,⟨some (a0 15),.pu (.dd (.t (a0 5))),none⟩,⟨some (a0 16),.call (.t (a0 13)) [.t (a0 14),.t (a0 15)],none⟩]
def JP:C:=.seq (.cond (.t (a0 9)) .skip (.exit 0)) (.block 1 (.seq (.cF (⟨some (a0 10),.wr (.entry (.t (a0 7))),none⟩::NR)) (.seq (.cF TU)
 (.cond (.t (a0 16)) (.cF [⟨some (a0 17),.pu (.dd (.t (a0 0))),none⟩,⟨some (a0 18),.pu (.dd (.t (a0 4))),none⟩,⟨none,.wr (.del .int (.t (a0 17)) (.t (a0 18))),none⟩]) .skip))))
theorem aEz:gJ a4 19 false JO=ad3:=by kernel_rfl
theorem alW:gJ a4 19 false Ip=JP:=by kernel_rfl
theorem azl:∃kQ fZ,opsOf FT=#[kQ,fZ]/\kQ.op=.next (.tmp 7) false/\kQ.dst=some 8/\kQ.guard=none/\((#[kQ,fZ]:Array Oper).toList.drop 1).mapM (xg a4 19 false #[kQ,fZ])=some [⟨some (a0 9),.pu (.uY 0 (.t (a0 8))),none⟩]:=
 ⟨(opsOf FT)[0]!,(opsOf FT)[1]!,by kernel_rfl,by kernel_rfl,by kernel_rfl,by kernel_rfl,by kernel_rfl⟩
noncomputable def xe(I:Fr)(cU it:P):Fr:=((I.set (.map cU) (a0 0)).set (.fn (.func 256) [] []) (a0 1)).set (.ptr it 0 0 0) (a0 7)
noncomputable def ad4(I:Fr)(cU it:P)(k:Int)(b:Bool):Fr:=(((xe I cU it).set (.bk [.bool true,.int .i64 k,.bool b]) (a0 8)).set (.bool true) (a0 9)).set (.bk [.int .i64 k,.bool b]) (a0 10)
noncomputable def JQ(I:Fr)(cU it:P)(k:Int)(b:Bool):Fr:=aAH (ig na (fun _ _ _=>none) NR (ad4 I cU it k b) ⟨.e,[]⟩ [])
noncomputable def q4(I:Fr)(cU it:P)(k:Int)(b:Bool):Fr:=((((JQ I cU it k b).set (.fn (.func 256) [] []) (a0 13)).set (.int .i64 k) (a0 14)).set (.bool b) (a0 15)).set (.bool !b) (a0 16)
theorem azm(I:Fr)(cU it:P)(k:Int)(b:Bool)(h:H)(call:iy):ig na call NR (ad4 I cU it k b) h []=.norm ⟨JQ I cU it k b,[],h⟩:=by kernel_rfl
theorem azn(I:Fr)(cU it:P)(k:Int)(b:Bool)(h:H)(n:Nat):ig na (gT (exec na (n+10)) na) TU (JQ I cU it k b) h []=.norm ⟨q4 I cU it k b,[],h⟩:=by cases b<;>kernel_rfl
theorem azo(I:Fr)(cU it:P)(k:Int)(b:Bool):(q4 I cU it k b).get (a0 0)=.map cU/\(q4 I cU it k b).get (a0 1)=.fn (.func 256) [] []/\(q4 I cU it k b).get (a0 7)=.ptr it 0 0 0/\(q4 I cU it k b).get (a0 16)=.bool !b/\(q4 I cU it k b).get (a0 4)=.int .i64 k:=
 ⟨by kernel_rfl,by kernel_rfl,by kernel_rfl,by kernel_rfl,by kernel_rfl⟩
theorem aJr(I:Fr)(cU it:P)(k:Int)(b:Bool)(h:H){es:List (V×V×Nat)}{c since i fN:Nat}{seen:List Nat}(hit:h.get it=some (.kI (some cU) since seen c))(nO:seen.getLast?=some fN)(p0:h.get cU=some (.map es c))
  (W9:es.find? (fun e=>Nat.beq e.2.2 fN)=some (.int .i64 k,.bool b,fN)) (Ws:∃v,findKey .int (.int .i64 k) es 0=some (some (i,v))) (n:Nat):
  ∃aQ,exec na (n+30) JP ⟨((xe I cU it).set (.bk [.bool true,.int .i64 k,.bool b]) (a0 8)).set (.bool true) (a0 9),[],h⟩=.norm ⟨aQ,[],if b then h else h.set cU (.map (es.eraseIdx i) c)⟩/\
   aQ.get (a0 0)=.map cU/\aQ.get (a0 1)=.fn (.func 256) [] []/\aQ.get (a0 7)=.ptr it 0 0 0:=by
 obtain⟨rz,aB,lY,t1,eE⟩:=azo I cU it k b;have lA:(X.t (a0 9)).a7 (((xe I cU it).set (.bk [.bool true,.int .i64 k,.bool b]) (a0 8)).set (.bool true) (a0 9))=.bool true:=by kernel_rfl
 have jf:(X.t (a0 7)).a7 (((xe I cU it).set (.bk [.bool true,.int .i64 k,.bool b]) (a0 8)).set (.bool true) (a0 9))=.ptr it 0 0 0:=by kernel_rfl
 have aEA:(g7.entry (.t (a0 7))).f (((xe I cU it).set (.bk [.bool true,.int .i64 k,.bool b]) (a0 8)).set (.bool true) (a0 9)) h=some (.bk [.int .i64 k,.bool b],h):=by
  simp only[g7.f,K5,jf,hit,p0,nO,BC,W9]
 have aBL:exec na (n+27) (.cF (⟨some (a0 10),.wr (.entry (.t (a0 7))),none⟩::NR)) ⟨((xe I cU it).set (.bk [.bool true,.int .i64 k,.bool b]) (a0 8)).set (.bool true) (a0 9),[],h⟩=.norm ⟨JQ I cU it k b,[],h⟩:=by
  rw[Ph (n:=n+26),J6 aEA];exact azm I cU it k b h _
 have aBM:exec na (n+26) (.cF TU) ⟨JQ I cU it k b,[],h⟩=.norm ⟨q4 I cU it k b,[],h⟩:=by
  rw[Ph (n:=n+25)];exact azn I cU it k b h (n+15)
 have aEB:∃aQ,exec na (n+26) (.cond (.t (a0 16)) (.cF [⟨some (a0 17),.pu (.dd (.t (a0 0))),none⟩,⟨some (a0 18),.pu (.dd (.t (a0 4))),none⟩,⟨none,.wr (.del .int (.t (a0 17)) (.t (a0 18))),none⟩]) .skip) ⟨q4 I cU it k b,[],h⟩=
   .norm ⟨aQ,[],if b then h else h.set cU (.map (es.eraseIdx i) c)⟩/\aQ.get (a0 0)=.map cU/\aQ.get (a0 1)=.fn (.func 256) [] []/\aQ.get (a0 7)=.ptr it 0 0 0:=by
  cases b with
  |true=>
   refine⟨q4 I cU it k true,?_,rz,aB,lY⟩;rw[Yd (n:=n+25) (x:=.t (a0 16)) (s:=⟨q4 I cU it k true,[],h⟩) t1];rfl
  |false=>
   have FH:∀(F:Fr),F.get (a0 0)=.map cU->(d5.dd (.t (a0 0))).f F=some (.map cU):=fun F dw=>by simp only[d5.f,Iq,X.a7,dw]
   have auX:∀(F:Fr),F.get (a0 4)=.int .i64 k->(d5.dd (.t (a0 4))).f F=some (.int .i64 k):=fun F dw=>by simp only[d5.f,Iq,X.a7,dw]
   have ne:∀{F:Fr} {v:V} {a b:Nat},a<512->b<512->a≠b->(F.set v (a0 a)).get (a0 b)=F.get (a0 b):=fun bN ah auY=>Fr.ej _ _ fun e=>auY (G0 bN ah e);refine⟨((q4 I cU it k false).set (.map cU) (a0 17)).set (.int .i64 k) (a0 18),?_,?_,?_,?_⟩
   ·rw[XI (n:=n+25) (x:=.t (a0 16)) (s:=⟨q4 I cU it k false,[],h⟩) t1,Ph (n:=n+24),F9 (FH _ rz)];rw[F9 (v:=.int .i64 k) (auX _ (by show((q4 I cU it k false).set (.map cU) (a0 17)).get (a0 4)=_;rw[ne (by omega) (by omega) (by omega)];exact eE))]
    obtain⟨v,Ws⟩:=Ws;have azp:(g7.del .int (.t (a0 17)) (.t (a0 18))).f (((q4 I cU it k false).set (.map cU) (a0 17)).set (.int .i64 k) (a0 18)) h=some (.bk [],h.set cU (.map (es.eraseIdx i) c)):=by
     have auZ:(X.t (a0 17)).a7 (((q4 I cU it k false).set (.map cU) (a0 17)).set (.int .i64 k) (a0 18))=.map cU:=by
      show Fr.get _ _=_;rw[ne (by omega) (by omega) (by omega),Fr.gV]
     have au0:(X.t (a0 18)).a7 (((q4 I cU it k false).set (.map cU) (a0 17)).set (.int .i64 k) (a0 18))=.int .i64 k:=Fr.gV _ _ _
     simp only[g7.f,JX,auZ,au0,p0,Ws]
    exact J6 azp
   ·rw[ne (by omega) (by omega) (by omega),ne (by omega) (by omega) (by omega)];exact rz
   ·rw[ne (by omega) (by omega) (by omega),ne (by omega) (by omega) (by omega)];exact aB
   ·rw[ne (by omega) (by omega) (by omega),ne (by omega) (by omega) (by omega)];exact lY
 obtain⟨aQ,au,q⟩:=aEB;refine⟨aQ,?_,q⟩;have gB:exec na (n+29) (.cond (.t (a0 9)) .skip (.exit 0)) ⟨((xe I cU it).set (.bk [.bool true,.int .i64 k,.bool b]) (a0 8)).set (.bool true) (a0 9),[],h⟩=.norm ⟨((xe I cU it).set (.bk [.bool true,.int .i64 k,.bool b]) (a0 8)).set (.bool true) (a0 9),[],h⟩:=by
  rw[XI (n:=n+28) lA];rfl
 unfold JP;rw[Pg (n:=n+29) gB];refine aFR (n:=n+28) ?_;rw[Pg (n:=n+27) aBL,Pg (n:=n+26) aBM];exact au
theorem aJs(F:Fr)(h:H)(n:Nat)(lA:F.get (a0 9)=.bool false):exec na (n+30) JP ⟨F,[],h⟩=.exit 0 ⟨F,[],h⟩:=by
 unfold JP;have:exec na (n+29) (.cond (.t (a0 9)) .skip (.exit 0)) ⟨F,[],h⟩=.exit 0 ⟨F,[],h⟩:=by
  rw[Yd (n:=n+28) (x:=.t (a0 9)) (s:=⟨F,[],h⟩) lA];rfl
 exact QB (n:=n+29) this (fun s e=>by cases e)
theorem filter_all{α:Type}{p q:α->Bool}{l:List α}(h:(l.filter fun e=>p e||q e).filter q=[]):(l.filter fun e=>p e||q e)=l.filter p:=by
 refine List.filter_congr fun e he=>?_;cases aM:q e with
 |false=>simp
 |true=>
  exfalso;have:e∈(l.filter fun e=>p e||q e).filter q:=List.mem_filter.2 ⟨List.mem_filter.2 ⟨he,by simp[aM]⟩,aM⟩;rw[h]at this;cases this
theorem find_born{es:List (V×V×Nat)}(bh:es.Pairwise fun e f=>e.2.2≠f.2.2/\e.1≠f.1){x:V×V×Nat}(ab:x∈es):es.find? (fun e=>Nat.beq e.2.2 x.2.2)=some x:=by
 induction es with
 |nil=>cases ab
 |cons y es ih=>
  have kE:=List.pairwise_cons.1 bh;rcases List.mem_cons.1 ab with rfl|ab
  ·rw[List.find?_cons];simp
  ·have ah:Nat.beq y.2.2 x.2.2=false:=by
    cases ah:Nat.beq y.2.2 x.2.2 with
    |false=>rfl
    |true=>exact absurd (dI ah) (kE.1 x ab).1
   rw[List.find?_cons];simp only[ah];exact ih kE.2 ab
theorem aJt{es:List (V×V×Nat)}(ai:∀e∈es,∃k b,e.1=.int .i64 k/\e.2.1=V.bool b/\True)(bh:es.Pairwise fun e f=>e.2.2≠f.2.2/\e.1≠f.1){k:Int}{v:V}{b:Nat}:∀(j:Nat),(V.int .i64 k,v,b)∈es->
  ∃i,findKey .int (.int .i64 k) es j=some (some (j+i,v))/\es[i]?=some (.int .i64 k,v,b):=by
 induction es with
 |nil=>intro j h;cases h
 |cons y es ih=>
  intro j ab;have kE:=List.pairwise_cons.1 bh;obtain⟨aMY,tr,o5⟩:=y;obtain⟨aak,aPW,aN,_,_⟩:=ai _ (zP ..);simp only at aN;subst aN;rcases List.mem_cons.1 ab with ab|ab
  ·cases ab;refine⟨0,?_,by simp⟩;simp[findKey,Q.eq,ho.eq,me,Bw]
  ·have bV:aak≠k:=fun e=>by subst e;exact(kE.1 _ ab).2 rfl
   obtain⟨i,h1,ae⟩:=ih (fun e he=>ai e (by simp[he])) kE.2 (j+1) ab;refine⟨i+1,?_,by simpa using ae⟩;have:qO k aak=false:=by rw[Bw];simp;exact fun e=>bV e.symm
   have e:j+(i+1)=j+1+i:=by omega
   rw[e];simp[findKey,Q.eq,ho.eq,me,this,h1]
theorem aJu{es:List (V×V×Nat)}(bh:es.Pairwise fun e f=>e.2.2≠f.2.2/\e.1≠f.1){i:Nat}{x:V×V×Nat}(ab:es[i]?=some x):es.eraseIdx i=es.filter fun e=>!Nat.beq e.2.2 x.2.2:=by
 induction es generalizing i with
 |nil=>simp at ab
 |cons y es ih=>
  have kE:=List.pairwise_cons.1 bh;cases i with
  |zero=>
   simp at ab;subst ab;rw[List.eraseIdx_cons_zero,List.filter_cons_of_neg (by simp)]
   symm
   refine List.filter_eq_self.2 fun e he=>?_;have:=(kE.1 e he).1;cases ah:Nat.beq e.2.2 y.2.2 with
   |false=>rfl
   |true=>exact absurd (dI ah).symm this
  |succ i=>
   simp at ab;have J4:x∈es:=c0 ab;have:=(kE.1 x J4).1;rw[List.eraseIdx_cons_succ,List.filter_cons_of_pos,ih kE.2 ab];cases ah:Nat.beq y.2.2 x.2.2 with
   |false=>rfl
   |true=>exact absurd (dI ah) this
theorem QQ(seen:List Nat)(b:Nat)(e:V×V×Nat):nm (seen++[b]) e=(nm seen e&&!Nat.beq e.2.2 b):=by
 simp only[nm,List.any_append,List.any_cons,List.any_nil,Lc,Bool.not_or]
theorem aK9{es:List (V×V×Nat)}(bh:es.Pairwise fun e f=>e.2.2≠f.2.2/\e.1≠f.1){seen:List Nat}{x:V×V×Nat}(ab:x∈es)(hk:t6 x=true):
  (es.filter fun e=>t6 e||nm (seen++[x.2.2]) e)=es.filter fun e=>t6 e||nm seen e:=by
 refine List.filter_congr fun e he=>?_;rw[QQ];cases ah:Nat.beq e.2.2 x.2.2 with
 |false=>simp
 |true=>
  have:e=x:=by
   have h1:=find_born bh he;have ae:=find_born bh ab;rw[dI ah]at h1;rw[h1]at ae;exact BK ae
  subst this;simp[hk]
theorem aKy{es:List (V×V×Nat)}(bh:es.Pairwise fun e f=>e.2.2≠f.2.2/\e.1≠f.1){seen:List Nat}{x:V×V×Nat}(ab:x∈es)(hk:t6 x=false):
  (es.filter fun e=>t6 e||nm (seen++[x.2.2]) e)=(es.filter fun e=>t6 e||nm seen e).filter fun e=>!Nat.beq e.2.2 x.2.2:=by
 rw[List.filter_filter];refine List.filter_congr fun e he=>?_;rw[QQ];cases ah:Nat.beq e.2.2 x.2.2 with
 |false=>simp
 |true=>
  have:e=x:=by
   have h1:=find_born bh he;have ae:=find_born bh ab;rw[dI ah]at h1;rw[h1]at ae;exact BK ae
  subst this;simp[hk]
theorem aKz{M:aW}{I:Fr}{a:Act}(aE:iX M 19 I a.tmps){n:Nat}(aq:n<19){v:V}(h:I.get (a0 n)=v):bm M v (a.eval (.tmp n)):=by
 obtain⟨aL,e,ar⟩:=aE.get n aq;have:a.eval (.tmp n)=aL:=by
  show a.tmps.getD n undef=aL;rw[BJ,e];rfl
 rw[this,<-h];exact ar
theorem aL2{F:Fence}{n:Nat}{P:Program}{ops:Array Oper}{Q:Exit->Act->World->Prop}{i:Nat}{rest:List Nat}{o:Oper}{a:Act}{w:World}(aC:o.guard=none)(a6:ops[i]?=some o)(h:o.wpIn F n P a w (wpOpsIn F n P ops Q rest) Q):wpOpsIn F n P ops Q (i::rest) a w:=by
 rw[wpOpsIn_cons];unfold wpOpIn;simp only[a6,Region.wanted,aC,qt];exact h
theorem aEC{M:aW}{ro:Option Nat}{aF:List V}{dV:Array Value}{h aa:H}{v:V}{w:World}(ar:dq M aF dV.toList)(aC:g0 a4 M)(r:Rel a4 M h w.heap)(he:W5 256 aF h=some (v,aa)):
  pC a4 ro 255 dV w fun aL w'=>∃aT,Step a4 M h w aT aa w'/\bm aT v aL:=by
 unfold W5 at he;split at he
 case h_2=>cases he
 rename_i cU g;split at he
 case h_2=>cases he
 rename_i Fs;have:=dI Fs;subst this;split at he
 case h_2=>cases he
 rename_i es c p0;split at he
 case h_2=>cases he
 rename_i iE;cases he;obtain⟨K2,GC⟩:=Zu iE;obtain⟨gw,hp,rfl,hm,aE⟩:=A3 ar;have ni:(callFunc 255 #[gw,hp]).run a4 w=.ok (.enter 255 #[gw,hp]) w:=by
  simp[callFunc,program,ja,Sem.run,Result.andThen,Go.Proofs.Tryz.func255,Go.Proofs.Tryz.f255]
 refine⟨_,_,ni,Zy (callsIn_of_wp_marks Go.Proofs.Tryz.func255 aBK trivial ?_)⟩;have xo:dq M [V.map cU,.fn (.func 256) [] []] (#[gw,hp]:Array Value).toList:=by simpa using ar
 have Pe:hl M 19 w.heap.size ⟨kZ [V.map cU,.fn (.func 256) [] []] 0 Fr.e,[],h⟩ {tmps:=#[gw,hp]++Array.replicate (Go.Proofs.Tryz.f255.ntmps-(#[gw,hp]:Array Value).size) undef,defers:=[]} w:=
  ⟨amK xo (by omega) (by simp),.nil,fun r aI=>by simp[ot]at aI,by simp[ot]⟩
 generalize ({tmps:=#[gw,hp]++Array.replicate (Go.Proofs.Tryz.f255.ntmps-(#[gw,hp]:Array Value).size) undef,defers:=[]}:Act)=mW at Pe⊢
 have iS:cU≠h.next:=by rintro rfl;rw[r.lD _ (a1 _)]at p0;cases p0
 let h1:=h.new (.kI (some cU) c [] c)
 let n5:=((kZ [V.map cU,.fn (.func 256) [] []] 0 Fr.e).set (.map cU) (a0 6)).set (.ptr h.next 0 0 0) (a0 7)
 have jl:exec na 2 (gJ a4 19 (none:Option Nat).isSome JO) ⟨kZ [V.map cU,.fn (.func 256) [] []] 0 Fr.e,[],h⟩=.norm ⟨n5,[],h1⟩:=by
  show exec na 2 (gJ a4 19 false JO) _=_;rw[aEz];unfold ad3;rw[Ph (n:=1),F9 (v:=.map cU) (by kernel_rfl)];refine J6 ?_;have eI:(X.t (a0 6)).a7 (cX (some (a0 6)) (V.map cU) (kZ [V.map cU,.fn (.func 256) [] []] 0 Fr.e))=.map cU:=Fr.gV _ _ _;simp only[g7.f,KN,eI,p0];rfl
 refine wpIn_seq (vi (Xq 2 none 19 JO _ _ jl (by simp) M mW w w.heap.size aC r Pe (a1 _)) fun e bJ b5 q=>?_);cases e<;>simp only[gy]at q<;>first|exact q.elim|skip
 obtain⟨hZ,st1,hz⟩:=q;refine wpIn_block (apq (fun m a w'=>∃(aT:aW) (U:H) (seen:List Nat) (I:Fr),Step a4 M h w aT U w'/\hl aT 19 w.heap.size ⟨I,[],U⟩ a w'/\I.get (a0 0)=.map cU/\I.get (a0 1)=.fn (.func 256) [] []/\I.get (a0 7)=.ptr h.next 0 0 0/\
  U.get cU=some (.map (es.filter fun e=>t6 e||nm seen e) c)/\U.get h.next=some (.kI (some cU) c seen c)/\(∀f,f≠cU->f≠h.next->U.get f=h.get f)/\U.next=rb h.next/\m=(es.filter (nm seen)).length) (k:=es.length) ?_ ?_)
 ·refine⟨hZ,h1,[],n5,st1,hz,by kernel_rfl,by kernel_rfl,Fr.gV _ _ _,?_,H.vp _ _,fun f _ aE=>H.lV _ _ (kv aE),rfl,?_⟩
  ·have:(es.filter fun e=>t6 e||nm [] e)=es:=List.filter_eq_self.2 fun e _=>by simp[nm]
   rw[this];show(h.new _).get cU=_;rw[H.lV _ _ (kv iS)];exact p0
  ·have:(es.filter (nm []))=es:=List.filter_eq_self.2 fun e _=>by simp[nm]
   rw[this]
 ·intro m a d7 ⟨sp,U,seen,I,st2,j6,rz,aB,lY,zc,FU,TV,NS,aBN⟩;have tH:=aC.mono st2.mono;refine wpIn_seq ?_;rw[aEy];obtain⟨kQ,fZ,azq,aj8,aBO,azr,xS⟩:=azl;rw[azq];refine wpIn_region ?_;show wpOpsIn _ _ _ #[kQ,fZ] _ [0,1] _ _
  refine aL2 azr rfl ⟨fun _ _=>trivial,?_⟩;rw[BI _ _ _ (fun c e=>by rw[aj8]at e;cases e)];have au1:=aKz j6.I (n:=7) (by omega) lY;obtain⟨L,cL,au2,n8,uJ,_⟩:=LH st2.rel au1 FU rfl;have aBP:execOp a.eval kQ=(do pure (.value (<-Instr.next (a.eval (.tmp 7)) false kQ.type))):=by
   unfold execOp;rw[aj8]
  rw[aBP,n8];have alX:∀e∈(es.filter fun e=>t6 e||nm seen e),e.2.2<c:=fun e he=>by
   obtain⟨_,_,_,_,q⟩:=K2 e (List.mem_filter.1 he).1;exact q
  have behind:∀{yr:aW} {a3:H} {jW:World} {cv:V} {aL:Value} {t:Bool} (Q:Exit->Act->World->Prop),Step a4 sp U d7 yr a3 jW->bm yr cv aL->DQ 0 cv=some (.bool t) ->
    (∀Ai oH iq,Step a4 sp U d7 Ai a3 iq->hl Ai 19 w.heap.size ⟨(I.set cv (a0 8)).set (.bool t) (a0 9),[],a3⟩ oH iq->Q .normal oH iq) ->
    wpOpsIn (gR none) 0 a4 #[kQ,fZ] Q [1] (a.put kQ.dst aL) jW:=fun{yr a3 jW cv aL t} Q n9 au3 hex lB=>by
   have Cy:hl yr 19 w.heap.size ⟨I.set cv (a0 8),[],a3⟩ (a.put kQ.dst aL) jW:=by
    have:=(j6.step n9).put (t:=kQ.dst) (d:=some (a0 8)) (by rw[aBO];rfl) au3;exact this
   have d0:ig na (fun _ _ _=>none) [⟨some (a0 9),.pu (.uY 0 (.t (a0 8))),none⟩] (I.set cv (a0 8)) a3 []=.norm ⟨(I.set cv (a0 8)).set (.bool t) (a0 9),[],a3⟩:=by
    refine F9 ?_;show DQ 0 ((I.set cv (a0 8)).get (a0 8))=_
    rw[Fr.gV];exact hex
   exact Yb (p:=a4) (J:=na) (call:=fun _ _ _=>none) (fun _ _ _ _ _ _ _ _ _ _ _ _ _ _ _ _ _ _ e=>by cases e) (ro:=none) 1 1 _ (ops:=#[kQ,fZ]) rfl xS d0 (by simp) (tH.mono n9.mono) n9.rel Cy fun Ai oH iq aPX bo aPY e tW xp=>by
    simp only[Out.norm.injEq,eM.mk.injEq]at e;obtain⟨rfl,rfl,rfl⟩:=e;exact lB Ai oH iq (n9.trans tW) xp
  have azs:∃l,sp cU 0=some l:=by
   cases hm with
   |map yO=>exact⟨_,st2.mono _ _ _ yO⟩
  rcases aJp st2.rel FU zc au2 alX alX azs kQ.type with⟨jW,d0,lQ,bj,a8,cc,dc⟩|⟨k,RB,b,hr,au4,jW,ev,R7,d0,hk,sL,n9⟩
  ·
   have Xr:(do pure (.value (<-Instr.next (.pointer (some ⟨L.bS,0,none⟩)) false kQ.type)):Sem Next).run a4 d7=.ok (.value (.tuple #[.bool false])) jW:=by simp[d0]
   rw[Xr];refine behind (a3:=U) (cv:=.bk [.bool false]) (t:=false) _ (.refl st2.rel bj a8 cc dc) (.bk (.cons (.bool false) .nil)) rfl fun Ai oH iq tW xp=>?_;simp only[Exit.then];have au5:exec na 30 (gJ a4 19 (none:Option Nat).isSome Ip) ⟨(I.set (.bk [.bool false]) (a0 8)).set (.bool false) (a0 9),[],U⟩=.exit 0 ⟨(I.set (.bk [.bool false]) (a0 8)).set (.bool false) (a0 9),[],U⟩:=by
    have:=aJs ((I.set (.bk [.bool false]) (a0 8)).set (.bool false) (a0 9)) U 0 (Fr.gV _ _ _)
    rw[<-alW]at this;exact this
   refine vi (Xq 30 none 19 Ip _ _ au5 (by simp) Ai oH iq w.heap.size (tH.mono tW.mono) tW.rel xp (iK st2.size tW.size)) fun e sw n2 q=>?_;cases e<;>simp only[gy]at q<;>first|exact q.elim|skip
   obtain⟨rfl,Mv,mq,FV⟩:=q;simp only[Exit.then,Exit.inBlock,qt];have vO:=st2.trans (tW.trans mq);have Wo:(es.filter fun e=>t6 e||nm seen e)=es.filter t6:=filter_all lQ;show LeavesInM _ _ _ _ _ _ sw.defers _ _;refine aol alV.quiet (fn:=Go.Proofs.Tryz.f255) (N:=19) (aD:=[]) rfl (eS:=M) (av:=h) (fq:=w) (M:=Mv) (h:=U) (aF:=[]) rfl FV.I (fun aL w' uL kF=>⟨aL,rfl,Mv,?_,kF⟩) FV.ds rfl vO FV.marks FV.nodup;refine uL.dead (it:=h.next) (a1 _) (fun k hk=>mq.rel.po h.next _ k FU rfl hk) (fun f aE=>?_) ?_ NS.symm (by rw[NS,gu];omega)
   ·by_cases CF:f=cU
    ·subst CF;rw[H.gV,zc,Wo]
    ·rw[H.ej _ _ (kv CF),H.lV _ _ (kv aE),TV f CF aE]
   ·rw[H.ej _ _ iS,H.vp]
  ·
   have Xr:(do pure (.value (<-Instr.next (.pointer (some ⟨L.bS,0,none⟩)) false kQ.type)):Sem Next).run a4 d7=.ok (.value (.tuple #[.bool true,hr,au4])) jW:=by simp[d0]
   rw[Xr];have PZ:(k,RB,b)∈es:=(List.mem_filter.1 ev).1;obtain⟨ch,t,aN,bd,_⟩:=K2 _ PZ;simp only at aN bd;subst aN bd;have X2:(es.filter fun e=>t6 e||nm seen e).Pairwise fun e f=>e.2.2≠f.2.2/\e.1≠f.1:=GC.filter _;refine behind (a3:=U.set h.next (.kI (some cU) c (seen++[b]) c)) (cv:=.bk [.bool true,.int .i64 ch,.bool t]) (t:=true) _ n9 (.bk (.cons (.bool true) (.cons hk (.cons sL .nil)))) rfl fun Ai oH iq tW xp=>?_;simp only[Exit.then];have dw:xe I cU h.next=I:=by unfold xe;rw[Fr.YD rz,Fr.YD aB,Fr.YD lY]
   obtain⟨i,Cu,dU⟩:=aJt (fun e he=>let⟨k,b,x,y,_⟩:=K2 e (List.mem_filter.1 he).1;⟨k,b,x,y,trivial⟩) X2 0 ev;obtain⟨aQ,ak4,au6,au7,au8⟩:=aJr I cU h.next ch t (U.set h.next (.kI (some cU) c (seen++[b]) c)) (since:=c) (fN:=b) (seen:=seen++[b]) (H.gV _ _ _) (by simp) (by rw[H.ej _ _ (kv iS)];exact zc) (find_born X2 ev) ⟨_,by simpa using Cu⟩ 0
   rw[dw,<-alW]at ak4;refine vi (Xq 30 none 19 Ip _ _ ak4 (by simp) Ai oH iq w.heap.size (tH.mono tW.mono) tW.rel xp (iK st2.size tW.size)) fun e sw n2 q=>?_;cases e<;>simp only[gy]at q<;>first|exact q.elim|skip
   obtain⟨Mv,mq,FV⟩:=q;simp only[Exit.then];refine⟨(es.filter (nm (seen++[b]))).length,?_,Mv,_,seen++[b],aQ,st2.trans (tW.trans mq),FV,au6,au7,au8,?_,?_,fun f xq yT=>?_,?_,rfl⟩
   ·rw[aBN,<-List.countP_eq_length_filter,<-List.countP_eq_length_filter];refine YY (fun x ab=>?_) PZ R7 ?_
    ·rw[QQ]at ab;simp only[dJ]at ab;exact ab.1
    ·rw[QQ];simp
   ·cases t with
    |true=>
     show(U.set h.next _).get cU=_;rw[H.ej _ _ (kv iS),zc];have:=aK9 GC (seen:=seen) PZ rfl;simp only at this;rw[this]
    |false=>
     show((U.set h.next _).set cU _).get cU=_
     rw[H.gV,aJu X2 dU];have:=aKy GC (seen:=seen) PZ rfl;simp only at this;rw[this]
   ·cases t with
    |true=>exact H.gV _ _ _
    |false=>
     show((U.set h.next _).set cU _).get h.next=_
     rw[H.ej _ _ iS,H.gV]
   ·cases t with
    |true=>
     show(U.set h.next _).get f=_;rw[H.ej _ _ (kv yT)];exact TV f xq yT
    |false=>
     show((U.set h.next _).set cU _).get f=_
     rw[H.ej _ _ (kv xq),H.ej _ _ (kv yT)];exact TV f xq yT
   ·cases t with
    |true=>exact NS
    |false=>exact NS
abbrev aRZ:=@List.Perm.refl
section
open Go.Proofs Go.RowKit Go.Maps Go.Sort Go.Shelf Go.WideElems
theorem aoE:∀{es:List (V×V×Nat)} {eR:List Int},KR es=some eR->es.map (fun e=>e.1)=eR.map (fun n=>V.int .i64 n)/\∀n∈eR,-9223372036854775808<=n/\n<=9223372036854775807
 |[],eR,h=>by simp[KR]at h;subst h;exact⟨rfl,fun n h=>by cases h⟩
 |(a,b,c)::es,eR,h=>by
  unfold KR at h;split at h
  ·rename_i heq;cases heq
  ·rename_i n v b3 jA heq;cases heq;split at h
   ·cases h
   ·rename_i aI;split at h
    ·rename_i l au;cases h;obtain⟨ry,kC⟩:=aoE au;refine⟨by simp[ry],fun m hm=>?_⟩;rcases List.mem_cons.1 hm with rfl|hm
     ·simp only[pE,Bool.or_eq_false_iff,PD]at aI;have e:Int.negSucc 9223372036854775807=-9223372036854775808:=rfl;rw[e]at aI;have bd:Int.ofNat 9223372036854775807=9223372036854775807:=rfl;rw[bd]at aI;omega
     ·exact kC m hm
    ·cases h
  ·cases h
theorem Zc(x:Int):∀l,(F1 x l).Perm (x::l)
 |[]=>List.Perm.refl _
 |y::cV=>by
  unfold F1;split
  ·exact((Zc x cV).cons y).trans (List.Perm.swap x y cV)
  ·exact List.Perm.refl _
theorem aoF:∀l,(Bm l).Perm l
 |[]=>List.Perm.refl _
 |x::xs=>(Zc x _).trans ((aoF xs).cons x)
theorem aoZ(x:Int):∀{l:List Int},l.Pairwise (·<=·) ->(F1 x l).Pairwise (·<=·)
 |[],_=>List.pairwise_singleton _ _
 |y::cV,h=>by
  have aa:=List.pairwise_cons.1 h;unfold F1;split
  ·rename_i ay;rw[pE]at ay;have ay:y<x:=by simpa using ay
   refine List.pairwise_cons.2 ⟨fun z aX=>?_,aoZ x aa.2⟩;rcases List.mem_cons.1 ((Zc x cV).mem_iff.1 aX)with rfl|aX
   ·omega
   ·exact aa.1 z aX
  ·rename_i ay;rw[pE]at ay;have ay:¬y<x:=by simpa using ay
   refine List.pairwise_cons.2 ⟨fun z aX=>?_,h⟩;rcases List.mem_cons.1 aX with rfl|aX
   ·omega
   ·have:=aa.1 z aX;omega
theorem apb:∀l,(Bm l).Pairwise (·<=·)
 |[]=>List.Pairwise.nil
 |x::xs=>aoZ x (apb xs)
theorem aJv{l cr:List Int}(bh:cr.Perm l):cr.mergeSort (fun x y=>decide (x<=y))=Bm l:=by
 have h1:(cr.mergeSort (fun x y=>decide (x<=y))).Pairwise (·<=·):=by
  have:=List.pairwise_mergeSort (le:=fun(x y:Int)=>decide (x<=y)) (fun a b c=>by simp;omega) (fun a b=>by simp;omega) cr;exact this.imp fun h=>by simpa using h
 have ae:=apb l;have az:(cr.mergeSort (fun x y=>decide (x<=y))).Perm (Bm l):=(List.mergeSort_perm cr _).trans (bh.trans (aoF l).symm);exact az.eq_of_pairwise (fun a b _ _ h1 ae=>by omega) h1 ae
theorem Step.newAt{p:Program}{M:aW}{h:H}{w w':World}(r:Rel p M h w.heap){o:O}{cL:Obj}{l:Loc}(au:w.heap.size<=l.bS)(ay:l.bS<w'.heap.size)(au9:w'.heap[l.bS]?=some cL)(aq:re p (M.add h.next 0 l) l o cL)(h2:Below w.heap.size w w'):
  Step p M h w (M.add h.next 0 l) (h.new o) w':=by
 have lQ:=r.sk;have jH:=(r.BT o).GG (lQ 0) (by rw[H.fF];omega) (H.vp h o) (kE:=w'.heap) (l:=l) (cL:=cL)
  (fun g k m _ e=>by have:=r.lt e;omega) h2.size ay (fun b ah _=>h2.block b ah) au9 aq
 refine⟨jH,aW.qo (lQ 0),by rw[H.fF];omega,h2.size,fun f k m e bA=>?_,fun b ah _=>h2.block b ah,fun f k m e7 e=>?_,fun f k m e7 e=>?_,fun f aE av=>?_,h2.os,h2.output,h2.tape,fun f k m e bA=>?_,fun f aE e=>?_⟩
 ·by_cases aE:f=h.next/\k=0
  ·exact .inl (by rw[aE.1];exact a1 _)
  ·rw[aW.mf M l aE,bA]at e;cases e
 ·by_cases aE:f=h.next/\k=0
  ·rw[aE.1,aE.2,aW.add_same]at e;cases e;exact .inl au
  ·rw[aW.mf M l aE]at e;refine .inr ⟨f,k,m,?_,e,rfl⟩;refine(H.sm (H.lV h o ?_)).1 e7;rintro rfl;rw[lQ]at e;cases e
 ·by_cases aE:f=h.next/\k=0
  ·rw[aE.1,aE.2,aW.add_same]at e;cases e;exact .inl au
  ·rw[aW.mf M l aE]at e;refine .inr ⟨f,k,m,?_,e,rfl⟩;refine(H.uo (H.lV h o ?_)).1 e7;rintro rfl;rw[lQ]at e;cases e
 ·exact H.lV h o (by rintro rfl;omega)
 ·by_cases aE:f=h.next/\k=0
  ·exact .inl (by rw[aE.1];exact a1 _)
  ·rw[aW.mf M l aE,bA]at e;cases e
 ·rw[H.lV h o (by rintro rfl;omega)]at e;exact e
theorem Step.below{p:Program}{M:aW}{h:H}{w w':World}(r:Rel p M h w.heap)(h2:Below w.heap.size w w'):Step p M h w M h w':=
 ⟨r.congr h2.size fun f k l _ e=>h2.block _ (r.lt e),aW.le_refl M,a1 _,h2.size,fun f k l e bA=>(by rw[bA]at e;cases e),fun b ah _=>h2.block b ah,fun f k l a e=>.inr ⟨f,k,l,a,e,rfl⟩,fun f k l a e=>.inr ⟨f,k,l,a,e,rfl⟩,fun _ _ _=>rfl,h2.os,h2.output,h2.tape,fun f k l e bA=>(by rw[bA]at e;cases e),fun _ _ e=>e⟩
theorem ZN{X:Type}:∀(l:List (Lit×DataW X)),(l.foldr DataW.insert []).Perm l
 |[]=>List.Perm.refl _
 |x::l=>by
  have ih:=ZN l;have:∀(m:List (Lit×DataW X)),(DataW.insert x m).Perm (x::m):=fun m=>by
   induction m with
   |nil=>exact List.Perm.refl _
   |cons y m IA=>
    unfold DataW.insert;split
    ·exact List.Perm.refl _
    ·exact(IA.cons y).trans (List.Perm.swap x y m)
  rw[List.foldr_cons];exact(this _).trans (ih.cons x)
theorem aED{M:aW}{k:IntKind}{n:Int}{r:Value}(h:bm M (.int k n) r):r=.int k n:=by cases h;rfl
theorem amy{M:aW}:∀{es:List (V×V×Nat)} {aD:List MapEntry} {eR:List Int},eK (s7 M) es aD->es.map (fun e=>e.1)=eR.map (fun n=>V.int .i64 n) ->aD.map (·.key)=eR.map (fun n=>Value.int .i64 n)
 |_,_,eR,.nil,h=>by cases eR<;>simp at h⊢
 |_,_,eR,.cons ab t,h=>by
  cases eR with
  |nil=>simp at h
  |cons k eR=>
   simp only[nQ,oS]at h⊢;refine⟨?_,amy t h.2⟩;have:=ab.1;rw[h.1]at this;exact aED this
theorem Ql{M:aW}:∀{es:List (V×V×Nat)} {aD:List MapEntry},eK (s7 M) es aD->aD.map (·.born)=es.map (fun e=>e.2.2)
 |_,_,.nil=>rfl
 |_,_,.cons ab t=>by simp only[nQ,Ql t,ab.2.2]
def Aj:Value->Option (DataW Unit×List MemPlace):=fun _=>some (.nil,[])
theorem azt{n:Int}(h:-9223372036854775808<=n/\n<=9223372036854775807):(Lit.int .i64 n).wf=true:=by
 simp[Lit.wf,IntKind.min,IntKind.max,IntKind.signed,IntKind.bits];omega
theorem alY{x:MapEntry}{n:Int}(hk:x.key=.int .i64 n)(h:-9223372036854775808<=n/\n<=9223372036854775807):rd a4 3 Aj x=some (.int .i64 n,.nil):=by
 have hu:a4.underlying 3=some (.int .i64):=Tryz.underlying3;have:keyOf a4 3 x.key=some (.int .i64 n):=by
  rw[keyOf_int hu,hk];simp[mapKey,hu,azt h]
 unfold Go.WideElems.rd;simp[this,Aj]
theorem amz:∀{aD:List MapEntry} {eR:List Int},aD.map (·.key)=eR.map (fun n=>Value.int .i64 n) ->(∀n∈eR,-9223372036854775808<=n/\n<=9223372036854775807) ->aD.map (rg a4 3 Aj)=eR.map fun n=>(Lit.int .i64 n,DataW.nil)
 |[],eR,h,_=>by cases eR<;>simp at h⊢
 |x::aD,eR,h,ah=>by
  cases eR with
  |nil=>simp at h
  |cons k eR=>
   simp only[nQ,oS]at h⊢;refine⟨?_,amz h.2 fun n aq=>ah n (by simp[aq])⟩;unfold rg;rw[alY h.1 (ah k (by simp))];rfl
theorem aEE{aal:TypeId}(ava:D1 a4 aal=true){M:aW}{ro:Option Nat}{aF:List V}{dV:Array Value}{h aa:H}{v:V}{w:World}(ar:dq M aF dV.toList)(r:Rel a4 M h w.heap)(he:Yx 301 3 aal aF h=some (v,aa)):
  pC a4 ro 174 dV w fun aL w'=>∃aT,Step a4 M h w aT aa w'/\bm aT v aL:=by
 unfold Yx at he;split at he
 case h_2=>cases he
 rename_i g b;split at he
 case h_2=>cases he
 rename_i Fs;have:=dI Fs;subst this;split at he
 case h_2=>cases he
 rename_i cU md HF ah;split at he
 case h_2=>cases he
 rename_i es c p0;split at he
 case h_2=>cases he
 rename_i wg;simp only[dJ]at wg;obtain⟨⟨⟨CB,TW⟩,iE⟩,hlen⟩:=wg;have CB:md≠.ro:=by rintro rfl;cases CB
 have TW:=dI TW;subst TW;have hlen:=iZ hlen;split at he
 case h_2=>cases he
 rename_i eR xi;obtain⟨K2,GC⟩:=Zu iE;obtain⟨Xs,aj9⟩:=aoE xi;obtain⟨hp,rfl,aE⟩:=JN ar;cases aE with
 |fn bN Vd=>
 rename_i hq gW;have IH:hq=#[]:=by
  have:=bN.length;simp at this;exact G3 this.symm
 subst IH;obtain⟨aMZ,rfl,bh⟩:=JN Vd;cases bh with
 |ptr _ _ TX aAk=>
 rename_i fL;obtain⟨aPZ,aka,U⟩:=r.cells b _ 0 0 md HF fL ah TX 0 (a1 _) (a1 _);rw[TX]at aka;cases aka;have K1:fL.base=0:=(U.mod CB).2 ava;have JZ:fL.ext=1:=U.own rfl;obtain⟨h3,lW,hblk,_,r7,_⟩:=U.cells;obtain⟨aL,n8,g3,_⟩:=r7 0 _ (by omega) rfl;cases g3 with
 |map yO=>
 rename_i lm;obtain⟨aD,aBQ,dw⟩:=BB r p0 yO;have X3:=amy dw Xs;have NT:=amz X3 aj9;have aP0:aD.size=es.length:=by
  have:=lP List.length (Ql dw);simpa using this
 have pB:w.cell? ⟨fL.bS,0,none⟩=some (.map (some lm.bS)):=by
  rw[K1]at n8;simp only[World.cell?,hblk];simpa using n8
 have ad5:eR.length=es.length:=by have:=lP List.length Xs;simpa using this.symm
 have uK:(aD.toList.map (·.key)).Nodup:=by
  rw[X3];have:(es.map (fun e=>e.1)).Nodup:=by
   rw[List.Nodup,List.pairwise_map];exact GC.imp fun h=>h.2
  rw[Xs]at this;rw[List.Nodup,List.pairwise_map]at this⊢;exact this.imp fun h e=>h (by cases e;rfl)
 have sV:w.ownsMap a4 3 Aj lm.bS 1048576 (.map ((aD.toList.map (rg a4 3 Aj)).foldr DataW.insert [])):=by
  refine⟨aD,c,aBQ,⟨?_,⟨fun x ab=>?_,?_,uK⟩,fun x ab=>?_⟩,by omega,rfl⟩
  ·unfold maxLen;omega
  ·have:x.born∈aD.toList.map (·.born):=List.mem_map_of_mem ab;rw[Ql dw]at this;obtain⟨e,hf,aN⟩:=List.mem_map.1 this;obtain⟨_,_,_,_,q⟩:=K2 e hf;omega
  ·rw[Ql dw,List.Nodup,List.pairwise_map];exact GC.imp fun h=>h.1
  ·have:x.key∈aD.toList.map (·.key):=List.mem_map_of_mem ab;rw[X3]at this;obtain⟨n,aq,aN⟩:=List.mem_map.1 this;exact⟨_,alY aN.symm (aj9 n aq)⟩
 generalize gC:(DataW.map ((aD.toList.map (rg a4 3 Aj)).foldr DataW.insert []):DataW Unit)=EY at sV
 have aBR:(intKeys EY).Perm eR:=by
  rw[<-gC];show List.Perm (((aD.toList.map (rg a4 3 Aj)).foldr DataW.insert []).map fun p=>intOf p.1) eR
  refine((ZN _).map _).trans ?_
  rw[NT,D7];have:((fun p:Lit×DataW Unit=>intOf p.1)∘fun n=>(Lit.int .i64 n,DataW.nil))=id:=by funext n;rfl
  rw[this,List.map_id]
 have eN:Maps.size EY=eR.length:=by
  rw[<-gC];show((aD.toList.map (rg a4 3 Aj)).foldr DataW.insert []).length=eR.length
  rw[(ZN _).length_eq,NT];simp
 have azu:SeqGives Fence.wide 2 a4 301 #[.pointer (some ⟨fL.bS,0,none⟩)] encZ (fun kO=>kO.Perm (intKeys EY)) (Maps.size EY) w:=
  AnyZI.keys_gives (ρ:=Tryz.keysA_ren) {Tryz.keysA with} Fence.wide _ trivial rfl (by omega) fL.bS lm.bS 1048576 EY w (r.lt TX) pB sV
 have cf:=AnyZI.sorted_in Tryz.sortedA Fence.wide 5 trivial trivial trivial trivial rfl (by omega) (Tryz.sortsA _) (enters_of Tryz.func124 (by kernel_rfl) rfl) 301 #[.pointer (some ⟨fL.bS,0,none⟩)] trivial (enters_of Tryz.func301 (by kernel_rfl) rfl) _ (Maps.size EY) (by rw[eN,ad5];unfold maxLen;omega) (by rw[eN,ad5];omega) w azu
 change CallsIn _ _ a4 174 _ _ _ at cf;have azv:(⟨fL.bS,fL.base+0,none⟩:Addr)=⟨fL.bS,0,none⟩:=by rw[K1]
 rw[azv];refine QP (enters_of Tryz.func174 (by kernel_rfl) rfl) ((callsIn_wide.1 cf).mono fun e w' ⟨RB,kO,aN,sy,rU,j8,h2⟩=>⟨RB,aN,?_⟩)
 have ad6:kO.mergeSort (fun x y=>decide (x<=y))=Bm eR:=aJv (sy.trans aBR);have KE:kO.length=(Bm eR).length:=by rw[<-ad6];simp
 rw[ad6]at rU;split at he
 ·rename_i qT;cases he;rw[qT]at KE;have:kO=[]:=by simpa using KE
  rw[j8.2 this];exact⟨M,.below r h2,.al⟩
 ·rename_i n ly Nr;cases he;obtain⟨_,⟨_,av⟩|⟨Cj,cap,cur,rfl,bj,a8,cc,dc,dn,dQ⟩⟩:=rU
  ·rw[KE,Nr]at av;simp at av
  ·rw[Nr]at dQ KE;simp only[Nat.mul_one]at dn dQ;have ay:Cj<w'.heap.size:=by
    rcases dz Cj w'.heap.size with h|h
    ·exact h
    ·rw[vd h]at a8;cases a8
   refine⟨M.add h.next 0 ⟨Cj,0,(n::ly).length,cap⟩,Step.newAt r (l:=⟨Cj,0,(n::ly).length,cap⟩) bj ay a8 (.cells (.zero _ _) (by simp) (by simp only;omega) (by simp only;omega) (fun i x ab=>?_) (fun i _=>by simp)) h2,?_⟩
   ·have ai:i<(n::ly).length:=by
     rcases dz i (n::ly).length with h|h
     ·exact h
     ·rw[ei (by simpa using h)]at ab;cases ab
    rw[ij,hN ai]at ab;simp only[zN,cN]at ab;subst ab;refine⟨.int .i64 (n::ly)[i],?_,.int _ _,rfl⟩;have:(cur.toList.take kO.length)[i]?=((n::ly).map encZ)[i]?:=by rw[dQ]
    rw[qp (by omega),ij,hN ai]at this;simpa[encZ]using this
   ·rw[KE];exact .ag (l:=⟨Cj,0,(n::ly).length,cap⟩) (aW.add_same _ _ _ _) (by simp) (.inr rfl) (by omega) (fun c e=>by cases e) (fun _=>by simp)
end
theorem amA{a:Act}{t:Nat}{v:Value}(h:t<a.tmps.size):(a.put (some t) v).eval (.tmp t)=v:=by
 simp[Act.eval,Act.put,h]
theorem aMk{P:Program}{Q:Exit->Act->List Frame->World->Prop}{a:Act}{cs:List Frame}{w:World}{id:Nat}{o:Oper}(aC:o.guard=none)(a6:∀ρ,execOp ρ o=pure .recover)(aI:recoverD cs=none)(h:Q .normal (a.put o.dst .nilIface) cs w):
  (Code.region id #[o] false).wpSIn (gR none) 0 P Q a cs w:=by
 refine wpSIn_region ?_;show wpOpsSIn _ _ _ #[o] _ [0] _ _ _
 simp only[wpOpsSIn,List.getElem?_toArray,List.getElem?_cons_zero,Region.wanted,aC,qt,a6,pF,aI];exact⟨fun _ _=>trivial,h⟩
theorem apc{P:Program}{Q:Exit->Act->World->Prop}{a:Act}{w w':World}{id:Nat}{o:Oper}{v:Value}(aC:o.guard=none)(uK:∀c,o.op≠.defer c)(a6:(execOp a.eval o).run P w=.ok (.value v) w')(h:Q .normal (a.put o.dst v) w'):
  (Code.region id #[o] false).wpIn (gR none) 0 P Q a w:=by
 refine wpIn_region ?_;show wpOpsIn _ _ _ #[o] _ [0] _ _
 simp only[wpOpsIn,List.getElem?_toArray,List.getElem?_cons_zero,Region.wanted,aC,qt];refine⟨fun _ _=>trivial,?_⟩;rw[BI _ _ _ uK,a6];exact h
theorem aLa{J:Prog}(hP:∀g,J.quiet g=true->g=290):Yc Go.Proofs.Tryz.prog J:=by
 intro g aC cap w;have:=hP g aC;subst this;refine⟨by simp[callFunc,program,ja,Sem.run,Result.andThen,Go.Proofs.Tryz.func290,Go.Proofs.Tryz.f290],?_⟩;refine callsDIn_of_wpSIn Go.Proofs.Tryz.func290 rfl trivial fun aqi cs hu=>?_;have eN:∀k,k<16->k<(cap++Array.replicate (Go.Proofs.Tryz.f290.ntmps-cap.size) undef).size:=fun k hk=>by
  show k<(cap++Array.replicate (16-cap.size) undef).size;simp;omega
 generalize (cap++Array.replicate (Go.Proofs.Tryz.f290.ntmps-cap.size) undef)=uu at eN⊢;have Vl:recoverD (aqi::cs)=none:=by simp[recoverD,hu]
 refine wpSIn_seq (aMk rfl (fun _=>rfl) Vl ?_);refine wpSIn_of_wpIn rfl (wpIn_block (wpIn_seq ?_));have dM:(({tmps:=uu,defers:=[]}:Act).put (some 6) .nilIface).eval (.tmp 6)=.nilIface:=amA (eN 6 (by omega))
 generalize gB:(({tmps:=uu,defers:=[]}:Act).put (some 6) .nilIface)=A at dM⊢
 have avb:8<A.tmps.size:=by subst gB;simpa[Act.put]using eN 8 (by omega)
 have avc:A.defers=[]:=by subst gB;rfl
 refine apc (v:=.bool true) (w':=w) rfl (by intro c e;cases e) ?_ ?_
 ·have aM:yJ Go.Proofs.Tryz.prog 20=.kD:=by kernel_rfl
  have ah:=aku (p:=Go.Proofs.Tryz.prog) (M:=fun _ _=>none) (op:=.eql) (q:=.A7) (t:=20) (x:=.tmp 6) (y:=.const .nilIface) (.inr ⟨aM,rfl,.inr ⟨_,rfl⟩⟩) bm.og bm.og (v:=.bool true) rfl;obtain⟨aL,h1,ae⟩:=ah.value;cases h1;simp only[execOp,dM];exact ae w
 ·have fU:(A.put (some 8) (.bool true)).eval (.tmp 8)=.bool true:=amA avb;refine wpIn_cond_true fU (apc (v:=(A.put (some 8) (.bool true)).eval (.tmp 6)) rfl (by intro c e;cases e) rfl ?_);simp only[Exit.inBlock];refine⟨?_,.returning,hu▸rfl,.tuple #[],?_,⟨_,rfl,rfl,rfl,rfl,rfl,rfl⟩⟩
  ·show(((A.put (some 8) (.bool true)).put (some 3) _)).defers=[]
   exact avc
  ·show Sem.run _ (Go.results Go.Proofs.Tryz.f290 _) w=_;simp[Go.results,Go.Proofs.Tryz.f290]
section
open Go.Proofs Go.RowKit
theorem K3{g:FuncId}{fn:Func}{e:Array Value->Sem Value}(aE:a4.funcs[g]?=some fn)(aBS:(fn.name== "runtime.NumGoroutine")=false)(ah:fn.body.isNone=true)(aq:Extern.findNext fn=none)(he:Extern.find fn=some e):va a4 g e:=fun args w=>by
 rw[run_callFunc_extern aE aBS ah aq he]
theorem aEF:va a4 260 Extern.AbiNoEscape.same:=K3 Tryz.func260 (by kernel_rfl) rfl (by kernel_rfl) (by kernel_rfl)
theorem aEG:va a4 285 Extern.BytealgCount.count:=K3 Tryz.func285 (by kernel_rfl) rfl (by kernel_rfl) (by kernel_rfl)
theorem aEH:va a4 461 Extern.BytealgIndexByte.indexByte:=K3 Tryz.func461 (by kernel_rfl) rfl (by kernel_rfl) (by kernel_rfl)
theorem aEI:va a4 778 Extern.BytealgCompare.compare:=K3 Tryz.func778 (by kernel_rfl) rfl (by kernel_rfl) (by kernel_rfl)
theorem aEJ:va a4 448 (Extern.BytealgMakeNoZero.makeNoZero #[3] #[112]):=K3 Tryz.func448 (by kernel_rfl) rfl (by kernel_rfl) (by kernel_rfl)
theorem avd:a4.underlying 112=some (.slice 5):=by kernel_rfl
theorem ave:gM a4 5=some 1:=by kernel_rfl
theorem aEK:D1 a4 192=true:=by kernel_rfl
theorem aEL:ak2 a4 287 4:=⟨enters_of Tryz.func287 (by kernel_rfl) rfl,fun s sub m w aA hm=>Any.stringslite_Index Tryz.sl219 s sub m w aA hm⟩
theorem avf:∃oz,a4.globals[4]?=some oz/\gM a4 oz.type=some 1:=⟨_,rfl,by kernel_rfl⟩
theorem anq{ro:Option Nat}{g:FuncId}{aF:List V}{dV:Array Value}{h aa:H}{v:V}{M:aW}{w:World}(ar:dq M aF dV.toList)(aC:g0 a4 M)(r:Rel a4 M h w.heap)(he:Gr ids g aF h=some (v,aa)):
  pC a4 ro g dV w fun aL w'=>∃aT,Step a4 M h w aT aa w'/\bm aT v aL:=by
 unfold Gr at he;split at he
 ·rename_i e;cases dI e;exact aK6 ar r aEF he
 split at he
 ·rename_i e;cases dI e;exact aK7 ar r aEG he
 split at he
 ·rename_i e;cases dI e;exact aKw ar r aEH he
 split at he
 ·rename_i e;cases dI e;obtain⟨oz,h1,ae⟩:=avf;exact aK8 ar r aC (w1:=4) h1 ae aEL he
 split at he
 ·rename_i e;cases dI e;exact aKx ar r avd ave aEJ he
 split at he
 ·rename_i e;cases dI e;exact aJo ar r aEI he
 split at he
 ·rename_i e;cases dI e;exact aEE aEK ar r he
 split at he
 ·rename_i e;cases dI e;exact aEC ar aC r he
 ·cases he
theorem iB:gm a4 iF where
 funcs g F h:=by
  have h:(a4.funcs[g]?).bind (zy a4)=some F:=h;rw[bK]at h;exact h
 w2:=ak3
 quiet:=aLa fun g h=>dI h
 spec ro g aF dV h aa v M w ar aC r he:=anq ar aC r he
end
def aw(n:Nat):V:=.int .i64 (.ofNat n)
def kT(n:Nat):V:=.fn (.func n) [] []
def cf(f k off len es c:Nat):V:=.ag (gQ f) k off len es (some c)
def bc(f k off len es:Nat):V:=.ag (gQ f) k off len es none
def ba(f:Nat)(xs:List V)(aZ:Nat)(ty:TypeId):P×O:=(gQ f,.cells xs aZ 0 .rw ty)
def gD(u:fm)(g:FuncId)(args:List V)(pre:fm)(cg:Nat)(v:V)(post:fm)(rH:Nat):fV:=⟨g,args,u++pre,gQ cg,v,u++post,gQ rH⟩
def iC:=ba 17 [.str [69]] 0 9
def bj:=ba 18 [.str [69]] 0 9
def a8:=ba 19 [.str [97],.al,.str [69],.str [98],.al,.str [69],.str [112],cf 18 0 0 1 1 1,.str [66,111,111,108],.str [120],.al,.str [73,110,116]] 0 99
def cc:=ba 136 [aw 4,.str [69],.str [97],.al,.al,aw 4,.str [66,111,111,108],.str [112],.al,bc 138 0 0 1 1] 1 90
def dc:=ba 138 [aw 0] 0 3
def dn:=ba 340 [aw 4,.str [69],.str [97],.al,.al,aw 4,.str [69],.str [98],.al,.al,aw 11,.str [66,111,111,108],.str [],.al,bc 342 1 0 2 1] 2 90
def dQ:=ba 342 [aw 0,aw 1] 1 3
def fH:=ba 527 [aw 4,.str [69],.str [98],.al,.al,aw 4,.str [66,111,111,108],.str [112],.al,bc 529 0 0 1 1] 1 90
def gX:=ba 529 [aw 0] 0 3
def jM:=ba 598 [bc 136 1 0 2 5,bc 340 2 0 3 5] 0 52
def mM:=ba 599 [.str [111,110,101],.str [116,119,111]] 0 9
def pj:P×O:=((gQ 2),.cells [.str [116,114,117,101],.str [102,97,108,115,101],.str [110,111,116],.str [97,110,100],.str [111,114],.str [105,102,102],.str [105,116,101],.str [102,111,114,97,108,108],.str [101,120,105,115,116,115],.str [43],.str [42],.str [60],.str [60,61]] 0 0 .ro 340)
def m9:P×O:=((gQ 3),.cells [.str [77,97,112],.str [115,101,108,101,99,116],.str [83,75],.str [86],.str [77,97,112],.str [115,116,111,114,101],.str [83,75,86],.str [83],.str [77,97,112],.str [99,111,110,115,116],.str [86],.str [83],.str [77,97,112],.str [100,105,102,102],.str [83,83],.str [75],.str [83,101,113],.str [108,101,110],.str [83],.str [73],.str [83,101,113],.str [97,116],.str [83,73],.str [75],.str [83,101,113],.str [101,109,112,116,121],.str [],.str [83],.str [83,101,113],.str [111,110,101],.str [75],.str [83],.str [83,101,113],.str [99,97,116],.str [83,83],.str [83],.str [83,101,113],.str [112,117,116],.str [83,73,75],.str [83],.str [83,101,113],.str [99,117,116],.str [83,73,73],.str [83],.str [83,101,113],.str [112,114,101],.str [83,83],.str [66],.str [83,101,113],.str [100,105,102,102],.str [83,83],.str [73],.str [83,101,116],.str [104,97,115],.str [83,75],.str [66],.str [83,101,116],.str [101,109,112,116,121],.str [],.str [83],.str [83,101,116],.str [111,110,101],.str [75],.str [83],.str [83,101,116],.str [106,111,105,110],.str [83,83],.str [83],.str [83,101,116],.str [109,101,101,116],.str [83,83],.str [83],.str [83,101,116],.str [108,101,115,115],.str [83,83],.str [83],.str [83,101,116],.str [115,117,98],.str [83,83],.str [66],.str [83,101,116],.str [115,105,122,101],.str [83],.str [73],.str [83,101,116],.str [100,105,102,102],.str [83,83],.str [75]] 0 0 .ro 422)
def kr:P×O:=((gQ 1),.cells [kT 795,kT 796,kT 795,kT 797,kT 797,kT 796,kT 798,kT 796,kT 796,kT 799,kT 800] 0 0 .ro 167)
def TY:=ba 608 [aw 4,.str [69],.str [97],.al,.al,aw 4,.str [66,111,111,108],.str [112],.al,bc 610 0 0 1 1] 1 90
def TZ:=ba 610 [aw 0] 0 3
def T0:=ba 613 [bc 608 1 0 2 5,bc 616 2 0 3 5,bc 625 1 0 2 5] 2 52
def T1:=ba 616 [aw 4,.str [69],.str [97],.al,.al,aw 4,.str [69],.str [98],.al,.al,aw 11,.str [66,111,111,108],.str [],.al,bc 620 0 0 2 1] 2 90
def T2:=ba 620 [aw 0,aw 1] 0 3
def T3:=ba 625 [aw 4,.str [69],.str [98],.al,.al,aw 4,.str [66,111,111,108],.str [112],.al,bc 627 0 0 1 1] 1 90
def T4:=ba 627 [aw 0] 0 3
def T5:=ba 631 [aw 0,.bool false] 0 62
def FJ:=ba 632 [aw 0] 0 3
def JF:=ba 634 [aw 0,bc 631 0 0 1 2,.al,bc 632 0 0 1 1,.al,.al,aw 0,bc 636 0 0 1 2,.al,bc 637 0 0 1 1,.al,.al,aw 1,bc 640 0 0 1 2,.al,.al,.al,.al,aw 5,bc 643 0 0 3 2,.al,.al,.al,.al,aw 10,.al,bc 646 0 0 4 1,bc 647 0 0 3 1,.al,.al] 4 64
def T6:=ba 636 [aw 1,.bool false] 0 62
def T7:=ba 637 [aw 1] 0 3
def T8:=ba 640 [aw 2,.bool true] 0 62
def T9:=ba 643 [aw 0,.bool true,aw 1,.bool true,aw 2,.bool false] 0 62
def Ua:=ba 646 [aw 3,aw 0,aw 1,aw 2] 0 3
def Ub:=ba 647 [aw 0,aw 1,aw 2] 0 3
def ad7:=ba 1969 [.str [97],.al,.str [69],.str [98],.al,.str [69],.str [112],cf 18 0 0 1 1 1,.str [66,111,111,108],.str [120],.al,.str [73,110,116]] 0 99
def ad8:=ba 2921 [bc 613 2 0 3 1,bc 634 4 0 5 6,cf 17 0 0 1 1 1,.al,bc 1969 0 0 4 3,cf 598 0 0 2 1 2,cf 599 0 0 2 1 2,bc 527 1 0 2 5,aw 0] 0 189
def ad9:=ba 3179 [aw 4,.str [69],.str [97],.al,.al,aw 4,.str [66,111,111,108],.str [112],.al,bc 3181 0 0 1 1] 0 90
def JG:=ba 3181 [aw 0] 0 3
def aea:=ba 3184 [aw 0,.str [66,111,111,108],.str [],.al,.al] 0 90
def aeb:=ba 3186 [cf 3179 0 0 2 5 2,bc 3184 0 0 1 5,.bool false,cf 3250 0 0 1 5 1,cf 3313 0 0 1 5 1,.bool false,cf 3361 0 0 2 5 2,bc 3366 0 0 1 5,.bool false] 2 619
def aec:=ba 3250 [aw 4,.str [69],.str [97],.al,.al] 0 90
def aed:=ba 3313 [aw 4,.str [69],.str [98],.al,.al] 0 90
def aee:=ba 3361 [aw 4,.str [69],.str [98],.al,.al,aw 4,.str [66,111,111,108],.str [112],.al,bc 3363 0 0 1 1] 0 90
def aef:=ba 3363 [aw 0] 0 3
def aeg:=ba 3366 [aw 1,.str [66,111,111,108],.str [],.al,.al] 0 90
def aeh:=ba 4384 [aw 0,aw 1,aw 2] 0 3
def JR:P×O:=((gQ 0),.cells [kT 642,kT 643,kT 644,kT 645,kT 646,kT 647,kT 648,kT 649,kT 635,kT 650,kT 651] 0 0 .ro 106)
def Uc:=ba 5833 [aw 4,.str [69],.str [97],.al,.al,aw 4,.str [66,111,111,108],.str [112],.al,bc 5835 0 0 1 1] 1 90
def Ud:=ba 5835 [aw 0] 0 3
def Ue:=ba 5838 [bc 5833 1 0 2 5,bc 5841 2 0 3 5,bc 5850 1 0 2 5] 2 52
def Uf:=ba 5841 [aw 4,.str [69],.str [97],.al,.al,aw 4,.str [69],.str [98],.al,.al,aw 11,.str [66,111,111,108],.str [],.al,bc 5845 0 0 2 1] 2 90
def Ug:=ba 5845 [aw 0,aw 1] 0 3
def Uh:=ba 5850 [aw 4,.str [69],.str [98],.al,.al,aw 4,.str [66,111,111,108],.str [112],.al,bc 5852 0 0 1 1] 1 90
def Ui:=ba 5852 [aw 0] 0 3
def Uj:=ba 5856 [aw 0,.bool false] 0 62
def Uk:=ba 5857 [aw 0] 0 3
def C2:=ba 5859 [aw 0,bc 5856 0 0 1 2,.al,bc 5857 0 0 1 1,.al,.al,aw 0,bc 5861 0 0 1 2,.al,bc 5862 0 0 1 1,.al,.al,aw 1,bc 5865 0 0 1 2,.al,.al,.al,.al,aw 5,bc 5868 0 0 3 2,.al,.al,.al,.al,aw 10,.al,bc 5871 0 0 4 1,bc 5872 0 0 3 1,.al,.al] 4 64
def FC:=ba 5861 [aw 1,.bool false] 0 62
def Ul:=ba 5862 [aw 1] 0 3
def Um:=ba 5865 [aw 2,.bool true] 0 62
def Un:=ba 5868 [aw 0,.bool true,aw 1,.bool true,aw 2,.bool false] 0 62
def Uo:=ba 5871 [aw 3,aw 0,aw 1,aw 2] 0 3
def Up:=ba 5872 [aw 0,aw 1,aw 2] 0 3
def aei:=ba 7186 [.str [97],.al,.str [69],.str [98],.al,.str [69],.str [112],cf 18 0 0 1 1 1,.str [66,111,111,108],.str [120],.al,.str [73,110,116]] 0 99
def aej:=ba 8137 [bc 5838 2 0 3 1,bc 5859 4 0 4 6,cf 17 0 0 1 1 1,.al,bc 7186 0 0 4 3,cf 598 0 0 2 1 2,cf 599 0 0 2 1 2,bc 527 1 0 2 5,aw 0] 0 189
def aek:=ba 8395 [aw 4,.str [69],.str [97],.al,.al,aw 4,.str [66,111,111,108],.str [112],.al,bc 8397 0 0 1 1] 0 90
def ael:=ba 8397 [aw 0] 0 3
def aem:=ba 8400 [aw 0,.str [66,111,111,108],.str [],.al,.al] 0 90
def aen:=ba 8402 [cf 8395 0 0 2 5 2,bc 8400 0 0 1 5,.bool false,cf 8466 0 0 1 5 1,cf 8529 0 0 1 5 1,.bool false,cf 8577 0 0 2 5 2,bc 8582 0 0 1 5,.bool false] 2 619
def aeo:=ba 8466 [aw 4,.str [69],.str [97],.al,.al] 0 90
def aep:=ba 8529 [aw 4,.str [69],.str [98],.al,.al] 0 90
def aeq:=ba 8577 [aw 4,.str [69],.str [98],.al,.al,aw 4,.str [66,111,111,108],.str [112],.al,bc 8579 0 0 1 1] 0 90
def aer:=ba 8579 [aw 0] 0 3
def aes:=ba 8582 [aw 1,.str [66,111,111,108],.str [],.al,.al] 0 90
def aet:=ba 9600 [aw 0,aw 1,aw 2] 0 3
def Uq:=ba 10709 [aw 4,.str [69],.str [97],.al,.al,aw 4,.str [66,111,111,108],.str [112],.al,bc 10711 0 0 1 1] 1 90
def Ur:=ba 10711 [aw 0] 0 3
def Us:=ba 10714 [bc 10709 1 0 2 5,bc 10717 2 0 3 5,bc 10726 1 0 2 5] 2 52
def Ut:=ba 10717 [aw 4,.str [69],.str [97],.al,.al,aw 4,.str [69],.str [98],.al,.al,aw 11,.str [66,111,111,108],.str [],.al,bc 10721 0 0 2 1] 2 90
def Uu:=ba 10721 [aw 0,aw 1] 0 3
def Uv:=ba 10726 [aw 4,.str [69],.str [98],.al,.al,aw 4,.str [66,111,111,108],.str [112],.al,bc 10728 0 0 1 1] 1 90
def Uw:=ba 10728 [aw 0] 0 3
def Ux:=ba 10732 [aw 0,.bool false] 0 62
def Uy:=ba 10733 [aw 0] 0 3
def Uz:P×O:=((gQ 10735),.cells [aw 0,bc 10732 0 0 1 2,.al,bc 10733 0 0 1 1,.al,.al,aw 0,bc 10737 0 0 1 2,.al,bc 10738 0 0 1 1,.al,.al,aw 1,bc 10741 0 0 1 2,.al,.al,.al,.al,aw 5,cf 10751 0 0 2 2 2,.al,.al,.al,.al,aw 10,.al,bc 10747 0 0 4 1,bc 10748 0 0 3 1,.al,.al] 4 4 .rw 64)
def UA:=ba 10737 [aw 1,.bool false] 0 62
def UB:=ba 10738 [aw 1] 0 3
def UC:=ba 10741 [aw 2,.bool true] 0 62
def UD:=ba 10747 [aw 3,aw 0,aw 1,aw 2] 0 3
def UE:=ba 10748 [aw 0,aw 1,aw 2] 0 3
def UF:=ba 10751 [aw 0,.bool true,aw 2,.bool false] 0 62
def aeu:=ba 12069 [.str [97],.al,.str [69],.str [98],.al,.str [69],.str [112],cf 18 0 0 1 1 1,.str [66,111,111,108],.str [120],.al,.str [73,110,116]] 0 99
def aev:=ba 13021 [bc 10714 2 0 3 1,bc 10735 4 0 5 6,cf 17 0 0 1 1 1,.al,bc 12069 0 0 4 3,cf 598 0 0 2 1 2,cf 599 0 0 2 1 2,bc 527 1 0 2 5,aw 0] 0 189
def aew:P×O:=((gQ 4),.cells [.num .i64] 0 0 .ro 3)
def aex:=ba 18069 [aw 4,.str [69],.str [97],.al,.al,aw 4,.str [66,111,111,108],.str [112],.al,bc 18072 0 0 1 1,aw 4,.str [69],.str [98],.al,.al,aw 4,.str [66,111,111,108],.str [112],.al,bc 18080 0 0 1 1,aw 6,.str [66,111,111,108],.str [],.al,bc 18075 1 0 2 1] 4 90
def aey:=ba 18072 [aw 0] 0 3
def aez:=ba 18075 [aw 1,aw 3] 1 3
def aeA:=ba 18080 [aw 2] 0 3
def NU:=ba 18866 [aw 4,.str [73,110,116],.str [120],.al,.al,aw 2,.str [73,110,116],.str [51],.al,.al,aw 16,.str [66,111,111,108],.str [],.al,bc 18868 1 0 2 1] 2 90
def NV:=ba 18868 [aw 0,aw 1] 1 3
def NW:=ba 19065 [aw 4,.str [73,110,116],.str [120],.al,.al,aw 2,.str [73,110,116],.str [53],.al,.al,aw 15,.str [66,111,111,108],.str [],.al,bc 19067 1 0 2 1] 2 90
def NX:=ba 19067 [aw 0,aw 1] 1 3
def UG:=ba 19128 [bc 18866 2 0 3 5,bc 19065 2 0 3 5] 0 52
def UH:=ba 19129 [aw 0,.bool true,aw 1,.bool false] 0 62
def OW:=ba 19130 [.str [49,47,49],.str [49,47,49]] 0 9
def Wt:=ba 19131 [aw 6,cf 19129 0 0 2 2 2,.al,.al,cf 19130 0 0 2 1 2,.al] 0 64
def akb:=ba 20498 [.str [97],.al,.str [69],.str [98],.al,.str [69],.str [112],cf 18 0 0 1 1 1,.str [66,111,111,108],.str [120],.al,.str [73,110,116]] 0 99
def akc:=ba 21111 [cf 19128 0 0 2 1 2,cf 19131 0 0 1 6 1,cf 17 0 0 1 1 1,.al,bc 20498 0 0 4 3,cf 598 0 0 2 1 2,cf 599 0 0 2 1 2,bc 527 1 0 2 5,aw 0] 0 189
def akd:=ba 21312 [.str [49,47,49]] 0 9
def ake:=ba 21314 [aw 4,.str [73,110,116],.str [120],.al,.al] 0 90
def akf:=ba 21316 [cf 21314 0 0 1 5 1] 0 52
def akg:=ba 21337 [bc 21312 0 0 1 1,bc 21316 0 0 1 1,.str [45,51,47,49],aw 1,bc 21550 0 0 1 1,bc 21554 0 0 1 1,.str [53,47,49],aw 1] 1 605
def akh:=ba 21550 [.str [45,49,47,49]] 0 9
def aki:=ba 21552 [aw 4,.str [73,110,116],.str [120],.al,.al] 0 90
def akj:=ba 21554 [cf 21552 0 0 1 5 1] 0 52
def azw:fm:=[]
def azx:fm:=[pj,m9,iC,bj,a8,cc,dc,dn,dQ,fH,gX,jM,mM]
def UI:fV:=gD azw 14 [] [] 14 (.bk [.agg [cf 17 0 0 1 1 1,.al,cf 19 0 0 4 3 4],.agg [cf 598 0 0 2 1 2,cf 599 0 0 2 1 2,bc 527 1 0 2 5,aw 0],.agg [cf 600 0 0 3 1 3,cf 597 0 0 5 6 5]]) [iC,bj,a8,cc,dc,dn,dQ,fH,gX,ba 584 [aw 0,.bool false] 0 62,ba 585 [aw 0] 0 3,ba 587 [aw 1,.bool false] 0 62,ba 588 [aw 1] 0 3,ba 590 [aw 2,.bool true] 0 62,ba 594 [aw 0,.bool true,aw 1,.bool true,aw 2,.bool false] 0 62,ba 595 [aw 3,aw 0,aw 1,aw 2] 0 3,ba 596 [aw 0,aw 1,aw 2] 0 3,ba 597 [aw 0,cf 584 0 0 1 2 1,.al,cf 585 0 0 1 1 1,.al,.al,aw 0,cf 587 0 0 1 2 1,.al,cf 588 0 0 1 1 1,.al,.al,aw 1,cf 590 0 0 1 2 1,.al,.al,.al,.al,aw 5,cf 594 0 0 3 2 3,.al,.al,.al,.al,aw 10,.al,cf 595 0 0 4 1 4,cf 596 0 0 3 1 3,.al,.al] 0 64,jM,mM,ba 600 [bc 136 1 0 2 5,bc 340 2 0 3 5,bc 527 1 0 2 5] 0 52] 601
def UJ:fV:=gD azx 119 [.agg [cf 17 0 0 1 1 1,.al,cf 19 0 0 4 3 4],.agg [cf 598 0 0 2 1 2,cf 599 0 0 2 1 2,bc 527 1 0 2 5,aw 0]] [] 808 (aw 0) [] 1756
def azy:fm:=[kr,pj,m9,iC,bj,a8,cc,dc,dn,dQ,fH,gX,jM,mM,TY,TZ,T0,T1,T2,T3,T4,T5,FJ,JF,T6,T7,T8,T9,Ua,Ub]
def UK:fV:=gD azy 47 [.agg [cf 17 0 0 1 1 1,.al,cf 19 0 0 4 3 4],.agg [cf 598 0 0 2 1 2,cf 599 0 0 2 1 2,bc 527 1 0 2 5,aw 0],.agg [bc 613 2 0 3 1,bc 634 4 0 5 6]] [] 652 (.bk [.ptr (gQ 2921) 0 0 9,aw 0,aw 0]) [ad7,ad8] 2922
def azz:fm:=[ad9,JG,aea,aeb,aec,aed,aee,aef,aeg]
def UL:fV:=gD azz 679 [bc 3186 2 0 3 3,kT 678] [] 4383 (cf 4384 0 0 3 1 3) [aeh] 5489
def azA:fm:=[ad9,JG,aea,aeb,aec,aed,aee,aef,aeg]
def azB:fm:=[iC,bj,cc,dc,dn,dQ,fH,gX,jM,mM,TY,TZ,T0,T1,T2,T3,T4,T5,FJ,JF,T6,T7,T8,T9,Ua,Ub,ad7,ad8]
def azC:fm:=[JR,kr,pj,m9,iC,bj,a8,cc,dc,dn,dQ,fH,gX,jM,mM,TY,TZ,T0,T1,T2,T3,T4,T5,FJ,JF,T6,T7,T8,T9,Ua,Ub]
def azD:fm:=[kr,ba 5551 [aw 4,.str [69],.str [97],.al,.al,aw 4,.str [66,111,111,108],.str [112],.al,bc 5553 0 0 1 1] 1 90,ba 5553 [aw 0] 0 3,ba 5556 [bc 5551 1 0 2 5,bc 5559 2 0 3 5,bc 5568 1 0 2 5] 2 52,ba 5559 [aw 4,.str [69],.str [97],.al,.al,aw 4,.str [69],.str [98],.al,.al,aw 11,.str [66,111,111,108],.str [],.al,bc 5563 0 0 2 1] 2 90,ba 5563 [aw 0,aw 1] 0 3,ba 5568 [aw 4,.str [69],.str [98],.al,.al,aw 4,.str [66,111,111,108],.str [112],.al,bc 5570 0 0 1 1] 1 90,ba 5570 [aw 0] 0 3,ba 5574 [aw 0,.bool false] 0 62,ba 5575 [aw 0] 0 3,ba 5577 [aw 0,bc 5574 0 0 1 2,.al,bc 5575 0 0 1 1,.al,.al,aw 0,bc 5579 0 0 1 2,.al,bc 5580 0 0 1 1,.al,.al,aw 1,bc 5583 0 0 1 2,.al,.al,.al,.al,aw 5,bc 5586 0 0 3 2,.al,.al,.al,.al,aw 10,.al,bc 5589 0 0 4 1,bc 5590 0 0 3 1,.al,.al] 4 64,ba 5579 [aw 1,.bool false] 0 62,ba 5580 [aw 1] 0 3,ba 5583 [aw 2,.bool true] 0 62,ba 5586 [aw 0,.bool true,aw 1,.bool true,aw 2,.bool false] 0 62,ba 5589 [aw 3,aw 0,aw 1,aw 2] 0 3,ba 5590 [aw 0,aw 1,aw 2] 0 3]
def UM:fV:=gD azA 662 [bc 3186 2 0 3 3] [] 3368 (.bk [cf 4384 0 0 3 1 3,.bool true,aw 0]) [aeh] 5489
def UN:fV:=gD azB 647 [.ptr (gQ 2921) 0 0 9,aw 3] [] 2962 (aw 0) [] 5489
def UO:fV:=gD azC 15 [.agg [cf 17 0 0 1 1 1,.al,cf 19 0 0 4 3 4],.agg [cf 598 0 0 2 1 2,cf 599 0 0 2 1 2,bc 527 1 0 2 5,aw 0],.agg [bc 613 2 0 3 1,bc 634 4 0 5 6]] [] 649 (.bk [aw 0,aw 0]) [] 5547
def UP:fV:=gD azD 16 [.agg [bc 5556 2 0 3 1,bc 5577 4 0 5 6]] [] 5592 (.bk [bc 5823 1 0 2 1,aw 0]) [ba 5823 [aw 0,aw 1] 1 3] 5829
def azE:fm:=[pj,m9,iC,bj,a8,cc,dc,dn,dQ,fH,gX,jM,mM]
def UQ:fV:=gD azE 119 [.agg [cf 17 0 0 1 1 1,.al,cf 19 0 0 4 3 4],.agg [cf 598 0 0 2 1 2,cf 599 0 0 2 1 2,bc 527 1 0 2 5,aw 0]] [] 6034 (aw 0) [] 6982
def azF:fm:=[kr,pj,m9,iC,bj,a8,cc,dc,dn,dQ,fH,gX,jM,mM,Uc,Ud,Ue,Uf,Ug,Uh,Ui,Uj,Uk,C2,FC,Ul,Um,Un,Uo,Up]
def UR:fV:=gD azF 47 [.agg [cf 17 0 0 1 1 1,.al,cf 19 0 0 4 3 4],.agg [cf 598 0 0 2 1 2,cf 599 0 0 2 1 2,bc 527 1 0 2 5,aw 0],.agg [bc 5838 2 0 3 1,bc 5859 4 0 4 6]] [] 5878 (.bk [.ptr (gQ 8137) 0 0 9,aw 0,aw 0]) [aei,aej] 8138
def aBT:fm:=[aek,ael,aem,aen,aeo,aep,aeq,aer,aes]
def Wu:fV:=gD aBT 679 [bc 8402 2 0 3 3,kT 678] [] 9599 (cf 9600 0 0 3 1 3) [aet] 10705
def aBU:fm:=[aek,ael,aem,aen,aeo,aep,aeq,aer,aes]
def aBV:fm:=[iC,bj,cc,dc,dn,dQ,fH,gX,jM,mM,Uc,Ud,Ue,Uf,Ug,Uh,Ui,Uj,Uk,C2,FC,Ul,Um,Un,Uo,Up,aei,aej]
def aBW:fm:=[JR,kr,pj,m9,iC,bj,a8,cc,dc,dn,dQ,fH,gX,jM,mM,Uc,Ud,Ue,Uf,Ug,Uh,Ui,Uj,Uk,C2,FC,Ul,Um,Un,Uo,Up]
def Wv:fV:=gD aBU 662 [bc 8402 2 0 3 3] [] 8584 (.bk [cf 9600 0 0 3 1 3,.bool true,aw 0]) [aet] 10705
def Ww:fV:=gD aBV 647 [.ptr (gQ 8137) 0 0 9,aw 3] [] 8178 (aw 0) [] 10705
def Wx:fV:=gD aBW 15 [.agg [cf 17 0 0 1 1 1,.al,cf 19 0 0 4 3 4],.agg [cf 598 0 0 2 1 2,cf 599 0 0 2 1 2,bc 527 1 0 2 5,aw 0],.agg [bc 5838 2 0 3 1,bc 5859 4 0 4 6]] [] 5875 (.bk [aw 4,aw 28]) [] 10705
def aBX:fm:=[pj,m9,iC,bj,a8,cc,dc,dn,dQ,fH,gX,jM,mM]
def Wy:fV:=gD aBX 119 [.agg [cf 17 0 0 1 1 1,.al,cf 19 0 0 4 3 4],.agg [cf 598 0 0 2 1 2,cf 599 0 0 2 1 2,bc 527 1 0 2 5,aw 0]] [] 10911 (aw 0) [] 11859
def aBY:fm:=[kr,pj,m9,iC,bj,a8,cc,dc,dn,dQ,fH,gX,jM,mM,Uq,Ur,Us,Ut,Uu,Uv,Uw,Ux,Uy,Uz,UA,UB,UC,UD,UE,UF]
def Wz:fV:=gD aBY 47 [.agg [cf 17 0 0 1 1 1,.al,cf 19 0 0 4 3 4],.agg [cf 598 0 0 2 1 2,cf 599 0 0 2 1 2,bc 527 1 0 2 5,aw 0],.agg [bc 10714 2 0 3 1,bc 10735 4 0 5 6]] [] 10755 (.bk [.ptr (gQ 13021) 0 0 9,aw 0,aw 0]) [aeu,aev] 13022
def aBZ:fm:=[ba 13212 [aw 4,.str [69],.str [97],.al,.al,aw 4,.str [66,111,111,108],.str [112],.al,bc 13214 0 0 1 1] 0 90,ba 13214 [aw 0] 0 3,ba 13217 [aw 0,.str [66,111,111,108],.str [],.al,.al] 0 90,ba 13219 [cf 13212 0 0 2 5 2,bc 13217 0 0 1 5,.bool false,cf 13266 0 0 2 5 2,bc 13271 0 0 1 5,.bool false] 1 619,ba 13266 [aw 4,.str [69],.str [98],.al,.al,aw 4,.str [66,111,111,108],.str [112],.al,bc 13268 0 0 1 1] 0 90,ba 13268 [aw 0] 0 3,ba 13271 [aw 1,.str [66,111,111,108],.str [],.al,.al] 0 90]
def aB0:fm:=[iC,bj,cc,dc,dn,dQ,fH,gX,jM,mM,Uq,Ur,Us,Ut,Uu,Uv,Uw,Ux,Uy,Uz,UA,UB,UC,UD,UE,UF,aeu,aev]
def aB1:fm:=[JR,kr,pj,m9,iC,bj,a8,cc,dc,dn,dQ,fH,gX,jM,mM,Uq,Ur,Us,Ut,Uu,Uv,Uw,Ux,Uy,Uz,UA,UB,UC,UD,UE,UF]
def aB2:fm:=[kr,ba 14193 [aw 4,.str [69],.str [97],.al,.al,aw 4,.str [66,111,111,108],.str [112],.al,bc 14195 0 0 1 1] 1 90,ba 14195 [aw 0] 0 3,ba 14198 [bc 14193 1 0 2 5,bc 14201 2 0 3 5,bc 14210 1 0 2 5] 2 52,ba 14201 [aw 4,.str [69],.str [97],.al,.al,aw 4,.str [69],.str [98],.al,.al,aw 11,.str [66,111,111,108],.str [],.al,bc 14205 0 0 2 1] 2 90,ba 14205 [aw 0,aw 1] 0 3,ba 14210 [aw 4,.str [69],.str [98],.al,.al,aw 4,.str [66,111,111,108],.str [112],.al,bc 14212 0 0 1 1] 1 90,ba 14212 [aw 0] 0 3,ba 14216 [aw 0,.bool false] 0 62,ba 14217 [aw 0] 0 3,ba 14219 [aw 0,bc 14216 0 0 1 2,.al,bc 14217 0 0 1 1,.al,.al,aw 0,bc 14221 0 0 1 2,.al,bc 14222 0 0 1 1,.al,.al,aw 1,bc 14225 0 0 1 2,.al,.al,.al,.al,aw 5,bc 14228 0 0 3 2,.al,.al,.al,.al,aw 10,.al,bc 14231 0 0 4 1,bc 14232 0 0 3 1,.al,.al] 4 64,ba 14221 [aw 1,.bool false] 0 62,ba 14222 [aw 1] 0 3,ba 14225 [aw 2,.bool true] 0 62,ba 14228 [aw 0,.bool true,aw 1,.bool true,aw 2,.bool false] 0 62,ba 14231 [aw 3,aw 0,aw 1,aw 2] 0 3,ba 14232 [aw 0,aw 1,aw 2] 0 3]
def WA:fV:=gD aBZ 662 [bc 13219 1 0 2 3] [] 13273 (.bk [.al,.bool false,aw 0]) [] 14189
def WB:fV:=gD aB0 647 [.ptr (gQ 13021) 0 0 9,aw 3] [] 13062 (aw 29) [] 14189
def WC:fV:=gD aB1 15 [.agg [cf 17 0 0 1 1 1,.al,cf 19 0 0 4 3 4],.agg [cf 598 0 0 2 1 2,cf 599 0 0 2 1 2,bc 527 1 0 2 5,aw 0],.agg [bc 10714 2 0 3 1,bc 10735 4 0 5 6]] [] 10752 (.bk [aw 3,aw 29]) [] 14189
def WD:fV:=gD aB2 17 [.agg [bc 14198 2 0 3 1,bc 14219 4 0 5 6]] [] 14234 (.bk [.str [97,116,111,109,32,40,112,32,97,41,10,97,116,111,109,32,40,61,32,97,32,98,41,10,97,116,111,109,32,40,112,32,98,41,10,104,121,112,32,91,43,48,93,32,97,32,48,10,104,121,112,32,91,43,49,93,32,97,32,49,10,103,111,97,108,32,91,45,50,93,10,99,111,110,103,32,91,45,48,32,45,49,32,43,50,93,10,114,101,115,111,108,118,101,32,91,93,32,112,32,51,32,48,32,49,32,50,32,97,32,48,32,49,32,50,10],aw 0]) [] 14869
def aB3:fm:=[kr,pj,m9,aew,iC,bj,a8]
def WE:fV:=gD aB3 18 [.agg [cf 17 0 0 1 1 1,.al,cf 19 0 0 4 3 4],.str [97,116,111,109,32,40,112,32,97,41,10,97,116,111,109,32,40,61,32,97,32,98,41,10,97,116,111,109,32,40,112,32,98,41,10,104,121,112,32,91,43,48,93,32,97,32,48,10,104,121,112,32,91,43,49,93,32,97,32,49,10,103,111,97,108,32,91,45,50,93,10,99,111,110,103,32,91,45,48,32,45,49,32,43,50,93,10,114,101,115,111,108,118,101,32,91,93,32,112,32,51,32,48,32,49,32,50,32,97,32,48,32,49,32,50,10]] [] 14869 (.bk [.agg [bc 15588 2 0 3 1,bc 15054 4 0 5 6],aw 0,aw 0]) [ba 15046 [aw 0,.bool false] 0 62,ba 15051 [aw 0] 0 3,ba 15054 [aw 0,bc 15046 0 0 1 2,.al,bc 15051 0 0 1 1,.al,.al,aw 0,bc 15066 0 0 1 2,.al,bc 15071 0 0 1 1,.al,.al,aw 1,bc 15085 0 0 1 2,.al,.al,.al,.al,aw 5,bc 15099 2 0 3 2,.al,.al,.al,.al,aw 10,.al,bc 15119 3 0 4 1,bc 15132 2 0 3 1,.al,.al] 4 64,ba 15066 [aw 1,.bool false] 0 62,ba 15071 [aw 1] 0 3,ba 15085 [aw 2,.bool true] 0 62,ba 15099 [aw 0,.bool true,aw 1,.bool true,aw 2,.bool false] 2 62,ba 15119 [aw 3,aw 0,aw 1,aw 2] 3 3,ba 15132 [aw 0,aw 1,aw 2] 2 3,ba 15447 [aw 4,.str [69],.str [97],.al,.al,aw 4,.str [66,111,111,108],.str [112],.al,bc 15449 0 0 1 1] 1 90,ba 15449 [aw 0] 0 3,ba 15588 [bc 15447 1 0 2 5,bc 15880 2 0 3 5,bc 16337 1 0 2 5] 2 52,ba 15880 [aw 4,.str [69],.str [97],.al,.al,aw 4,.str [69],.str [98],.al,.al,aw 11,.str [66,111,111,108],.str [],.al,bc 15882 1 0 2 1] 2 90,ba 15882 [aw 0,aw 1] 1 3,ba 16337 [aw 4,.str [69],.str [98],.al,.al,aw 4,.str [66,111,111,108],.str [112],.al,bc 16339 0 0 1 1] 1 90,ba 16339 [aw 0] 0 3] 16691
def aB4:fm:=[kr,ba 16729 [aw 4,.str [69],.str [97],.al,.al,aw 4,.str [66,111,111,108],.str [112],.al,bc 16731 0 0 1 1] 1 90,ba 16731 [aw 0] 0 3,ba 16734 [bc 16729 1 0 2 5,bc 16737 2 0 3 5,bc 16746 1 0 2 5] 2 52,ba 16737 [aw 4,.str [69],.str [97],.al,.al,aw 4,.str [69],.str [98],.al,.al,aw 11,.str [66,111,111,108],.str [],.al,bc 16741 0 0 2 1] 2 90,ba 16741 [aw 0,aw 1] 0 3,ba 16746 [aw 4,.str [69],.str [98],.al,.al,aw 4,.str [66,111,111,108],.str [112],.al,bc 16748 0 0 1 1] 1 90,ba 16748 [aw 0] 0 3,ba 16752 [aw 0,.bool false] 0 62,ba 16753 [aw 0] 0 3,ba 16755 [aw 0,bc 16752 0 0 1 2,.al,bc 16753 0 0 1 1,.al,.al,aw 0,bc 16757 0 0 1 2,.al,bc 16758 0 0 1 1,.al,.al,aw 1,bc 16761 0 0 1 2,.al,.al,.al,.al,aw 5,bc 16764 0 0 3 2,.al,.al,.al,.al,aw 10,.al,bc 16767 0 0 4 1,bc 16768 0 0 3 1,.al,.al] 4 64,ba 16757 [aw 1,.bool false] 0 62,ba 16758 [aw 1] 0 3,ba 16761 [aw 2,.bool true] 0 62,ba 16764 [aw 0,.bool true,aw 1,.bool true,aw 2,.bool false] 0 62,ba 16767 [aw 3,aw 0,aw 1,aw 2] 0 3,ba 16768 [aw 0,aw 1,aw 2] 0 3]
def aB5:fm:=[kr,ba 17302 [aw 4,.str [69],.str [97],.al,.al,aw 4,.str [66,111,111,108],.str [112],.al,bc 17304 0 0 1 1] 1 90,ba 17304 [aw 0] 0 3,ba 17307 [bc 17302 1 0 2 5,bc 17310 2 0 3 5,bc 17319 1 0 2 5] 2 52,ba 17310 [aw 4,.str [69],.str [97],.al,.al,aw 4,.str [69],.str [98],.al,.al,aw 11,.str [66,111,111,108],.str [],.al,bc 17314 0 0 2 1] 2 90,ba 17314 [aw 0,aw 1] 0 3,ba 17319 [aw 4,.str [69],.str [98],.al,.al,aw 4,.str [66,111,111,108],.str [112],.al,bc 17321 0 0 1 1] 1 90,ba 17321 [aw 0] 0 3,ba 17325 [aw 0,.bool false] 0 62,ba 17326 [aw 0] 0 3,ba 17328 [aw 0,bc 17325 0 0 1 2,.al,bc 17326 0 0 1 1,.al,.al,aw 0,bc 17330 0 0 1 2,.al,bc 17331 0 0 1 1,.al,.al,aw 1,bc 17334 0 0 1 2,.al,.al,.al,.al,aw 5,bc 17337 0 0 3 2,.al,.al,.al,.al,aw 10,.al,bc 17340 0 0 4 1,bc 17341 0 0 3 1,.al,.al] 4 64,ba 17330 [aw 1,.bool false] 0 62,ba 17331 [aw 1] 0 3,ba 17334 [aw 2,.bool true] 0 62,ba 17337 [aw 0,.bool true,aw 1,.bool true,aw 2,.bool false] 0 62,ba 17340 [aw 3,aw 0,aw 1,aw 2] 0 3,ba 17341 [aw 0,aw 1,aw 2] 0 3,ba 17343 [aw 0,aw 1,aw 5] 0 3]
def aB6:fm:=[iC,bj,a8]
def WG:fV:=gD aB4 20 [.agg [bc 16734 2 0 3 1,bc 16755 4 0 5 6]] [] 16770 (.bk [.agg [bc 17124 2 0 3 1,bc 17250 4 0 5 6],aw 0]) [ba 17120 [aw 4,.str [69],.str [97],.al,.al,aw 4,.str [66,111,111,108],.str [112],.al,bc 17122 0 0 1 1] 0 90,ba 17122 [aw 0] 0 3,ba 17124 [cf 17120 0 0 2 5 2,cf 17187 0 0 3 5 3,cf 17236 0 0 2 5 2] 2 52,ba 17187 [aw 4,.str [69],.str [97],.al,.al,aw 4,.str [69],.str [98],.al,.al,aw 11,.str [66,111,111,108],.str [],.al,bc 17189 0 0 2 1] 0 90,ba 17189 [aw 0,aw 1] 0 3,ba 17236 [aw 4,.str [69],.str [98],.al,.al,aw 4,.str [66,111,111,108],.str [112],.al,bc 17238 0 0 1 1] 0 90,ba 17238 [aw 0] 0 3,ba 17246 [aw 0,.bool false] 0 62,ba 17248 [aw 0] 0 3,ba 17250 [aw 0,bc 17246 0 0 1 2,.al,bc 17248 0 0 1 1,.al,.al,aw 0,bc 17257 0 0 1 2,.al,bc 17259 0 0 1 1,.al,.al,aw 1,bc 17267 0 0 1 2,.al,.al,.al,.al,aw 5,bc 17275 2 0 3 2,.al,.al,.al,.al,aw 10,.al,bc 17288 3 0 4 1,bc 17293 2 0 3 1,.al,.al] 4 64,ba 17257 [aw 1,.bool false] 0 62,ba 17259 [aw 1] 0 3,ba 17267 [aw 2,.bool true] 0 62,ba 17275 [aw 0,.bool true,aw 1,.bool true,aw 2,.bool false] 2 62,ba 17288 [aw 3,aw 0,aw 1,aw 2] 3 3,ba 17293 [aw 0,aw 1,aw 2] 2 3] 17297
def WH:fV:=gD aB5 21 [.agg [bc 17307 2 0 3 1,bc 17328 4 0 5 6],cf 17343 0 0 3 1 3] [] 17344 (.bk [.agg [bc 17699 2 0 3 1,bc 17825 4 0 5 6],aw 0]) [ba 17695 [aw 4,.str [69],.str [97],.al,.al,aw 4,.str [66,111,111,108],.str [112],.al,bc 17697 0 0 1 1] 0 90,ba 17697 [aw 0] 0 3,ba 17699 [cf 17695 0 0 2 5 2,cf 17762 0 0 3 5 3,cf 17811 0 0 2 5 2] 2 52,ba 17762 [aw 4,.str [69],.str [97],.al,.al,aw 4,.str [69],.str [98],.al,.al,aw 11,.str [66,111,111,108],.str [],.al,bc 17764 0 0 2 1] 0 90,ba 17764 [aw 0,aw 1] 0 3,ba 17811 [aw 4,.str [69],.str [98],.al,.al,aw 4,.str [66,111,111,108],.str [112],.al,bc 17813 0 0 1 1] 0 90,ba 17813 [aw 0] 0 3,ba 17821 [aw 0,.bool false] 0 62,ba 17823 [aw 0] 0 3,ba 17825 [aw 0,bc 17821 0 0 1 2,.al,bc 17823 0 0 1 1,.al,.al,aw 0,bc 17832 0 0 1 2,.al,bc 17834 0 0 1 1,.al,.al,aw 1,bc 17842 0 0 1 2,.al,.al,.al,.al,aw 5,bc 17850 2 0 3 2,.al,.al,.al,.al,aw 10,.al,bc 17863 3 0 4 1,bc 17868 2 0 3 1,.al,.al] 4 64,ba 17832 [aw 1,.bool false] 0 62,ba 17834 [aw 1] 0 3,ba 17842 [aw 2,.bool true] 0 62,ba 17850 [aw 0,.bool true,aw 1,.bool true,aw 2,.bool false] 2 62,ba 17863 [aw 3,aw 0,aw 1,aw 2] 3 3,ba 17868 [aw 0,aw 1,aw 2] 2 3] 17878
def WI:fV:=gD aB6 22 [.agg [cf 17 0 0 1 1 1,.al,cf 19 0 0 4 3 4],.al,.str [40,97,110,100,32,40,112,32,97,41,32,40,112,32,98,41,41]] [] 17879 (.bk [bc 18069 4 0 5 5,aw 0,aw 0]) [aex,aey,aez,aeA] 18195
def aB7:fm:=[cc,dc,dn,dQ,fH,gX,aex,aey,aez,aeA,ba 18196 [bc 18069 4 0 5 5,bc 136 1 0 2 5,bc 340 2 0 3 5,bc 527 1 0 2 5] 0 52]
def aB8:fm:=[iC,bj,a8]
def aB9:fm:=[iC,bj,a8]
def WJ:fV:=gD aB7 11 [.agg [bc 18196 0 0 4 1,.al],aw 0] [] 18198 (.bk [bc 18710 2 0 3 1,aw 0]) [ba 18703 [aw 0,.bool true,aw 1,.bool false] 0 62,ba 18710 [cf 18703 0 0 2 2 2,cf 18711 0 0 2 2 2,cf 18718 0 0 3 2 3] 2 43,ba 18711 [aw 0,.bool true,aw 3,.bool false] 0 62,ba 18718 [aw 0,.bool false,aw 1,.bool true,aw 3,.bool true] 0 62] 18730
def WK:fV:=gD aB8 22 [.agg [cf 17 0 0 1 1 1,.al,cf 19 0 0 4 3 4],.al,.str [40,60,61,32,120,32,51,41]] [] 18730 (.bk [bc 18866 2 0 3 5,aw 0,aw 0]) [NU,NV] 18929
def WL:fV:=gD aB9 22 [.agg [cf 17 0 0 1 1 1,.al,cf 19 0 0 4 3 4],.al,.str [40,60,32,120,32,53,41]] [] 18929 (.bk [bc 19065 2 0 3 5,aw 0,aw 0]) [NW,NX] 19128
def aCa:fm:=[pj,m9,iC,bj,a8,cc,dc,dn,dQ,fH,gX,jM,mM]
def aCb:fm:=[kr,pj,m9,iC,bj,a8,cc,dc,dn,dQ,fH,gX,jM,mM,NU,NV,NW,NX,UG,UH,OW,Wt]
def WM:fV:=gD aCa 119 [.agg [cf 17 0 0 1 1 1,.al,cf 19 0 0 4 3 4],.agg [cf 598 0 0 2 1 2,cf 599 0 0 2 1 2,bc 527 1 0 2 5,aw 0]] [] 19292 (aw 0) [] 20240
def WN:fV:=gD aCb 47 [.agg [cf 17 0 0 1 1 1,.al,cf 19 0 0 4 3 4],.agg [cf 598 0 0 2 1 2,cf 599 0 0 2 1 2,bc 527 1 0 2 5,aw 0],.agg [cf 19128 0 0 2 1 2,cf 19131 0 0 1 6 1]] [] 19136 (.bk [.ptr (gQ 21111) 0 0 9,aw 0,aw 0]) [akb,akc] 21112
def aCc:fm:=[akd,ake,akf,akg,akh,aki,akj]
def aCd:fm:=[OW,akd,ake,akf,akg,akh,aki,akj]
def aCe:fm:=[iC,bj,cc,dc,dn,dQ,fH,gX,jM,mM,NU,NV,NW,NX,UG,UH,OW,Wt,akb,akc]
def aCf:fm:=[JR,kr,pj,m9,iC,bj,a8,cc,dc,dn,dQ,fH,gX,jM,mM,NU,NV,NW,NX,UG,UH,OW,Wt]
def aCg:fm:=[kr,ba 23022 [aw 4,.str [69],.str [97],.al,.al,aw 4,.str [66,111,111,108],.str [112],.al,bc 23024 0 0 1 1] 1 90,ba 23024 [aw 0] 0 3,ba 23027 [bc 23022 1 0 2 5,bc 23030 2 0 3 5,bc 23039 1 0 2 5] 2 52,ba 23030 [aw 4,.str [69],.str [97],.al,.al,aw 4,.str [69],.str [98],.al,.al,aw 11,.str [66,111,111,108],.str [],.al,bc 23034 0 0 2 1] 2 90,ba 23034 [aw 0,aw 1] 0 3,ba 23039 [aw 4,.str [69],.str [98],.al,.al,aw 4,.str [66,111,111,108],.str [112],.al,bc 23041 0 0 1 1] 1 90,ba 23041 [aw 0] 0 3,ba 23045 [aw 0,.bool false] 0 62,ba 23046 [aw 0] 0 3,ba 23048 [aw 0,bc 23045 0 0 1 2,.al,bc 23046 0 0 1 1,.al,.al,aw 0,bc 23050 0 0 1 2,.al,bc 23051 0 0 1 1,.al,.al,aw 1,bc 23054 0 0 1 2,.al,.al,.al,.al,aw 5,bc 23057 0 0 3 2,.al,.al,.al,.al,aw 10,.al,bc 23060 0 0 4 1,bc 23061 0 0 3 1,.al,.al] 4 64,ba 23050 [aw 1,.bool false] 0 62,ba 23051 [aw 1] 0 3,ba 23054 [aw 2,.bool true] 0 62,ba 23057 [aw 0,.bool true,aw 1,.bool true,aw 2,.bool false] 0 62,ba 23060 [aw 3,aw 0,aw 1,aw 2] 0 3,ba 23061 [aw 0,aw 1,aw 2] 0 3]
def WO:fV:=gD aCc 685 [bc 21337 1 0 2 4] [] 21575 (.bk [bc 22126 1 0 2 5,aw 0]) [ba 21975 [aw 1,aw 1,.kt,cf 21314 0 0 1 5 1,.str [120]] 0 676,ba 22126 [bc 21975 0 0 1 5,.int .i64 (.negSucc 2),aw 1,.kt,aw 1,bc 22527 0 0 1 5,aw 5,aw 1,.kt,aw 1] 1 681,ba 22527 [.int .i64 (.negSucc 0),aw 1,.kt,cf 21552 0 0 1 5 1,.str [120]] 0 676] 22678
def WQ:fV:=gD aCd 664 [bc 21337 1 0 2 4,cf 19130 0 0 2 1 2] [] 21575 (aw 0) [] 23018
def WR:fV:=gD aCe 648 [.ptr (gQ 21111) 0 0 9,aw 0] [] 21113 (aw 0) [] 23018
def WS:fV:=gD aCf 23 [.agg [cf 17 0 0 1 1 1,.al,cf 19 0 0 4 3 4],.agg [cf 598 0 0 2 1 2,cf 599 0 0 2 1 2,bc 527 1 0 2 5,aw 0],.agg [cf 19128 0 0 2 1 2,cf 19131 0 0 1 6 1],aw 0] [] 19133 (aw 0) [] 23018
def WT:fV:=gD aCg 8 [.agg [bc 23027 2 0 3 1,bc 23048 4 0 5 6]] [] 23063 (.bk [aw 0,aw 0]) [] 23271
def rh:fm:=[JR,kr,pj,m9,aew]
def akk:fV:=gD rh 4 [] [] 14 (.bool true) [] 23296
def aam:Prog:=iF
def aan:Prog:=iF
def aao:Prog:=(iF.with UJ)
def aap:Prog:=iF
def aaq:Prog:=(iF.with UL)
def aar:Prog:=(iF.with UM)
def aas:Prog:=((iF.with UK).with UN)
def aat:Prog:=iF
def aau:Prog:=iF
def aav:Prog:=(iF.with UQ)
def aeB:Prog:=iF
def aeC:Prog:=(iF.with Wu)
def aeD:Prog:=(iF.with Wv)
def aeE:Prog:=((iF.with UR).with Ww)
def aeF:Prog:=iF
def aeG:Prog:=(iF.with Wy)
def aeH:Prog:=iF
def aeI:Prog:=(iF.with WA)
def aeJ:Prog:=((iF.with Wz).with WB)
def aeK:Prog:=iF
def aeL:Prog:=iF
def aeM:Prog:=iF
def aeN:Prog:=iF
def aeO:Prog:=iF
def aeP:Prog:=iF
def aeQ:Prog:=iF
def aeR:Prog:=iF
def aeS:Prog:=iF
def aeT:Prog:=(iF.with WM)
def aeU:Prog:=iF
def aeV:Prog:=(iF.with WO)
def aeW:Prog:=(iF.with WQ)
def aeX:Prog:=((iF.with WN).with WR)
def aeY:Prog:=iF
def aeZ:Prog:=(((((((((((((((iF.with UI).with UO).with UP).with Wx).with WC).with WD).with WE).with WG).with WH).with WI).with WJ).with WK).with WL).with WS).with WT)
section
variable {p:Program}
def GX:V->Bool
 |.bool _|.int _ _|.str _|.num _=>true
 |.fn _ [] []=>true
 |_=>false
def plainO:O->Bool
 |.cells xs _ _ .ro _=>xs.all GX
 |_=>false
theorem bm.plain{M aT:aW}{v:V}{r:Value}(h:bm M v r)(bh:GX v=true):bm aT v r:=by
 cases h with
 |bool b=>exact .bool b
 |int k n=>exact .int k n
 |str b=>exact .str b
 |num k n=>exact .num k n
 |fn bN ah=>
  rename_i g a b hq gW;cases a with
  |cons x xs=>simp[GX]at bh
  |nil=>
   cases b with
   |cons x xs=>simp[GX]at bh
   |nil=>
    refine .fn ?_ ?_
    ·have:hq.toList=[]:=by have:=bN.length;simpa using this.symm
     rw[this];exact .nil
    ·have:gW.toList=[]:=by have:=ah.length;simpa using this.symm
     rw[this];exact .nil
 |_=>simp[GX]at bh
theorem ou.plain{M aT:aW}{xs:List V}{ty:TypeId}{b:Bool}{l:Loc}{bh:Array Obj}(c:ou p M xs .ro ty b l bh)(h:xs.all GX=true):ou p aT xs .ro ty b l bh:=by
 refine⟨fun h=>absurd rfl h,c.ext,c.own,?_⟩;obtain⟨cs,du,h1,ae,az,bo⟩:=c.cells;refine⟨cs,du,h1,ae,fun i v ai ar=>?_,fun h=>by cases h⟩;obtain⟨aL,a,b,d⟩:=az i v ai ar;exact⟨aL,a,b.plain (List.all_eq_true.1 h v (c0 ar)),d⟩
theorem aFl(wh: p.follows .mixedOrders=true){J:Prog}(bh:gm p J)(C:fV){n:Nat}(iE:C.ok J n=true)(pc:C.pre.all (fun q=>plainO q.2)=true)(wE:C.post=C.pre)(t8:C.args=[]){b:Bool}(ar:C.v=.bool b)
  (kV:∀g,g<p.globals.size->aH (gQ g)<aH C.cg) (lD:C.pre.all (fun q=>Nat.blt (aH q.1) (aH C.cg))=true) {ro:Option Nat} {h:H} {M:aW} {w:World} (aC:g0 p M) (r:Rel p M h w.heap) (au:oQ h C.pre=true):
  pC p ro C.g #[] w fun aL w'=>∃aT,Step p M h w aT h w'/\bm aT (.bool b) aL:=by
 have mQ:∀f o,(wS C.pre C.cg).get f=some o->(f,o)∈C.pre:=fun f o e=>by
  rcases Lq (l:=C.pre) (m:=.e) e with h1|⟨_,h1⟩
  ·exact h1
  ·exfalso;have:cA.get f (cA.e:cA O)=none:=by cases f<;>rfl
   rw[this]at h1;cases h1
 have Dt:∀f o,(wS C.pre C.cg).get f=some o->h.get f=some o:=fun f o e=>Hj au (mQ f o e);have ay:∀f o,(wS C.pre C.cg).get f=some o->aH f<aH C.cg:=fun f o e=>by
  have:=List.all_eq_true.1 lD _ (mQ f o e);simpa[lv]using this
 have AI:∀f o,(wS C.pre C.cg).get f=some o->plainO o=true:=fun f o e=>List.all_eq_true.1 pc _ (mQ f o e);generalize ae0:wS C.pre C.cg=av at mQ Dt ay AI;have sH:av.next=C.cg:=by rw[<-ae0];rfl
 let eS:aW:=fun f k=>if aH f<aH C.cg then M f k else none
 have qH:∀{f k l},eS f k=some l->M f k=some l/\aH f<aH C.cg:=fun{f k l} e=>by
  simp only[eS]at e;split at e
  ·rename_i ay;exact⟨e,ay⟩
  ·cases e
 have mi:∀{f k},aH f<aH C.cg->eS f k=M f k:=fun{f k} e=>by simp[eS,e]
 have Ds:∀f k,¬av.jU f k:=fun f k hw=>by
  have au:=hw.1;unfold H.dE at au;cases iv:av.get f with
  |none=>rw[iv]at au;exact au
  |some o=>
   have uW:=AI f o iv;unfold plainO at uW;split at uW
   ·exact hw.2 _ _ _ _ iv
   ·cases uW
 have ir:Rel p eS av w.heap:=by
  refine⟨fun f k l e=>?_,fun f xs aZ dead md ty dO iv h4 k i6 km=>?_,fun f o l iv U h4=>?_,fun f k l g j m a b c d bV hw=>?_,fun f xs aZ dead md ty k iv hk=>?_,fun f o k iv U hk=>?_,fun f k l j m a b ah=>r.base f k l j m (qH a).1 (qH b).1 ah,fun f aE=>?_⟩
  ·obtain⟨a,b⟩:=qH e;obtain⟨x,_,y,dO,z⟩:=r.i5 f k l a;exact⟨x,by rw[sH];exact b,y,dO,by rw[mi b];exact z⟩
  ·have ay:=ay f _ iv;have uW:=AI f _ iv;unfold plainO at uW;split at uW
   ·rename_i heq;cases heq;rw[mi ay]at h4;obtain⟨l,eB,U⟩:=r.cells f _ aZ dead .ro ty dO (Dt _ _ iv) h4 k i6 km;exact⟨l,by rw[mi ay];exact eB,U.plain uW⟩
   ·cases uW
  ·have uW:=AI f _ iv;unfold plainO at uW;split at uW
   ·simp[O.k2]at U
   ·cases uW
  ·rcases hw with hw|hw<;>exact absurd hw (Ds _ _)
  ·rw[mi (ay f _ iv)];exact r.n6 f xs aZ dead md ty k (Dt _ _ iv) hk
  ·rw[mi (ay f _ iv)];exact r.po f o k (Dt _ _ iv) U hk
  ·cases iv:av.get f with
   |none=>rfl
   |some o=>have:=ay f o iv;rw[sH]at aE;omega
 have uM:g0 p eS:=fun g oz n sU eN=>by
  obtain⟨l,a,q⟩:=aC g oz n sU eN;have ay:g<p.globals.size:=by
   rcases dz g p.globals.size with h|h
   ·exact h
   ·rw[vd h]at sU;cases sU
  exact⟨l,by rw[mi (kV g ay)];exact a,q⟩
 unfold fV.ok fV.fits at iE;split at iE
 ·rename_i v1 aE d0;simp only[dJ]at iE;obtain⟨⟨⟨fZ,_⟩,_⟩,_⟩:=iE;rw[t8,ae0]at d0;have a7:v1=.bool b:=by rw[V.zQ fZ,ar]
  subst a7;obtain⟨cg,b5,bj,a8⟩:=QA bh (P5 wh bh n n (a1 _)) (ro:=ro) (dV:=#[]) .nil uM ir d0
  have fin:∀aL w',(∃aT,Step p eS av w aT aE w'/\bm aT (.bool b) aL) ->∃aT,Step p M h w aT h w'/\bm aT (.bool b) aL:=fun aL w' ⟨aT,st,kF⟩=>by
   have hold:∀b,b<w.heap.size->w'.heap[b]?=w.heap[b]?:=fun b ah=>st.s8 b ah fun f k l hw _=>absurd hw (Ds f k);refine⟨M,⟨r.congr st.size fun f k l _ e=>hold _ (r.lt e),aW.le_refl M,a1 _,st.size,fun f k l e bA=>(by rw[bA]at e;cases e),fun b ah _=>hold b ah,fun f k l a e=>.inr ⟨f,k,l,a,e,rfl⟩,fun f k l a e=>.inr ⟨f,k,l,a,e,rfl⟩,fun _ _ _=>rfl,st.os,st.out,st.tape,fun f k l e bA=>(by rw[bA]at e;cases e),fun _ _ e=>e⟩,?_⟩;cases kF;exact .bool b
  refine⟨cg,b5,bj,?_⟩;cases cg<;>simp only at a8⊢<;>first|exact a8.elim|skip
  ·exact fin _ _ a8
  ·exact a8.mono fun e w' ⟨aL,a,b⟩=>⟨aL,a,fin _ _ b⟩
 ·cases iE
end
section
open Go.Proofs Go.RowKit Go.Sort Go.Shelf
variable {p:Program}{M:aW}
def my(x:b1):List Value:=[.int .i64 x.1,.bool x.2]
theorem Zv{l:List b1}{j:Nat}(a5:j<l.length*2):∃v,(k1 l)[j]?=some v/\v.leaf=true/\(∀M,bm M v (flatK my 2 l.toArray)[j]!)/\∀M aL,bm M v aL->aL=(flatK my 2 l.toArray)[j]!:=by
 have aM:j/2<l.length:=by omega
 have ab:l[j/2]?=some l[j/2]:=hN aM;obtain⟨av,h1⟩:=aoR ab;have a3:(l.toArray)[j/2]! =l[j/2]:=by simp[aM]
 rw[get_flatK my 2 l.toArray j (by simpa using a5),a3];rcases Nat.mod_two_eq_zero_or_one j with e|e
 ·have:j/2*2=j:=by omega
  rw[this]at av;refine⟨_,av,rfl,?_⟩;rw[e];exact⟨fun M=>.int _ _,fun M aL h=>by cases h;rfl⟩
 ·have:j/2*2+1=j:=by omega
  rw[this]at h1;refine⟨_,h1,rfl,?_⟩;rw[e];exact⟨fun M=>.bool _,fun M aL h=>by cases h;rfl⟩
theorem aKA(M:aW)(l:List b1):dq M (k1 l) (flatK my 2 l.toArray).toList:=by
 refine dq.PA (by simp[ti]) fun i x y ab ax=>?_;have ai:i<l.length*2:=by
  rcases dz i (l.length*2)with h|h
  ·exact h
  ·rw[ei (by rw[ti];exact h)]at ab;cases ab
 obtain⟨v,h1,_,ae,_⟩:=Zv ai;rw[h1]at ab;cases ab;have:y=(flatK my 2 l.toArray)[i]!:=by
  have aA:i<(flatK my 2 l.toArray).size:=by simpa using ai
  rw[D2,Bz aA]at ax;cases ax;rw[getElem!_pos _ i aA]
 rw[this];exact ae M
theorem aLA(l:List b1):∀v∈k1 l,v.leaf=true:=fun v ar=>by
 obtain⟨j,a5,e⟩:=List.getElem_of_mem ar;obtain⟨dg,h1,ae,_⟩:=Zv (l:=l) (j:=j) (by rw[ti]at a5;exact a5);rw[hN a5,e]at h1;cases h1;exact ae
def t5(x y:b1):Int:=if x.1≠y.1 then Lib.compareInt x.1 y.1 else if x=y then 0 else if y.2 then-1 else 1
theorem LZ(x y:b1):ltOf t5 x y=cE.lt x y:=by
 obtain⟨a,b⟩:=x;obtain⟨c,d⟩:=y;unfold ltOf t5 cE.lt Lib.compareInt;by_cases h:a=c
 ·subst h;cases b<;>cases d<;>simp
 ·simp only[ne_eq,h,not_false_eq_true,qt,qw,Bool.false_and,Lc];by_cases h1:a<c
  ·simp[h1]
  ·by_cases ae:c<a<;>simp[h1,ae]
theorem azG:SWO (ltOf t5) where
 irrefl x:=by rw[LZ,cE.lt_irrefl]
 trans x y z h1 ae:=by rw[LZ]at*;exact cE.lt_trans h1 ae
 ntrans x y z h1 ae:=by
  rw[LZ]at*;cases az:cE.lt x z with
  |false=>rfl
  |true=>
   rcases cE.Ef x y with a|a|a
   ·rw[a]at h1;cases h1
   ·subst a;rw[az]at ae;cases ae
   ·have:=cE.lt_trans a az;rw[this]at ae;cases ae
theorem azH(x y:b1)(h1:ltOf t5 x y=false)(ae:ltOf t5 y x=false):x=y:=by
 rw[LZ]at*;rcases cE.Ef x y with a|a|a
 ·rw[a]at h1;cases h1
 ·exact a
 ·rw[a]at ae;cases ae
theorem aLB(F G:Array Value)(h:F.size=G.size):setMany F 0 G.toList=G:=by
 refine ext_get! (by simp[h]) fun t bp=>?_;have avg:t<F.size:=by simpa using bp
 rw[get_setMany _ _ _ t avg,bl ⟨dk _,by simp;omega⟩];have aC:t<G.size:=by omega
 simp[aC]
theorem aJw{ρ:Ren}(L:SlLaysF0.n6 p ρ)(aqj:∀w,(isAgg (ρ.t 24)).run p w=.ok true w)(aqk:∀w,(Go.sizeOf (ρ.t 24)).run p w=.ok 2 w){ES:FuncId}(eI:∀args w,(callFunc (ρ.f 6) args).run p w=.ok (.enter (ρ.f 6) args) w)
  (aql:∀args w,(callFunc ES args).run p w=.ok (.enter ES args) w) (DI:∀(x y:b1) (W:World),Calls p ES #[.agg (my x).toArray,.agg (my y).toArray] W fun e w'=>e=.returned (.int .i64 (t5 x y))/\∃q US,w'=grow (W.drewN q) US)
  {ro:Option Nat} {aF:List V} {dV:Array Value} {h aa:H} {v:V} {w:World} (ar:dq M aF dV.toList) (r:Rel p M h w.heap) (he:Ep ES aF h=some (v,aa)):
  pC p ro (ρ.f 6) dV w fun aL w'=>∃aT,Step p M h w aT aa w'/\bm aT v aL:=by
 have azI:∀{a b:List V} {g:Fn} {hp:Value},bm M (.fn g a b) hp->a=[] ->b=[] ->hp=.func g #[] #[]:=fun aE bN ah=>by
  subst bN ah;cases aE with
  |fn h1 ae=>
   rename_i hq gW;have aN:hq=#[]:=by have:=h1.length;simp at this;exact G3 this.symm
   have bd:gW=#[]:=by have:=ae.length;simp at this;exact G3 this.symm
   rw[aN,bd]
 have ak5:∀(RC:Option Addr) (cap:Nat) (RD:Value),dV=#[.slice RC 0 cap,RD] ->pC p ro (ρ.f 6) dV w fun aL w'=>∃aT,Step p M h w aT h w'/\bm aT (.bk []) aL:=fun RC cap RD e=>by
  subst e;exact QP eI ((AnyF.slices_SortFunc_none {L with} RC cap RD w).mono fun e w' ⟨h1,ae⟩=>⟨_,h1,M,by rw[ae];exact .refl r rfl rfl rfl rfl,.bk .nil⟩)
 unfold Ep at he;split at he
 ·cases he;obtain⟨aD,hp,rfl,aA,aE⟩:=A3 ar;cases aA;exact ak5 _ _ _ rfl
 ·rename_i f k off len es cap g;split at he
  case h_2=>cases he
  rename_i U;simp only[dJ]at U;obtain⟨⟨c1,c2⟩,dF⟩:=U;have c1:=dI c1;have c2:=dI c2;have dF:=iZ dF;subst c1 c2;obtain⟨aD,hp,rfl,aA,aE⟩:=A3 ar;have:=azI aE rfl rfl;subst this;cases aA with
  |ag bT au Dr hlen hk hu=>
  rename_i l rc a;split at he
  ·rename_i av;have av:=dI av;subst av;cases he;exact ak5 _ _ _ rfl
  ·rename_i av;have av:len≠0:=fun e=>by subst e;simp at av
   split at he
   case h_2=>cases he
   rename_i cs hK;split at he
   case h_2=>cases he
   rename_i bF oN;split at he
   case h_2=>cases he
   rename_i h1 hw;cases he;have aaK:=aoQ oN;subst aaK;obtain⟨xs,kJ,pf,p3⟩:=aLc hK;have kp:bF.length=len:=by
    have:=lP List.length p3;simp[ti]at this pf;omega
   have NT:range xs off (len*2)=some (k1 bF):=by rw[kJ]at hK;exact hK
   have wD:a=⟨l.bS,l.base+off,none⟩:=Dr.resolve_left (by omega);subst wD;obtain⟨c,ty,du,n7,bj,a8,cc,dc,dn,_⟩:=aof r kJ bT (by omega) NT;have avh:=(Zx r (aF:=k1 (k0 bF)) (f2:=(flatK my 2 (k0 bF).toArray).toList) bT hw (aKA M _) (aLA _));obtain⟨mm,_,avi,_⟩:=avh;have rG:(k0 bF).length=bF.length:=by simp[k0]
   have ay:l.bS<w.heap.size:=r.lt bT;have hH:HoldsK my 2 w l.bS (l.base+off) bF.toArray:=fun j a5=>by
    have Fo:j<bF.length*2:=by simpa using a5
    obtain⟨v,aB,_,_,aY⟩:=Zv Fo;obtain⟨aL,b4,eE⟩:=a8.get aB;have eg:=aY M aL eE;subst eg;refine⟨?_,avi j (by simp;omega)⟩;simp only[World.cell?,bj];have:=dc j _ b4;simpa using this
   have DP:=AnyQ.slices_SortFunc_total L 2 aqj aqk my (fun _=>rfl) (fun x v ar=>by simp[my]at ar;rcases ar with rfl|rfl<;>rfl) t5 azG g #[] l.bS (l.base+off) rc bF.toArray w aql (fun m os aM0 _ x y=>DI x y _) hH ay (by simp;omega) azH
   have eN:bF.toArray.size=len:=by simpa using kp
   rw[eN]at DP;have avj:(bF.toArray.toList.mergeSort fun x y=>!ltOf t5 y x)=k0 bF:=by
    unfold k0;simp only[LZ]
   rw[avj]at DP;refine QP eI (DP.mono fun e w' ⟨aN,n,os,bd⟩=>⟨_,aN,M,mm.trans (.below mm.rel ?_),.bk .nil⟩);have key:w.setCells l.bS (l.base+off) (flatK my 2 (k0 bF).toArray).toList=putRow id w l.bS (l.base+off) (flatK my 2 (k0 bF).toArray):=by
    have h1:=setCells_putRow w l.bS (l.base+off) (flatK my 2 (k0 bF).toArray).toList 0 (flatK my 2 bF.toArray) (by simp[rG]);rw[ud]at h1;have ae: putRow id w l.bS (l.base+off) (flatK my 2 bF.toArray)=w:=putRow_self id w l.bS (l.base+off) _ hH;rw[ae,aLB _ _ (by simp[rG])]at h1;exact h1
   rw[key,bd];refine⟨rfl,rfl,rfl,?_,fun b ah=>?_⟩
   ·show _<=(grow (putRowK my 2 (Sort.ahead w n) l.bS (l.base+off) (k0 bF).toArray) os).heap.size;rw[size_grow];show(putRow id w l.bS (l.base+off) (flatK my 2 (k0 bF).toArray)).heap.size<=_;have:(putRowK my 2 (Sort.ahead w n) l.bS (l.base+off) (k0 bF).toArray).heap.size=(putRow id w l.bS (l.base+off) (flatK my 2 (k0 bF).toArray)).heap.size:=rfl;omega
   ·show(grow (putRowK my 2 (Sort.ahead w n) l.bS (l.base+off) (k0 bF).toArray) os).heap[b]?=_;exact(heap_grow_old (w:=putRowK my 2 (Sort.ahead w n) l.bS (l.base+off) (k0 bF).toArray) _ (show b<(putRowK my 2 (Sort.ahead w n) l.bS (l.base+off) (k0 bF).toArray).heap.size from ah)).trans rfl
 ·cases he
end
end Go.ao
namespace Go.Proofs
section
open Go.Shelf Go.RowKit Go.Lib Go.Sort
theorem Tryz.order166(x y:Int×Bool)(W:World):Calls Tryz.prog 166 #[.agg #[.int .i64 x.1,.bool x.2],.agg #[.int .i64 y.1,.bool y.2]] W fun e w'=>e=.returned (.int .i64 (Go.ao.t5 x y))/\∃q US,w'=grow (W.drewN q) US:=by
 obtain⟨a,b⟩:=x;obtain⟨c,d⟩:=y;have DP:=fun cy=>AnyG.cmp_Compare_int Tryz.cmpInt a c cy;change∀cy,Calls Tryz.prog 295 _ _ _ at DP;by_cases h:a=c
 ·subst h;have ar:Go.ao.t5 (a,b) (a,d)=if b=d then 0 else if d=true then-1 else 1:=by
   unfold Go.ao.t5;cases b<;>cases d<;>simp
  rw[ar];cases b<;>cases d<;>simp only[if_true,reduceIte,reduceCtorEq]
  all_goals
   go_enter Tryz.func166,Tryz.ntmps166
   go_wp2
   go_ret
   exact⟨rfl,0,_,by rw[alloc_eq_grow,alloc_eq_grow,grow_grow];rfl⟩
 ·have ar:Go.ao.t5 (a,b) (c,d)=Lib.compareInt a c:=by
   unfold Go.ao.t5;simp[h]
  rw[ar];generalize Lib.compareInt a c=r at DP⊢
  go_enter Tryz.func166,Tryz.ntmps166
  go_wp2_with (go_at_call 295;refine(DP _).mono ?_;rintro e w' ⟨rfl,rfl⟩)
  go_ret
  exact⟨rfl,0,_,by rw[alloc_eq_grow,alloc_eq_grow,grow_grow];rfl⟩
end
end Go.Proofs
