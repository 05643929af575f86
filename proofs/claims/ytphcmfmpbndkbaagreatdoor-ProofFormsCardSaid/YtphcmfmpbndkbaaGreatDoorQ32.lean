/- A part of the proof that ProofForms holds for every input. -/
import Derived.Test.YtphcmfmpbndkbaaGreatDoorQ31
set_option maxRecDepth 100000
set_option maxHeartbeats 4000000
set_option linter.all false
noncomputable section
namespace Go.ao
section
open Go.Proofs Go.RowKit Go.Proofs.YtphcmfmpbndkbaaGreatDoor
theorem aod{W:World}{M:aW}(au:laidMetH a4 laid W){eT:String}{g:Nat}{t e cD:TypeId}(D:List UInt8->DataW (List UInt8)){n:Nat}{ps aD:Array TypeId}{bg:Bool}{d:DataW Unit}{L:List (List UInt8)}{F:List Nat}(mem:(eT,DataW.iface "func table" d)∈laid)(e0:a4.globalNamed eT=some g)(gt:(a4.globals[g]?).map (·.type)=some t)
  (bp:a4.underlying t=some (.array n e)) (ev:∀m v eT p,DataW.trod (funcToken a4) a4 W 0 (fun _=>true) true m e [v]=some (D eT,p) ->∃c8 Ak,DataW.trod (funcToken a4) a4 W 0 (fun _=>true) true c8 cD [v]=some (.held eT,Ak)) (he:a4.underlying cD=some (.func ps aD bg)) (U:a4.cellsOf e=1) (JH:a4.cellsOf t=n) (vu:L.length=n) (dw:F.length=n) (hk:KF L F=true) (a3:d.funcsOut=.agg (L.map D)) (eN:ie g=n) (rU:∃cs,W.heap[g]?=some (.cells cs t)):
  ou a4 M (F.map fun f=>V.fn (.func f) [] []) .ro t true ⟨g,0,ie g,ie g⟩ W.heap:=by
 obtain⟨bR,h0,cs,fuel,p,a,b,c,q⟩:=au.funcs mem;rw[e0]at a;cases a;rw[gt]at b;cases b;obtain⟨avo,aI⟩:=rU;obtain⟨ty,du,aJ⟩:=Yu e0 c;rw[aI]at aJ;cases aJ;rw[a3]at q;have hK:=aKB D bp ev he U JH vu dw hk q;refine amD aI (by rw[eN];simp[dw]) ?_ ?_
 ·rw[hK];exact amC M F
 ·rw[zO];intro v ar;obtain⟨f,_,rfl⟩:=List.mem_map.1 ar;rfl
theorem ans{W:World}{M:aW}(au:laidMetH a4 laid W){eT:String}{g:Nat}{t:TypeId}{d:DataW Unit}{xs:List V}(mem:(eT,d)∈laid)(db:d.handleName?=none)(e0:a4.globalNamed eT=some g)(gt:(a4.globals[g]?).map (·.type)=some t)
  (aA:Bp a4 W (fun _=>()) false t) (a3:((Az d).map fun b=>V.str (b.map UInt8.toNat))=xs) (eN:ie g=xs.length) (rU:∃cs,W.heap[g]?=some (.cells cs t)):
  ou a4 M xs .ro t true ⟨g,0,ie g,ie g⟩ W.heap:=by
 obtain⟨⟨ps,ar,_⟩,_⟩:=laidMetH_iff.1 au;obtain⟨bR,h0,cs,fuel,p,a,b,c,q⟩:=YF ar (List.mem_filter.2 ⟨mem,by rw[db];rfl⟩);rw[e0]at a;cases a;rw[gt]at b;cases b;obtain⟨avo,aI⟩:=rU;obtain⟨ty,du,aJ⟩:=Yu e0 c;rw[aI]at aJ;cases aJ;obtain⟨kO,h1,ae⟩:=aA _ _ _ q;subst a3;refine amD aI eN ?_ ?_
 ·rw[h1];exact amU M ae.symm
 ·rw[zO];intro v ar;obtain⟨f,_,rfl⟩:=List.mem_map.1 ar;rfl
theorem akl{W:World}:Bp a4 W (fun _=>()) false 9:=aKS Tryz.underlying9
theorem azL:ie 0=11:=by kernel_rfl
theorem azM:ie 1=11:=by kernel_rfl
theorem azN:ie 2=13:=by kernel_rfl
theorem azO:ie 3=88:=by kernel_rfl
theorem azP:ie 4=1:=by kernel_rfl
theorem azQ:("entail/proof.conditions",(Rows.laid_entail_proof_conditions:DataW Unit))∈laid:=c0 (i:=9) rfl
theorem azR:("entail/proof.shapes",(Rows.laid_entail_proof_shapes:DataW Unit))∈laid:=c0 (i:=8) rfl
theorem azS:("entail/term.reserved",(Rows.laid_entail_term_reserved:DataW Unit))∈laid:=c0 (i:=6) rfl
theorem azT:("entail/term.shapes",(Rows.laid_entail_term_shapes:DataW Unit))∈laid:=c0 (i:=7) rfl
theorem aCt:("math/bits.deBruijn64tab",(Rows.laid_math_bits_deBruijn64tab:DataW Unit))∈laid:=c0 (i:=1) rfl
noncomputable def sS(d:DataW Unit):DataW Unit:=match d with|.iface _ d=>d|d=>d
def o9:List Nat:=[642,643,644,645,646,647,648,649,635,650,651]
def n5:List Nat:=[795,796,795,797,797,796,798,796,796,799,800]
theorem WU:KF (names (sS Rows.laid_entail_proof_conditions)) o9=true:=by kernel_rfl
theorem WV:KF (names (sS Rows.laid_entail_proof_shapes)) n5=true:=by kernel_rfl
theorem kQ{W:World}(au:laidMetH a4 laid W)(aA:W.ShapedOpen a4):ou a4 eS (o9.map fun f=>V.fn (.func f) [] []) .ro 106 true ⟨0,0,ie 0,ie 0⟩ W.heap:=
 aod (D:=.held) (d:=sS Rows.laid_entail_proof_conditions) (L:=names (sS Rows.laid_entail_proof_conditions)) (F:=o9) au azQ NY UT Tryz.underlying106 aCs Tryz.underlying105 (by kernel_rfl) (by kernel_rfl) (by kernel_rfl) rfl WU (by kernel_rfl) azL (GY aA (by rw[Bt];decide) fq)
theorem fZ{W:World}(au:laidMetH a4 laid W)(aA:W.ShapedOpen a4):ou a4 eS (n5.map fun f=>V.fn (.func f) [] []) .ro 167 true ⟨1,0,ie 1,ie 1⟩ W.heap:=
 aod (D:=fun eT=>.agg [.held eT]) (d:=sS Rows.laid_entail_proof_shapes) (L:=names (sS Rows.laid_entail_proof_shapes)) (F:=n5) au azR NZ UU Tryz.underlying167 (aKC Tryz.underlying166 rfl (by kernel_rfl)) Tryz.underlying110 (by kernel_rfl) (by kernel_rfl) (by kernel_rfl) rfl WV (by kernel_rfl) azM (GY aA (by rw[Bt];decide) b5)
noncomputable def Cr:List V:=(Az (Rows.laid_entail_term_reserved:DataW Unit)).map fun b=>V.str (b.map UInt8.toNat)
noncomputable def aay:List V:=(Az (Rows.laid_entail_term_shapes:DataW Unit)).map fun b=>V.str (b.map UInt8.toNat)
theorem dD{W:World}(au:laidMetH a4 laid W)(aA:W.ShapedOpen a4):ou a4 eS Cr .ro 340 true ⟨2,0,ie 2,ie 2⟩ W.heap:=
 ans au azS (by kernel_rfl) avk avm (anP Tryz.underlying340 (by kernel_rfl) akl) rfl (azN.trans (by kernel_rfl)) (GY aA (by rw[Bt];decide) d7)
theorem azU{W:World}:Bp a4 W (fun _=>()) false 421:=aKT (e:=9) Tryz.underlying421 (by kernel_rfl) (fun i f h=>by
 match i,h with
 |0,h=>cases h;exact⟨rfl,by kernel_rfl⟩
 |1,h=>cases h;exact⟨rfl,by kernel_rfl⟩
 |2,h=>cases h;exact⟨rfl,by kernel_rfl⟩
 |3,h=>cases h;exact⟨rfl,by kernel_rfl⟩
 |n+4,h=>simp at h) akl
theorem gx{W:World}(au:laidMetH a4 laid W)(aA:W.ShapedOpen a4):ou a4 eS aay .ro 422 true ⟨3,0,ie 3,ie 3⟩ W.heap:=
 ans au azT (by kernel_rfl) avl avn (anP Tryz.underlying422 (by kernel_rfl) azU) rfl (azO.trans (by kernel_rfl)) (GY aA (by rw[Bt];decide) jW)
theorem hT{W:World}(aA:W.ShapedOpen a4):ou a4 eS [.num .i64] .ro 3 true ⟨4,0,ie 4,ie 4⟩ W.heap:=by
 obtain⟨m,hm⟩:=aFn aA;obtain⟨cs,aI⟩:=GY aA (g:=4) (t:=3) (by rw[Bt];decide) (by rw[iq];rfl);have av:cs[0]?=some (.int .i64 m):=by simpa[World.cell?,aI]using hm
 refine anr aI azP ?_ fun i v h=>?_
 ·rcases nS cs.size with h|h
  ·rw[vd (by omega)]at av;cases av
  ·exact h
 ·match i,h with
  |0,h=>cases h;exact⟨_,av,.num _ _,rfl⟩
theorem azV:rh=[(gQ 0,.cells (o9.map fun f=>V.fn (.func f) [] []) 0 0 .ro 106),(gQ 1,.cells (n5.map fun f=>V.fn (.func f) [] []) 0 0 .ro 167),(gQ 2,.cells Cr 0 0 .ro 340),(gQ 3,.cells aay 0 0 .ro 422),(gQ 4,.cells [.num .i64] 0 0 .ro 3)]:=by kernel_rfl
end
end Go.ao
