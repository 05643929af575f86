/- A part of the proof that ProofForms holds for every input. -/
import Derived.Carry
import Derived.Stop.Joined
import Derived.Test.YtphcmfmpbndkbaaGreatDoorQ33
import Derived.Test.YtphcmfmpbndkbaaGreatDoorQ35
set_option maxRecDepth 100000
set_option maxHeartbeats 4000000
set_option linter.all false
noncomputable section
namespace Go.ao
section
open Go.Proofs Go.RowKit Go.ChangeShapes Go.WideShapes Go.ChangeAt Go.Proofs.YtphcmfmpbndkbaaGreatDoor
theorem own:ownKnob a4.godebug=none:=by kernel_rfl
theorem aHM:a4.inits.idxOf? 3=none:=by kernel_rfl
theorem avu:a4.readableRec 25=true:=by kernel_rfl
theorem avv:a4.readableRec 3=true:=by kernel_rfl
theorem avw:25<a4.types.size:=Lx (by kernel_rfl)
theorem avx:3<a4.types.size:=Lx (by kernel_rfl)
theorem lifted(laidOut:laidOutB a4=true)(os:Os)(started:os.Started)(H:Type)(enc:TypeId×Value->H)(WW:Input.okWideB a4 ((q5 os).forCall (fun _ _=>0) ⟨#[],#[.agg #[.slice none 0 0,.slice none 0 0],.int .i64 0],[]⟩) 3 ⟨#[],#[.agg #[.slice none 0 0,.slice none 0 0],.int .i64 0],[]⟩=true)
  (aJG:((q5 os).forCall (fun _ _=>0) ⟨#[],#[.agg #[.slice none 0 0,.slice none 0 0],.int .i64 0],[]⟩).Shaped a4)
  (Xw:Rows.proofFormsSpec.preB enc a4 Tryz.f3 [] false ((q5 os).forCall (fun _ _=>0) ⟨#[],#[.agg #[.slice none 0 0,.slice none 0 0],.int .i64 0],[]⟩).memory #[.agg #[.slice none 0 0,.slice none 0 0],.int .i64 0] 8=true)
  (WX:Rows.proofFormsSpec.sizedB enc a4 Tryz.f3 false ((q5 os).forCall (fun _ _=>0) ⟨#[],#[.agg #[.slice none 0 0,.slice none 0 0],.int .i64 0],[]⟩).memory #[.agg #[.slice none 0 0,.slice none 0 0],.int .i64 0] 8=true):
  ReturnsInHanded {} Tryz.checked os 3 .any (fun w args=>(Rows.proofFormsSpec.pre enc a4 Tryz.f3 [] false w args/\laidMetH a4 laid w)/\sizedMet enc a4 Tryz.f3 (OpenSpec.ofChange Rows.proofFormsSpec) false w args)
   (Rows.proofFormsSpec.post enc a4 Tryz.f3 false Rows.proofFormsRow.fresh Rows.proofFormsRow.handsOn Rows.proofFormsRow.again):=by
 refine returnsInHanded_of_calls (C:=Tryz.checked) own started aHM (ChangeSpec.witness_shaped (enc:=enc) (C:=Tryz.checked) (os:=os) (X:=fun w _=>laidMetH a4 laid w) false (q5 os) #[.agg #[.slice none 0 0,.slice none 0 0],.int .i64 0] 8 (World.layVars_os _ _ _) aJG WW Xw WX (aHL os _)) ?_
 intro w tape i _ C3 _ iE mQ _;obtain⟨_,_,_,avy,az1,_,_,_,_,aCB⟩:=iE;have e:avy=Tryz.f3:=BK (az1.symm.trans Tryz.func3);subst e;obtain⟨⟨⟨ds,gs,before,hw,_⟩,avz⟩,xk⟩:=mQ;have aX:=xk.weights hw;have qI:laidMetH a4 laid (w.forCall tape i):=laidMetH.of_heap (l:=laid) (by rfl) avz;have C3:(w.forCall tape i).ShapedOpen a4:=C3;have Im:=DataW.Whole.of_heap (w':=w.forCall tape i) (by rfl) hw
 suffices aJ:Calls a4 3 i.args (w.forCall tape i) fun e cy=>∃v,e=.returned v/\Rows.proofFormsSpec.post enc a4 Tryz.f3 false Rows.proofFormsRow.fresh Rows.proofFormsRow.handsOn Rows.proofFormsRow.again (w.forCall tape i) i.args v cy by
  refine aJ.mono fun e cy ⟨v,he,bh⟩=>?_;subst he;exact ChangeSpec.post_blind bh
 have sX:∀(j:Nat) t v,Tryz.f3.params[j]?=some t->i.args[j]?=some v->∃b,Value.okWide a4 (w.forCall tape i) .any b t v:=fun j t v h1 ae=>⟨_,aCB j t v h1 ae⟩;generalize w.forCall tape i=W at C3 qI Im sX⊢;generalize i.args=args at Im sX⊢;have UW:=Im;obtain⟨p,q,avA,sz,rfl,_,_⟩:=Im;have gB:DataW.TrodAll enc a4 W 0 (fun _=>true) true Tryz.f3.params.toList args.toList ds p:=avA;rw[Tryz.params3]at gB sX;obtain⟨v0,v1,z1,d1,fy,e5,rfl,rfl,rfl,av,h1⟩:=trodAll_two gB;obtain⟨rfl,rfl⟩:=trodVars_none sz;obtain⟨aP2,rfl,_⟩:=okWide_struct Tryz.underlying25 (sX 0 25 v0 rfl rfl).choose_spec;obtain⟨iO,rfl⟩:=okWide_int Tryz.underlying3 (sX 1 3 v1 rfl rfl).choose_spec;simp only[qy]at UW;have ay:∀x∈fy++e5,x.block<W.heap.size:=fun x ab=>by simpa using UW.lt x ab
 refine(aJB qI C3 ⟨_,rfl⟩ ⟨_,rfl⟩ av).mono fun e cy ⟨he,ah⟩=>?_;subst he;exact⟨_,rfl,_,_,_,[],_,[],UW,trodAll_mk1 (shut_bool Tryz.underlying4 _),trodAll_mk2 (Below.trod laidOut avu avw av ah fun x ab=>ay x (by simp[ab])) (Below.trod laidOut avv avx h1 ah fun x ab=>ay x (by simp[ab])),rfl,ah.frame _,fun h=>by cases h⟩
end
end Go.ao
