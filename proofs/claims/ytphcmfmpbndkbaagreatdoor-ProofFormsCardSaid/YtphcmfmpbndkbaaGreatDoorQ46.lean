/- A part of the proof that ProofForms holds for every input. -/
import Derived.Handed
import Derived.LaidLaws
import Derived.Test.YtphcmfmpbndkbaaGreatDoorQ34
set_option maxRecDepth 100000
set_option linter.all false
noncomputable section
namespace Go.ao
section
open Go.Proofs Go.RowKit Go.Proofs.YtphcmfmpbndkbaaGreatDoor
theorem aFp(os:Os):(((q5 os).forCall (fun _ _=>0) ⟨#[],#[.agg #[.slice none 0 0,.slice none 0 0],.int .i64 0],[]⟩).heap.toList.drop a4.globals.size).take ((begin a4 (fun _ _=>0) default).world.heap.size-a4.globals.size)=(begin a4 (fun _ _=>0) default).world.heap.toList.drop a4.globals.size:=by kernel_rfl
theorem WW(os:Os):Input.okWideB a4 ((q5 os).forCall (fun _ _=>0) ⟨#[],#[.agg #[.slice none 0 0,.slice none 0 0],.int .i64 0],[]⟩) 3 ⟨#[],#[.agg #[.slice none 0 0,.slice none 0 0],.int .i64 0],[]⟩=true:=by kernel_rfl
theorem Xw{H:Type}{enc:TypeId×Value->H}(os:Os):Rows.proofFormsSpec.preB enc a4 Tryz.f3 [] false ((q5 os).forCall (fun _ _=>0) ⟨#[],#[.agg #[.slice none 0 0,.slice none 0 0],.int .i64 0],[]⟩).memory #[.agg #[.slice none 0 0,.slice none 0 0],.int .i64 0] 8=true:=by kernel_rfl
theorem WX{H:Type}{enc:TypeId×Value->H}(os:Os):Rows.proofFormsSpec.sizedB enc a4 Tryz.f3 false ((q5 os).forCall (fun _ _=>0) ⟨#[],#[.agg #[.slice none 0 0,.slice none 0 0],.int .i64 0],[]⟩).memory #[.agg #[.slice none 0 0,.slice none 0 0],.int .i64 0] 8=true:=by kernel_rfl
end
end Go.ao
