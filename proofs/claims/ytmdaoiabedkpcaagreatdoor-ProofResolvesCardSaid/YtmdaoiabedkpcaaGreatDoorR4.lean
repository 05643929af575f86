/- The tied card of ProofResolves: Resolve returns the specified results and errors, for every input; nothing is assumed beside what the given card says. -/
import Derived.Test.YtmdaoiabedkpcaaGreatDoorCards
import Derived.Test.YtmdaoiabedkpcaaGreatDoorQ48
import Derived.Test.YtmdaoiabedkpcaaGreatDoorR1
import Derived.Test.YtmdaoiabedkpcaaGreatDoorR2
import Derived.Test.YtmdaoiabedkpcaaGreatDoorR3
import Derived.SevenTiedAt
open Go
namespace Go.Im.Ti
open Go.Proofs Go.Proofs.YtmdaoiabedkpcaaGreatDoor
set_option maxRecDepth 100000
open Go.Im
theorem hand_list : (lst.filter fun x => x.2.handleName?.isSome) = [("entail/proof.shapes", Rows.laid_entail_proof_shapes), ("entail/proof.conditions", Rows.laid_entail_proof_conditions)] := by kernel_rfl
theorem run_met (os : Os) (tape : Tape) : ∃ v w, runN P 125 (Machine.entering P (World.unlaid P os) tape (varsId P) ⟨#[], #[], []⟩) = .ended (.done v) w ∧ laidMetH P lst w.memory := by
  have d1 := r1 os tape
  have d2 := r2 os tape
  have d3 := r3 os tape
  cases hr : runN P 125 (Machine.entering P (World.unlaid P os) tape (varsId P) ⟨#[], #[], []⟩) with
  | next m => rw [hr] at d1; cases d1
  | ended o w =>
    cases o with
    | done v =>
      rw [hr] at d2 d3
      simp only [Option.bind_eq_some_iff] at d2
      obtain ⟨x, hx, d2⟩ := d2
      refine ⟨v, w, rfl, laidMetH_iff.2 ⟨?_, ?_⟩⟩
      · split at d2
        · rename_i hb
          simp only [Bool.and_eq_true] at hb
          have e1 := Option.some.inj d2
          exact laidMet_of_run (ps := x.2) 8 (by rw [hx, ← e1]) (decide_eq_true (nodupBits_sound hb.1).1) hb.2
        · cases d2
      · have h0 := congrArg Prod.fst d3
        have h1 := congrArg Prod.snd d3
        have v0 : w.memory.var? P "entail/proof.conditions" = some (F0.map fun f => Value.func (.func f) #[] #[]).toArray := by
          simp only [World.var?, gn0, Option.bind_some]
          simp only at h0
          rw [h0]; rfl
        have v1 : w.memory.var? P "entail/proof.shapes" = some (F1.map fun f => Value.func (.func f) #[] #[]).toArray := by
          simp only [World.var?, gn1, Option.bind_some]
          simp only at h1
          rw [h1]; rfl
        rw [hand_list]
        intro y hy
        simp only [List.mem_cons, List.not_mem_nil, or_false] at hy
        rcases hy with rfl | rfl
        · show funcsAt pg _ "entail/proof.shapes" (inT Rows.laid_entail_proof_shapes)
          refine ⟨1, 258, _, 8, [], gn1, gt1, v1, ?_⟩
          rw [fo1, ← toks chk1 (by kernel_rfl) 97, List.map_map]
          exact trod258 _ _
        · show funcsAt pg _ "entail/proof.conditions" (inT Rows.laid_entail_proof_conditions)
          refine ⟨0, 90, _, 8, [], gn0, gt0, v0, ?_⟩
          rw [fo0, ← toks chk0 (by kernel_rfl) 89, List.map_map]
          exact trod90 _ _
    | _ => rw [hr] at d1; cases d1
theorem seatTie : P.laidByTextLater lst kds true := by
  have h := hn
  unfold varsNamedLaterB at h
  rw [hv, hc] at h
  simp only [] at h
  rw [hs] at h
  simp only [Bool.and_eq_true] at h
  refine ⟨⟨hw, hw', hroot, hk⟩, varsId P, code, stored, varsId_spec hg, by rw [hv]; exact hc, ⟨hs, h.1.1, by rw [hv]; exact h.1.2⟩, h.2, fun os tape _ => ?_⟩
  obtain ⟨v, w, a, b⟩ := run_met os tape
  exact ⟨125, v, w, a, b⟩
theorem row_tie : Rows.proofResolvesRow.laidByTextAt .later Tryz.pinned [.data, .data, .data, .data, .sentinel, .sentinel, .widerDeep, .data, .funcs, .funcs, .pinned] true :=
  OpenClaim.laidByTextAt_pinned rfl rfl seatTie rfl rfl rfl rfl (fun y hy _e => by
    simp only [Rows.proofResolvesRow, List.zip_cons_cons, List.zip_nil_right, List.mem_cons, List.mem_nil_iff, or_false] at hy
    rcases hy with rfl | rfl | rfl | rfl | rfl | rfl | rfl | rfl | rfl | rfl | rfl
    · cases _e
    · cases _e
    · cases _e
    · cases _e
    · cases _e
    · cases _e
    · cases _e
    · cases _e
    · cases _e
    · cases _e
    · exact ⟨pin1, by kernel_rfl⟩) fits1
end Go.Im.Ti
namespace Go.Proofs.YtmdaoiabedkpcaaGreatDoor
open Go.Im.Ti
/-- **the tied card: Resolve returns the specified results and errors.** -/
theorem proofResolvesCard_holds : Rows.ProofResolvesCardSaid :=
  Claim7.holds_tied_plain_at .later [] [.data, .data, .data, .data, .sentinel, .sentinel, .widerDeep, .data, .funcs, .funcs, .pinned] true (true, "98dded0d3b6652e655a9ac0039b78adba8dcb8c6fd0c89455c28b20aa1896d60") true
    proofResolves (fun _ h => by cases h) wft (fun _ h => by cases h) row_tie rfl ⟨rfl, rfl⟩ mainIs rfl
    (fun f fn hf hfn => by
      obtain rfl : f = 3 := Option.some.inj (Go.Im.Fa.fname.symm.trans hf) |>.symm
      obtain rfl : fn = Go.Proofs.Tryz.f3 := (Option.some.inj (Go.Proofs.Tryz.func3.symm.trans hfn)).symm
      exact ⟨looks, fun j t ht => by
        rw [Go.Proofs.Tryz.params3] at ht
        have hm : t ∈ [22, 23] := by simpa using Array.mem_of_getElem? ht
        exact (show Go.Proofs.Tryz.prog.wantsStandIn t = false by simpa using List.all_eq_true.1 stand t hm)⟩)
    goes
#print axioms proofResolvesCard_holds
end Go.Proofs.YtmdaoiabedkpcaaGreatDoor
