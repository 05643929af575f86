/- A part of the proof that ProofResolves holds for every input of the given program: Lx. -/
import Derived.Carry
import Derived.Stop.Joined
import Derived.Test.YtmdaoiabedkpcaaGreatDoorQ29
import Derived.Test.YtmdaoiabedkpcaaGreatDoorQ31
set_option linter.unusedVariables false
set_option linter.unusedSimpArgs false
open Go
namespace Go.Im
open Go.Proofs Go.RowKit Go.ChangeShapes Go.WideShapes Go.ChangeAt Go.Proofs.YtmdaoiabedkpcaaGreatDoor
set_option maxRecDepth 100000
theorem own : ownKnob pg.godebug = none := by kernel_rfl
theorem noInit3 : pg.inits.idxOf? 3 = none := by kernel_rfl
theorem rd22 : pg.readableRec 22 = true := by kernel_rfl
theorem rd23 : pg.readableRec 23 = true := by kernel_rfl
theorem lt22 : 22 < pg.types.size := of_decide_eq_true (by kernel_rfl)
theorem lt23 : 23 < pg.types.size := of_decide_eq_true (by kernel_rfl)
theorem by25 : pg.bytesOf 25 = 24 := by kernel_rfl
theorem len_of {X : Type} {enc : TypeId × Value → X} {W : World} {d d' : DataW X} {p : List MemPlace} {a : Option Addr} {len cap : Nat} (hz : (DataW.weightsEach pg [22, 23] [d, d']).all (· ≤ reachBytes) = true) (h : DataW.Trod enc pg W 0 (fun _ => true) true 22 (.slice a len cap) d p) : len < 4611686018427387904 := by
  obtain ⟨n, t⟩ := h
  have t : DataW.trod enc pg W 0 (fun _ => true) true n 22 [.slice a len cap] = some (d, p) := t
  rcases DataW.trod_slice Go.Proofs.Tryz.underlying22 t with ⟨e, _⟩ | ⟨ad, l, c, elems, rest, m, _, e, hx, _, _, _, hl, _⟩
  · simp only [List.cons.injEq, Value.slice.injEq] at e
    omega
  · simp only [List.cons.injEq, Value.slice.injEq] at e
    have hd : d = .slice (elems.map (·.1)) (rest.map (·.1)) := congrArg Prod.fst hx
    have := sized_slice (P := pg) (ts := [22, 23]) (ds := [d, d']) hz (j := 0) rfl (by rw [hd]; rfl) Go.Proofs.Tryz.underlying22
    rw [by25] at this
    simp only [List.length_map] at this
    unfold reachBytes at this
    omega
theorem lifted (laidOut : laidOutB pg = true) (os : Os) (started : os.Started) (H : Type) (enc : TypeId × Value → H) (w_ok : Input.okWideB pg ((wit os).forCall (fun _ _ => 0) ⟨#[], #[.slice none 0 0, .slice none 0 0], []⟩) 3 ⟨#[], #[.slice none 0 0, .slice none 0 0], []⟩ = true)
   (w_shaped : ((wit os).forCall (fun _ _ => 0) ⟨#[], #[.slice none 0 0, .slice none 0 0], []⟩).Shaped pg)
   (w_pre : Rows.proofResolvesSpec.preB enc pg Go.Proofs.Tryz.f3 [] false ((wit os).forCall (fun _ _ => 0) ⟨#[], #[.slice none 0 0, .slice none 0 0], []⟩).memory #[.slice none 0 0, .slice none 0 0] 8 = true)
   (w_sz : Rows.proofResolvesSpec.sizedB enc pg Go.Proofs.Tryz.f3 false ((wit os).forCall (fun _ _ => 0) ⟨#[], #[.slice none 0 0, .slice none 0 0], []⟩).memory #[.slice none 0 0, .slice none 0 0] 8 = true) :
    ReturnsInHanded {} Go.Proofs.Tryz.checked os 3 .any (fun w args => (Rows.proofResolvesSpec.pre enc pg Go.Proofs.Tryz.f3 [] false w args ∧ laidMetH pg laid w) ∧ sizedMet enc pg Go.Proofs.Tryz.f3 (OpenSpec.ofChange Rows.proofResolvesSpec) false w args)
      (Rows.proofResolvesSpec.post enc pg Go.Proofs.Tryz.f3 false Rows.proofResolvesRow.fresh Rows.proofResolvesRow.handsOn Rows.proofResolvesRow.again) := by
  refine returnsInHanded_of_calls (C := Go.Proofs.Tryz.checked) own started noInit3 (ChangeSpec.witness_shaped (enc := enc) (C := Go.Proofs.Tryz.checked) (os := os) (X := fun w _ => laidMetH pg laid w) false (wit os) #[.slice none 0 0, .slice none 0 0] 8 (World.layVars_os _ _ _) w_shaped w_ok w_pre w_sz (wit_met os _)) ?_
  intro w tape i _ hsh _ hok hpre _
  obtain ⟨_, _, _, fn', hfn', _, _, _, _, hval0⟩ := hok
  have e : fn' = Go.Proofs.Tryz.f3 := Option.some.inj (hfn'.symm.trans Go.Proofs.Tryz.func3)
  subst e
  obtain ⟨⟨⟨ds, gs, before, hw, _⟩, hX0⟩, hz0⟩ := hpre
  have hz := hz0.weights hw
  have hX : laidMetH pg laid (w.forCall tape i) := laidMetH.of_heap (l := laid) (by rfl) hX0
  have hsh : (w.forCall tape i).ShapedOpen pg := hsh
  have hW := DataW.Whole.of_heap (w' := w.forCall tape i) (by rfl) hw
  suffices hh : Calls pg 3 i.args (w.forCall tape i) fun e W' => ∃ v, e = .returned v ∧ Rows.proofResolvesSpec.post enc pg Go.Proofs.Tryz.f3 false Rows.proofResolvesRow.fresh Rows.proofResolvesRow.handsOn Rows.proofResolvesRow.again (w.forCall tape i) i.args v W' by
    refine hh.mono fun e W' ⟨v, he, hp⟩ => ?_
    subst he
    exact ChangeSpec.post_blind hp
  have hval : ∀ (j : Nat) t v, Go.Proofs.Tryz.f3.params[j]? = some t → i.args[j]? = some v → ∃ b, Value.okWide pg (w.forCall tape i) .any b t v := fun j t v h1 h2 => ⟨_, hval0 j t v h1 h2⟩
  generalize w.forCall tape i = W at hsh hX hW hval ⊢
  generalize i.args = args at hW hval ⊢
  have hW' := hW
  obtain ⟨p, q, hA0, hV, rfl, _, _⟩ := hW
  have hA : DataW.TrodAll enc pg W 0 (fun _ => true) true Go.Proofs.Tryz.f3.params.toList args.toList ds p := hA0
  rw [Go.Proofs.Tryz.params3] at hA hval
  obtain ⟨v0, v1, d0, d1, p0, p1, rfl, rfl, rfl, h0, h1⟩ := trodAll_two hA
  obtain ⟨rfl, rfl⟩ := trodVars_none hV
  obtain ⟨a0, l0, c0, rfl⟩ := okWide_slice Go.Proofs.Tryz.underlying22 (hval 0 22 v0 rfl rfl).choose_spec
  obtain ⟨a1, l1, c1, rfl⟩ := okWide_slice Go.Proofs.Tryz.underlying23 (hval 1 23 v1 rfl rfl).choose_spec
  simp only [List.append_nil] at hW'
  have hz' : (DataW.weightsEach pg [22, 23] [d0, d1]).all (· ≤ reachBytes) = true := hz
  have hlt : ∀ x ∈ p0 ++ p1, x.block < W.heap.size := fun x hx => by simpa using hW'.lt x hx
  refine (law_call hX hsh ⟨_, _, _, rfl, len_of hz' h0⟩ ⟨_, _, _, rfl⟩ h0 h1).mono fun e W' ⟨he, hb⟩ => ?_
  subst he
  exact ⟨_, rfl, _, _, _, [], _, [], hW', trodAll_mk1 (shut_bool Go.Proofs.Tryz.underlying4 _), trodAll_mk2 (Below.trod laidOut rd22 lt22 h0 hb fun x hx => hlt x (by simp [hx])) (Below.trod laidOut rd23 lt23 h1 hb fun x hx => hlt x (by simp [hx])), rfl, hb.frame _, fun h => by cases h⟩
end Go.Im
