/- A part of the proof that ProofResolves holds for every input of the given program: Wit2. -/
import Derived.Test.YtmdaoiabedkpcaaGreatDoorQ30
set_option linter.unusedVariables false
set_option linter.unusedSimpArgs false
open Go
namespace Go.Im
open Go.Proofs Go.RowKit Go.Proofs.YtmdaoiabedkpcaaGreatDoor
set_option maxRecDepth 100000
theorem utf8_inj {a b : String} (h : a.toUTF8.data.toList = b.toUTF8.data.toList) : a = b := by
  have h1 : a.toUTF8.data = b.toUTF8.data := Array.ext' h
  have h2 : a.toUTF8 = b.toUTF8 := by
    cases ha : a.toUTF8; cases hb : b.toUTF8
    rw [ha, hb] at h1
    simp only at h1
    rw [h1]
  exact String.toByteArray_inj.1 h2
theorem name_beq (a b : String) : (a == b) = (a.toUTF8.data.toList == b.toUTF8.data.toList) := by
  rw [Bool.eq_iff_iff]
  simp only [beq_iff_eq]
  exact ⟨fun h => by rw [h], utf8_inj⟩
theorem tok_chk {f : Nat} {n : List UInt8} (hk : ((List.range pg.funcs.size).filter fun i => (pg.funcs[i]?).any (·.name.toUTF8.data.toList == n)) = [f]) (t : TypeId) : funcToken pg (t, .func (.func f) #[] #[]) = n := by
  have hm : f ∈ ((List.range pg.funcs.size).filter fun i => (pg.funcs[i]?).any (·.name.toUTF8.data.toList == n)) := by rw [hk]; simp
  obtain ⟨_, h2⟩ := List.mem_filter.1 hm
  cases hfn : pg.funcs[f]? with
  | none => rw [hfn] at h2; cases h2
  | some fn =>
    rw [hfn] at h2
    have h3 : fn.name.toUTF8.data.toList = n := by simpa using h2
    have h4 : pg.funcNamed fn.name = some f := by
      unfold Program.funcNamed
      have : (fun i : Nat => (pg.funcs[i]?).any fun (g : Func) => g.name == fn.name) = fun i => (pg.funcs[i]?).any fun (g : Func) => g.name.toUTF8.data.toList == n := by
        funext i
        congr 1
        funext g
        rw [name_beq, h3]
      rw [this, hk]
    unfold funcToken
    simp only [hfn, h4, Array.isEmpty_empty, Bool.and_self, if_true, BEq.rfl]
    exact h3
theorem toks {L : List (List UInt8)} {F : List Nat} (hk : chkF L F = true) (hl : L.length = F.length) (t : TypeId) : F.map (fun f => funcToken pg (t, .func (.func f) #[] #[])) = L := by
  apply List.ext_getElem?
  intro i
  rcases Nat.lt_or_ge i F.length with hi | hi
  · have hLi : i < L.length := by omega
    have h4 := List.all_eq_true.1 hk (L[i], F[i]) (by
      rw [List.mem_iff_getElem?]
      exact ⟨i, by rw [List.getElem?_zip_eq_some]; exact ⟨List.getElem?_eq_getElem hLi, List.getElem?_eq_getElem hi⟩⟩)
    simp only [Bool.and_eq_true, beq_iff_eq] at h4
    rw [List.getElem?_map, List.getElem?_eq_getElem hi, List.getElem?_eq_getElem hLi, Option.map_some, tok_chk h4.2]
  · rw [List.getElem?_eq_none (by simpa using hi), List.getElem?_eq_none (by omega)]
theorem trod90 {X : Type} (enc : TypeId × Value → X) (w : World) : DataW.trod enc pg w 0 (fun _ => true) true 8 90 (F0.map fun f => Value.func (.func f) #[] #[]) = some (.agg (F0.map fun f => .held (enc (89, .func (.func f) #[] #[]))), []) := by kernel_rfl
theorem trod258 {X : Type} (enc : TypeId × Value → X) (w : World) : DataW.trod enc pg w 0 (fun _ => true) true 8 258 (F1.map fun f => Value.func (.func f) #[] #[]) = some (.agg (F1.map fun f => .agg [.held (enc (97, .func (.func f) #[] #[]))]), []) := by kernel_rfl
theorem var0 (os : Os) (args : Array Value) : (((wit os).forCall (fun _ _ => 0) ⟨#[], args, []⟩).memory).var? pg "entail/proof.conditions" = some (F0.map fun f => Value.func (.func f) #[] #[]).toArray := by kernel_rfl
theorem var1 (os : Os) (args : Array Value) : (((wit os).forCall (fun _ _ => 0) ⟨#[], args, []⟩).memory).var? pg "entail/proof.shapes" = some (F1.map fun f => Value.func (.func f) #[] #[]).toArray := by kernel_rfl
theorem fo0 : (inT Rows.laid_entail_proof_conditions).funcsOut = .agg ((names (inT Rows.laid_entail_proof_conditions)).map .held) := by kernel_rfl
theorem fo1 : (inT Rows.laid_entail_proof_shapes).funcsOut = .agg ((names (inT Rows.laid_entail_proof_shapes)).map fun nm => .agg [.held nm]) := by kernel_rfl
theorem hand_list : (laid.filter fun x => x.2.handleName?.isSome) = [("entail/proof.shapes", Rows.laid_entail_proof_shapes), ("entail/proof.conditions", Rows.laid_entail_proof_conditions)] := by kernel_rfl
theorem wit_met (os : Os) (args : Array Value) : laidMetH pg laid ((wit os).forCall (fun _ _ => 0) ⟨#[], args, []⟩).memory := by
  refine laidMetH_iff.2 ⟨wit_data os args, ?_⟩
  rw [hand_list]
  intro x hx
  simp only [List.mem_cons, List.not_mem_nil, or_false] at hx
  rcases hx with rfl | rfl
  · show funcsAt pg _ "entail/proof.shapes" (inT Rows.laid_entail_proof_shapes)
    refine ⟨1, 258, _, 8, [], gn1, gt1, var1 os args, ?_⟩
    rw [fo1, ← toks chk1 (by kernel_rfl) 97, List.map_map]
    exact trod258 _ _
  · show funcsAt pg _ "entail/proof.conditions" (inT Rows.laid_entail_proof_conditions)
    refine ⟨0, 90, _, 8, [], gn0, gt0, var0 os args, ?_⟩
    rw [fo0, ← toks chk0 (by kernel_rfl) 89, List.map_map]
    exact trod90 _ _
end Go.Im
