/- A part of the proof that ProofResolves holds for every input of the given program: closed facts of the card and of the tie. -/
import Derived.Test.YtmdaoiabedkpcaaGreatDoorRows
import Derived.LaidByTextLater
import Derived.SevenTiedAt
import Derived.LaidOnce
import Derived.KernelRfl
open Go
namespace Go.Im.Ti
open Go.Proofs Go.Proofs.YtmdaoiabedkpcaaGreatDoor
set_option maxRecDepth 100000
noncomputable abbrev P : Program := Go.Proofs.Tryz.prog
abbrev lst : List (String × DataW Unit) := [("math/bits.deBruijn32tab", Rows.laid_math_bits_deBruijn32tab), ("math/bits.deBruijn64tab", Rows.laid_math_bits_deBruijn64tab), ("internal/strconv.uint64pow10", Rows.laid_internal_strconv_uint64pow10), ("unicode/utf8.acceptRanges", Rows.laid_unicode_utf8_acceptRanges), ("strconv.ErrRange", Rows.laid_strconv_ErrRange), ("strconv.ErrSyntax", Rows.laid_strconv_ErrSyntax), ("entail/term.reserved", Rows.laid_entail_term_reserved), ("entail/term.shapes", Rows.laid_entail_term_shapes), ("entail/proof.shapes", Rows.laid_entail_proof_shapes), ("entail/proof.conditions", Rows.laid_entail_proof_conditions)]
abbrev kds : List LaidKind := [.data, .data, .data, .data, .sentinel, .sentinel, .widerDeep, .data, .funcs, .funcs]
theorem wft : Rows.proofResolvesRow.wfByText (OpenSpec.ofChange Rows.proofResolvesSpec) = true := by kernel_rfl
theorem mainIs : Tryz.pinned.checked.prog.mainIs = some (true, "98dded0d3b6652e655a9ac0039b78adba8dcb8c6fd0c89455c28b20aa1896d60".toList) := by kernel_rfl
theorem looks : true = Tryz.pinned.checked.prog.looks [] := by kernel_rfl
theorem stand : ([22, 23].all fun u => !Tryz.prog.wantsStandIn u) = true := by kernel_rfl
theorem g0 : ((List.range' 0 200).all fun i => !((P.funcs[i]?).any Func.goes)) = true := by kernel_rfl
theorem g1 : ((List.range' 200 200).all fun i => !((P.funcs[i]?).any Func.goes)) = true := by kernel_rfl
theorem g2 : ((List.range' 400 200).all fun i => !((P.funcs[i]?).any Func.goes)) = true := by kernel_rfl
theorem g3 : ((List.range' 600 195).all fun i => !((P.funcs[i]?).any Func.goes)) = true := by kernel_rfl
theorem fsize : P.funcs.size = 795 := by kernel_rfl
theorem ng (i : Nat) : (P.funcs[i]?).any Func.goes = false := by
  rcases Nat.lt_or_ge i 795 with hi | hi
  · have key : ∀ a n, ((List.range' a n).all fun i => !((P.funcs[i]?).any Func.goes)) = true → a ≤ i → i < a + n → (P.funcs[i]?).any Func.goes = false := fun a n h h1 h2 => by
      have := List.all_eq_true.1 h i (by rw [List.mem_range'_1]; exact ⟨h1, h2⟩)
      simpa using this
    rcases Nat.lt_or_ge i 200 with h | h
    · exact key _ _ g0 (by omega) (by omega)
    rcases Nat.lt_or_ge i 400 with h | h
    · exact key _ _ g1 (by omega) (by omega)
    rcases Nat.lt_or_ge i 600 with h | h
    · exact key _ _ g2 (by omega) (by omega)
    · exact key _ _ g3 (by omega) (by omega)
  · rw [Array.getElem?_eq_none (by rw [fsize]; exact hi)]; rfl
theorem ngo (f : FuncId) : P.goes f = false := by
  unfold Program.goes
  have h1 : ((P.closure f).any fun g => (P.funcs[g]?).any Func.goes) = false := by
    rw [List.any_eq_false]
    intro x _
    rw [ng x]; simp
  have h2 : P.funcs.any Func.goes = false := by
    cases h : P.funcs.any Func.goes with
    | false => rfl
    | true =>
      rw [Array.any_eq_true] at h
      obtain ⟨i, hi, h⟩ := h
      have := ng i
      rw [Array.getElem?_eq_getElem hi] at this
      simp only [Option.any_some] at this
      rw [this] at h; cases h
  rw [h1, h2, Bool.and_false, Bool.or_false]
theorem goes : false = Rows.proofResolvesRow.goesBy P := by
  unfold OpenClaim.goesBy Program.goesAt Program.goesFrom
  have h1 : (P.funcNamed Rows.proofResolvesRow.func).any P.goes = false := by
    generalize P.funcNamed Rows.proofResolvesRow.func = o
    cases o with
    | none => exact Option.any_none
    | some f => rw [Option.any_some]; exact ngo f
  rw [h1, Bool.false_or]
  exact rfl
theorem hv : varsId P = 794 := by kernel_rfl
noncomputable def code : Code := (Go.Proofs.Tryz.f794.body).getD .skip
theorem hc : (P.funcs[794]?).bind (·.body) = some code := by rw [Go.Proofs.Tryz.func794]; rfl
noncomputable def stored : List Nat := (code.laysInOrder []).getD []
theorem hs : code.laysInOrder [] = some stored := by kernel_rfl
theorem dup : (stored.eraseDups.length == stored.length) = true := by kernel_rfl
theorem cla : P.callsLaidAlone 794 code = true := by kernel_rfl
theorem hn : varsNamedLaterB P (varsId P) lst = true := by
  unfold varsNamedLaterB
  rw [hv, hc]
  simp only []
  rw [hs]
  simp only []
  rw [dup, cla]
  kernel_rfl
theorem hw : P.worded (varsWordLater true) = true := by kernel_rfl
theorem hw' : P.worded (varsWordLater !true) = false := by kernel_rfl
theorem hroot : P.worded rootWordLater = true := by kernel_rfl
theorem hk : lst.map (fun x => P.kindOfLater x.1) = kds.map some := by kernel_rfl
theorem hg : (P.funcNamed "gosem.cut.vars").isSome = true := by kernel_rfl
theorem pin1 : Tryz.pinned.checked.prog.pinnedFits "unicode/utf8.first" = true := by kernel_rfl
theorem noOwnUnsafe : Tryz.pinned.checked.prog.headLifts.contains "ownunsafe" = false := by kernel_rfl
theorem fits1 : Tryz.pinned.checked.prog.listedFits (lst ++ [("unicode/utf8.first", Rows.laid_unicode_utf8_first)]) = true := by
  unfold Program.listedFits
  rw [noOwnUnsafe]
  kernel_rfl
end Go.Im.Ti
