/- A part of the proof that ProofResolves holds for every input of the given program: Stc. -/
import Derived.Test.YtmdaoiabedkpcaaGreatDoorQ27
set_option linter.unusedVariables false
set_option linter.unusedSimpArgs false
open Go
namespace Go.Im
open Go.Proofs Go.RowKit Go.Proofs.YtmdaoiabedkpcaaGreatDoor
set_option maxRecDepth 100000
theorem funcs_obj {W : World} {M : Mp} (hl : laidMetH pg laid W) {nm : String} {g : Nat} {t e e' : TypeId} (D : List UInt8 → DataW (List UInt8)) {n : Nat} {ps rs : Array TypeId} {va : Bool} {d : DataW Unit} {L : List (List UInt8)} {F : List Nat} (mem : (nm, DataW.iface "func table" d) ∈ laid) (gn : pg.globalNamed nm = some g) (gt : (pg.globals[g]?).map (·.type) = some t)
    (ht : pg.underlying t = some (.array n e)) (hin : ∀ m v nm p, DataW.trod (funcToken pg) pg W 0 (fun _ => true) true m e [v] = some (D nm, p) → ∃ m' p', DataW.trod (funcToken pg) pg W 0 (fun _ => true) true m' e' [v] = some (.held nm, p')) (he : pg.underlying e' = some (.func ps rs va)) (hc : pg.cellsOf e = 1) (hct : pg.cellsOf t = n) (hL : L.length = n) (hF : F.length = n) (hk : chkF L F = true) (hd : d.funcsOut = .agg (L.map D)) (hsz : gsz g = n) (hrow : ∃ cs, W.heap[g]? = some (.cells cs t)) :
    CellsOk pg M (F.map fun f => V.fn (.func f) [] []) .ro t true ⟨g, 0, gsz g, gsz g⟩ W.heap := by
  obtain ⟨g', t', cs, fuel, p, a, b, c, q⟩ := hl.funcs mem
  rw [gn] at a; cases a
  rw [gt] at b; cases b
  obtain ⟨cs', hr⟩ := hrow
  obtain ⟨ty, frz, hh⟩ := var_row gn c
  rw [hr] at hh; cases hh
  rw [hd] at q
  have hcs := funcs_row D ht hin he hc hct hL hF hk q
  refine row_rel hr (by rw [hsz]; simp [hF]) ?_ ?_
  · rw [hcs]; exact fns_rel M F
  · rw [List.all_eq_true]
    intro v hv
    obtain ⟨f, _, rfl⟩ := List.mem_map.1 hv
    rfl
theorem strs_obj {W : World} {M : Mp} (hl : laidMetH pg laid W) {nm : String} {g : Nat} {t : TypeId} {d : DataW Unit} {xs : List V} (mem : (nm, d) ∈ laid) (hno : d.handleName? = none) (gn : pg.globalNamed nm = some g) (gt : (pg.globals[g]?).map (·.type) = some t)
    (hs : StrAt pg W (fun _ => ()) false t) (hd : ((txt d).map fun b => V.str (b.map UInt8.toNat)) = xs) (hsz : gsz g = xs.length) (hrow : ∃ cs, W.heap[g]? = some (.cells cs t)) :
    CellsOk pg M xs .ro t true ⟨g, 0, gsz g, gsz g⟩ W.heap := by
  obtain ⟨⟨ps, hv, _⟩, _⟩ := laidMetH_iff.1 hl
  obtain ⟨g', t', cs, fuel, p, a, b, c, q⟩ := laid_mem hv (List.mem_filter.2 ⟨mem, by rw [hno]; rfl⟩)
  rw [gn] at a; cases a
  rw [gt] at b; cases b
  obtain ⟨cs', hr⟩ := hrow
  obtain ⟨ty, frz, hh⟩ := var_row gn c
  rw [hr] at hh; cases hh
  obtain ⟨ss, h1, h2⟩ := hs _ _ _ q
  subst hd
  refine row_rel hr hsz ?_ ?_
  · rw [h1]; exact strs_rel M h2.symm
  · rw [List.all_eq_true]
    intro v hv
    obtain ⟨f, _, rfl⟩ := List.mem_map.1 hv
    rfl
theorem str9 {W : World} : StrAt pg W (fun _ => ()) false 9 := str_string Go.Proofs.Tryz.underlying9
theorem gsz0 : gsz 0 = 11 := by kernel_rfl
theorem gsz1 : gsz 1 = 11 := by kernel_rfl
theorem gsz2 : gsz 2 = 13 := by kernel_rfl
theorem gsz3 : gsz 3 = 88 := by kernel_rfl
theorem gsz4 : gsz 4 = 1 := by kernel_rfl
theorem mem0 : ("entail/proof.conditions", (Rows.laid_entail_proof_conditions : DataW Unit)) ∈ laid := List.mem_of_getElem? (i := 9) rfl
theorem mem1 : ("entail/proof.shapes", (Rows.laid_entail_proof_shapes : DataW Unit)) ∈ laid := List.mem_of_getElem? (i := 8) rfl
theorem mem2 : ("entail/term.reserved", (Rows.laid_entail_term_reserved : DataW Unit)) ∈ laid := List.mem_of_getElem? (i := 6) rfl
theorem mem3 : ("entail/term.shapes", (Rows.laid_entail_term_shapes : DataW Unit)) ∈ laid := List.mem_of_getElem? (i := 7) rfl
theorem mem11 : ("math/bits.deBruijn64tab", (Rows.laid_math_bits_deBruijn64tab : DataW Unit)) ∈ laid := List.mem_of_getElem? (i := 1) rfl
noncomputable def inT (d : DataW Unit) : DataW Unit := match d with | .iface _ d => d | d => d
def F0 : List Nat := [620, 621, 622, 623, 624, 625, 626, 627, 613, 628, 629]
def F1 : List Nat := [773, 774, 773, 775, 775, 774, 776, 774, 774, 777, 778]
theorem chk0 : chkF (names (inT Rows.laid_entail_proof_conditions)) F0 = true := by kernel_rfl
theorem chk1 : chkF (names (inT Rows.laid_entail_proof_shapes)) F1 = true := by kernel_rfl
theorem o0 {W : World} (hl : laidMetH pg laid W) (hs : W.ShapedOpen pg) : CellsOk pg M0 (F0.map fun f => V.fn (.func f) [] []) .ro 90 true ⟨0, 0, gsz 0, gsz 0⟩ W.heap :=
  funcs_obj (D := .held) (d := inT Rows.laid_entail_proof_conditions) (L := names (inT Rows.laid_entail_proof_conditions)) (F := F0) hl mem0 gn0 gt0 Go.Proofs.Tryz.underlying90 in_id Go.Proofs.Tryz.underlying89 (by kernel_rfl) (by kernel_rfl) (by kernel_rfl) rfl chk0 (by kernel_rfl) gsz0 (row_at hs (by rw [gsize]; decide) w0)
theorem o1 {W : World} (hl : laidMetH pg laid W) (hs : W.ShapedOpen pg) : CellsOk pg M0 (F1.map fun f => V.fn (.func f) [] []) .ro 258 true ⟨1, 0, gsz 1, gsz 1⟩ W.heap :=
  funcs_obj (D := fun nm => .agg [.held nm]) (d := inT Rows.laid_entail_proof_shapes) (L := names (inT Rows.laid_entail_proof_shapes)) (F := F1) hl mem1 gn1 gt1 Go.Proofs.Tryz.underlying258 (in_struct Go.Proofs.Tryz.underlying257 rfl (by kernel_rfl)) Go.Proofs.Tryz.underlying97 (by kernel_rfl) (by kernel_rfl) (by kernel_rfl) rfl chk1 (by kernel_rfl) gsz1 (row_at hs (by rw [gsize]; decide) w1)
noncomputable def S2 : List V := (txt (Rows.laid_entail_term_reserved : DataW Unit)).map fun b => V.str (b.map UInt8.toNat)
noncomputable def S3 : List V := (txt (Rows.laid_entail_term_shapes : DataW Unit)).map fun b => V.str (b.map UInt8.toNat)
theorem o2 {W : World} (hl : laidMetH pg laid W) (hs : W.ShapedOpen pg) : CellsOk pg M0 S2 .ro 305 true ⟨2, 0, gsz 2, gsz 2⟩ W.heap :=
  strs_obj hl mem2 (by kernel_rfl) gn2 gt2 (str_array Go.Proofs.Tryz.underlying305 (by kernel_rfl) str9) rfl (gsz2.trans (by kernel_rfl)) (row_at hs (by rw [gsize]; decide) w2)
theorem str387 {W : World} : StrAt pg W (fun _ => ()) false 387 := str_struct (e := 9) Go.Proofs.Tryz.underlying387 (by kernel_rfl) (fun i f h => by
  match i, h with
  | 0, h => cases h; exact ⟨rfl, by kernel_rfl⟩
  | 1, h => cases h; exact ⟨rfl, by kernel_rfl⟩
  | 2, h => cases h; exact ⟨rfl, by kernel_rfl⟩
  | 3, h => cases h; exact ⟨rfl, by kernel_rfl⟩
  | n + 4, h => simp at h) str9
theorem o3 {W : World} (hl : laidMetH pg laid W) (hs : W.ShapedOpen pg) : CellsOk pg M0 S3 .ro 388 true ⟨3, 0, gsz 3, gsz 3⟩ W.heap :=
  strs_obj hl mem3 (by kernel_rfl) gn3 gt3 (str_array Go.Proofs.Tryz.underlying388 (by kernel_rfl) str387) rfl (gsz3.trans (by kernel_rfl)) (row_at hs (by rw [gsize]; decide) w3)
theorem o4 {W : World} (hs : W.ShapedOpen pg) : CellsOk pg M0 [.num .i64] .ro 3 true ⟨4, 0, gsz 4, gsz 4⟩ W.heap := by
  obtain ⟨m, hm⟩ := maxlen hs
  obtain ⟨cs, hr⟩ := row_at hs (g := 4) (t := 3) (by rw [gsize]; decide) (by rw [w4]; rfl)
  have h0 : cs[0]? = some (.int .i64 m) := by simpa [World.cell?, hr] using hm
  refine cells_ro hr gsz4 ?_ fun i v h => ?_
  · rcases Nat.eq_zero_or_pos cs.size with h | h
    · rw [Array.getElem?_eq_none (by omega)] at h0; cases h0
    · exact h
  · match i, h with
    | 0, h => cases h; exact ⟨_, h0, .num _ _, rfl⟩
theorem u_eq : c34u = [(pOf 0, .cells (F0.map fun f => V.fn (.func f) [] []) 0 0 .ro 90), (pOf 1, .cells (F1.map fun f => V.fn (.func f) [] []) 0 0 .ro 258), (pOf 2, .cells S2 0 0 .ro 305), (pOf 3, .cells S3 0 0 .ro 388), (pOf 4, .cells [.num .i64] 0 0 .ro 3)] := by kernel_rfl
end Go.Im
