/- A part of the proof that ProofResolves holds for every input of the given program: Stb. -/
import Derived.Test.YtmdaoiabedkpcaaGreatDoorQ03
import Derived.Test.YtmdaoiabedkpcaaGreatDoorQ26
set_option linter.unusedVariables false
set_option linter.unusedSimpArgs false
open Go
namespace Go.Im
open Go.Proofs Go.RowKit Go.Proofs.YtmdaoiabedkpcaaGreatDoor
set_option maxRecDepth 100000
noncomputable def gsz (g : Nat) : Nat := ((pg.globals[g]?).bind fun gl => sz pg gl.type).getD 0
noncomputable def M0 : Mp := fun f k => if k = 0 ∧ pNat f < 12 ∧ pOf (pNat f) = f then some ⟨pNat f, 0, gsz (pNat f), gsz (pNat f)⟩ else none
theorem pOf_nat : ∀ g, g < 12 → pNat (pOf g) = g := by decide
theorem M0_at {g : Nat} (hg : g < 12) : M0 (pOf g) 0 = some ⟨g, 0, gsz g, gsz g⟩ := by
  unfold M0; rw [pOf_nat g hg]; simp [hg]
theorem M0_some {f : P} {k : Nat} {l : Loc} (h : M0 f k = some l) : k = 0 ∧ ∃ g, g < 12 ∧ f = pOf g ∧ l = ⟨g, 0, gsz g, gsz g⟩ := by
  unfold M0 at h
  split at h
  · rename_i hc
    cases h
    exact ⟨hc.1, pNat f, hc.2.1, hc.2.2.symm, rfl⟩
  · cases h
/-- a row of functions, by their names -/
noncomputable def chkF (L : List (List UInt8)) (F : List Nat) : Bool := (L.zip F).all fun x => !x.1.isEmpty && (((List.range pg.funcs.size).filter fun f => (pg.funcs[f]?).any (·.name.toUTF8.data.toList == x.1)) == [x.2])
theorem funcs_row {w : World} {t e e' : TypeId} (D : List UInt8 → DataW (List UInt8)) {n : Nat} {ps rs : Array TypeId} {va : Bool} (ht : pg.underlying t = some (.array n e)) (hin : ∀ m v nm p, DataW.trod (funcToken pg) pg w 0 (fun _ => true) true m e [v] = some (D nm, p) → ∃ m' p', DataW.trod (funcToken pg) pg w 0 (fun _ => true) true m' e' [v] = some (.held nm, p')) (he : pg.underlying e' = some (.func ps rs va)) (hc : pg.cellsOf e = 1) (hct : pg.cellsOf t = n) {L : List (List UInt8)} {F : List Nat} (hL : L.length = n) (hF : F.length = n) (hk : chkF L F = true)
    {fuel : Nat} {cs : List Value} {p : List MemPlace} (h : DataW.trod (funcToken pg) pg w 0 (fun _ => true) true fuel t cs = some (.agg (L.map D), p)) : cs = F.map fun f => .func (.func f) #[] #[] := by
  obtain ⟨xs, m, _, hx, hl, hn, hel⟩ := DataW.trod_array ht h
  rw [hct] at hl
  have hx1 : L.map D = xs.map (·.1) := by simpa using congrArg Prod.fst hx
  apply List.ext_getElem?
  intro i
  by_cases hi : i < n
  · have h1 := hel i hi
    rw [hc, Nat.mul_one] at h1
    have hci : i < cs.length := by omega
    have h2 : (cs.drop i).take 1 = [cs[i]] := by rw [List.drop_eq_getElem_cons hci]; rfl
    have hxi : i < xs.length := by omega
    rw [h2, List.getElem?_eq_getElem hxi] at h1
    have hLi : i < L.length := by omega
    have hFi : i < F.length := by omega
    have h3 : (xs[i]).1 = D L[i] := by
      have := congrArg (fun l => l[i]?) hx1
      simp only [List.getElem?_map, List.getElem?_eq_getElem hLi, List.getElem?_eq_getElem hxi, Option.map_some, Option.some.injEq] at this
      exact this.symm
    have h4 := List.all_eq_true.1 hk (L[i], F[i]) (by
      rw [List.mem_iff_getElem?]
      exact ⟨i, by rw [List.getElem?_zip_eq_some]; exact ⟨List.getElem?_eq_getElem hLi, List.getElem?_eq_getElem hFi⟩⟩)
    simp only [Bool.and_eq_true, beq_iff_eq] at h4
    obtain ⟨h5, h6⟩ := h4
    have h7 : DataW.trod (funcToken pg) pg w 0 (fun _ => true) true m e [cs[i]] = some (D L[i], (xs[i]).2) := by rw [h1, ← h3]
    obtain ⟨m', p', h7⟩ := hin _ _ _ _ h7
    generalize L[i] = nm at h5 h6 h7
    cases nm with
    | nil => simp at h5
    | cons b r =>
      have := func_of_trod he h6 h7
      rw [List.getElem?_eq_getElem hci, List.getElem?_map, List.getElem?_eq_getElem hFi, this]
      rfl
  · rw [List.getElem?_eq_none (by omega), List.getElem?_eq_none (by simp; omega)]
theorem in_id {w : World} {e : TypeId} : ∀ m v nm p, DataW.trod (funcToken pg) pg w 0 (fun _ => true) true m e [v] = some (DataW.held nm, p) → ∃ m' p', DataW.trod (funcToken pg) pg w 0 (fun _ => true) true m' e [v] = some (.held nm, p') := fun m _ _ p h => ⟨m, p, h⟩
theorem in_struct {w : World} {e : TypeId} {f : Field} (ht : pg.underlying e = some (.struct #[f])) (h0 : f.offset = 0) (h1 : pg.cellsOf f.type = 1) : ∀ m v nm p, DataW.trod (funcToken pg) pg w 0 (fun _ => true) true m e [v] = some (DataW.agg [.held nm], p) → ∃ m' p', DataW.trod (funcToken pg) pg w 0 (fun _ => true) true m' f.type [v] = some (.held nm, p') := fun m v nm p h => by
  obtain ⟨xs, n, _, hx, _, hn, hel⟩ := DataW.trod_struct ht h
  match xs, hn with
  | [x], _ =>
    have := hel 0 f rfl
    rw [h0, h1] at this
    have hx1 : x.1 = .held nm := by
      have := congrArg Prod.fst hx
      simp at this
      exact this.symm
    refine ⟨n, x.2, ?_⟩
    simp only [List.drop_zero, List.getElem?_cons_zero] at this
    rw [← hx1]
    exact this
theorem fns_rel (M : Mp) : ∀ (F : List Nat), VsRel M (F.map fun f => V.fn (.func f) [] []) (F.map fun f => Value.func (.func f) #[] #[])
  | [] => .nil
  | f :: F => .cons (.fn .nil .nil) (fns_rel M F)
/-- a variable's row as a read-only object -/
theorem cells_ro {M : Mp} {hp : Array Obj} {g : Nat} {c : Array Value} {ty : TypeId} {frz : Nat × Nat} {xs : List V} (hb : hp[g]? = some (.cells c ty frz)) (hn : gsz g = xs.length) (hs : xs.length ≤ c.size) (hx : ∀ (i : Nat) (v : V), xs[i]? = some v → ∃ rv, c[i]? = some rv ∧ VRel M v rv ∧ v.leaf = true) :
    CellsOk pg M xs .ro ty true ⟨g, 0, gsz g, gsz g⟩ hp :=
  ⟨fun h => absurd rfl h, by show gsz g ≤ _; omega, fun _ => hn, c, frz, hb, by show 0 + gsz g ≤ _; omega, fun i v hi hv => by rw [Nat.zero_add]; exact hx i v hv, fun h => by cases h⟩
theorem row_rel {M : Mp} {hp : Array Obj} {g : Nat} {c : Array Value} {ty : TypeId} {frz : Nat × Nat} {xs : List V} (hb : hp[g]? = some (.cells c ty frz)) (hn : gsz g = xs.length) (hv : VsRel M xs c.toList) (hl : xs.all V.leaf = true) : CellsOk pg M xs .ro ty true ⟨g, 0, gsz g, gsz g⟩ hp :=
  cells_ro hb hn (by have := hv.length; simp at this; omega) fun i v h => by
    obtain ⟨rv, a, b⟩ := hv.get h
    exact ⟨rv, by simpa using a, b, List.all_eq_true.1 hl v (List.mem_of_getElem? h)⟩
theorem var_row {w : World} {n : String} {g : Nat} {cs : Array Value} (hg : pg.globalNamed n = some g) (h : w.var? pg n = some cs) : ∃ ty frz, w.heap[g]? = some (.cells cs ty frz) := by
  simp only [World.var?, hg, Option.bind_some] at h
  split at h
  · rename_i c ty frz hc; cases h; exact ⟨ty, frz, hc⟩
  · cases h
theorem row_at {w : World} (h : w.ShapedOpen pg) {g : Nat} {t : TypeId} (hg : g < pg.globals.size) (h0 : ((((begin pg (fun _ _ => 0) default).world.heap[g]?).bind Obj.row?).map (·.2)) = some t) : ∃ cs, w.heap[g]? = some (.cells cs t) := by
  rw [Option.map_eq_some_iff] at h0
  obtain ⟨⟨zero, t'⟩, h1, rfl⟩ := h0
  obtain ⟨cs, a, _⟩ := h.1 g zero t' hg h1
  exact ⟨cs, a⟩
theorem w0 : ((((begin pg (fun _ _ => 0) default).world.heap[0]?).bind Obj.row?).map (·.2)) = some 90 := by kernel_rfl
theorem w1 : ((((begin pg (fun _ _ => 0) default).world.heap[1]?).bind Obj.row?).map (·.2)) = some 258 := by kernel_rfl
theorem w2 : ((((begin pg (fun _ _ => 0) default).world.heap[2]?).bind Obj.row?).map (·.2)) = some 305 := by kernel_rfl
theorem w3 : ((((begin pg (fun _ _ => 0) default).world.heap[3]?).bind Obj.row?).map (·.2)) = some 388 := by kernel_rfl
theorem w4 : (((begin pg (fun _ _ => 0) default).world.heap[4]?).bind Obj.row?) = some (#[.int .i64 0], 3) := by kernel_rfl
theorem gsize : pg.globals.size = 12 := by kernel_rfl
theorem gn0 : pg.globalNamed "entail/proof.conditions" = some 0 := by kernel_rfl
theorem gn1 : pg.globalNamed "entail/proof.shapes" = some 1 := by kernel_rfl
theorem gn2 : pg.globalNamed "entail/term.reserved" = some 2 := by kernel_rfl
theorem gn3 : pg.globalNamed "entail/term.shapes" = some 3 := by kernel_rfl
theorem gn11 : pg.globalNamed "math/bits.deBruijn64tab" = some 11 := by kernel_rfl
theorem gt0 : (pg.globals[0]?).map (·.type) = some 90 := by kernel_rfl
theorem gt1 : (pg.globals[1]?).map (·.type) = some 258 := by kernel_rfl
theorem gt2 : (pg.globals[2]?).map (·.type) = some 305 := by kernel_rfl
theorem gt3 : (pg.globals[3]?).map (·.type) = some 388 := by kernel_rfl
abbrev laid : List (String × DataW Unit) := Rows.proofResolvesRow.laid
theorem maxlen {w : World} (h : w.ShapedOpen pg) : ∃ m, w.cell? ⟨4, 0, none⟩ = some (.int .i64 m) := cell_of_shapedOpen_int h (by rw [gsize]; decide) w4 rfl (by kernel_rfl) (by kernel_rfl) Go.Proofs.Tryz.underlying3
noncomputable def names (d : DataW Unit) : List (List UInt8) := match d.funcsOut with
  | .agg ds => ds.filterMap fun x => match x with | .held n => some n | .agg [.held n] => some n | _ => none
  | _ => []
end Go.Im
