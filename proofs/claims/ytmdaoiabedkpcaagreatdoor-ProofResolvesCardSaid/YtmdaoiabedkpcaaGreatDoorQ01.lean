/- A part of the proof that ProofResolves holds for every input of the given program: ImPx, ImPy, ImPz, ImP, ImQ, ImQm, ImQr, ImK, ImL, ImLm, ImLi, ImLa, ImLb, ImLc, ImLd. -/
import Derived.Laws.BytesArg
import Derived.Lib.UnsafeStr
import Derived.Deep.AppendSrc
import Derived.Deep.Upon
import Derived.Lib.AppendZerosOnto
import Derived.Test.YtmdaoiabedkpcaaGreatDoorQ00
set_option linter.unusedVariables false
set_option linter.unusedSimpArgs false
namespace Go.Im
variable {p : Program} {M : Mp}

/-! building -/
theorem cells_rel {v : V} {r : Value} (h : VRel M v r) (hn : v.cells ≠ []) : VsRel M v.cells r.cells.toList ∧ ∀ c ∈ v.cells, c.leaf = true := by
  cases h with
  | agg hv hl => exact ⟨hv, hl⟩
  | tup _ => exact absurd rfl hn
  | unk hr =>
    refine ⟨?_, by simp [V.cells, V.leaf]⟩
    have : r.cells = #[r] := by cases r <;> first | rfl | (simp [vleaf] at hr)
    rw [this]
    exact .cons (.unk hr) .nil
  | _ =>
    refine ⟨.cons ?_ .nil, by simp [V.cells, V.leaf]⟩
    constructor <;> assumption

theorem VsRel.put {z vs z' : List V} {rz rvs : List Value} {off : Nat} (hz : VsRel M z rz) (hv : VsRel M vs rvs) (h : lput z off vs = some z') (hne : vs ≠ []) :
    ∃ rz', VsRel M z' rz' ∧ rz'.length = rz.length ∧ (∀ i, rz'[i]? = if off ≤ i ∧ i < off + rvs.length then rvs[i - off]? else rz[i]?) ∧ off + rvs.length ≤ rz.length := by
  obtain ⟨h1, h2, h3⟩ := lput_spec _ _ _ h
  have hb := h2 hne
  have hl1 := hz.length
  have hl2 := hv.length
  refine ⟨rz.take off ++ rvs ++ rz.drop (off + rvs.length), ?_, by simp; omega, fun i => ?_, by omega⟩
  · refine VsRel.of_get (by simp; omega) fun i x y hx hy => ?_
    rw [h3 i] at hx
    by_cases hi : off ≤ i ∧ i < off + vs.length
    · rw [if_pos hi] at hx
      obtain ⟨y', hy', hr⟩ := hv.get hx
      have : (rz.take off ++ rvs ++ rz.drop (off + rvs.length))[i]? = rvs[i - off]? := by
        rw [List.append_assoc, List.getElem?_append_right (by simp; omega), List.getElem?_append_left (by simp; omega)]
        simp [Nat.min_eq_left (show off ≤ rz.length by omega)]
      rw [this, hy'] at hy; cases hy; exact hr
    · rw [if_neg hi] at hx
      obtain ⟨y', hy', hr⟩ := hz.get hx
      have : (rz.take off ++ rvs ++ rz.drop (off + rvs.length))[i]? = rz[i]? := by
        by_cases hlt : i < off
        · rw [List.append_assoc, List.getElem?_append_left (by simp; omega), List.getElem?_take_of_lt hlt]
        · rw [List.getElem?_append_right (by simp; omega), List.getElem?_drop]
          congr 1
          simp; omega
      rw [this, hy'] at hy; cases hy; exact hr
  · by_cases hi : off ≤ i ∧ i < off + rvs.length
    · rw [if_pos hi, List.append_assoc, List.getElem?_append_right (by simp; omega), List.getElem?_append_left (by simp; omega)]
      simp [Nat.min_eq_left (show off ≤ rz.length by omega)]
    · rw [if_neg hi]
      by_cases hlt : i < off
      · rw [List.append_assoc, List.getElem?_append_left (by simp; omega), List.getElem?_take_of_lt hlt]
      · rw [List.getElem?_append_right (by simp; omega), List.getElem?_drop]
        congr 1
        simp; omega

theorem foldl_put (off : Nat) : ∀ (vs : List Value) (k : Nat) (cs : Array Value), off + k + vs.length ≤ cs.size →
    ((vs.zipIdx k).foldl (fun cs (x : Value × Nat) => cs.setIfInBounds (off + x.2) x.1) cs).size = cs.size ∧
    ∀ i, ((vs.zipIdx k).foldl (fun cs (x : Value × Nat) => cs.setIfInBounds (off + x.2) x.1) cs)[i]? = if off + k ≤ i ∧ i < off + k + vs.length then vs[i - (off + k)]? else cs[i]?
  | [], k, cs, _ => ⟨rfl, fun i => by rw [if_neg (by simp)]; rfl⟩
  | v :: vs, k, cs, h => by
    simp only [List.zipIdx_cons, List.foldl_cons]
    obtain ⟨h1, h2⟩ := foldl_put off vs (k + 1) (cs.setIfInBounds (off + k) v) (by rw [Array.size_setIfInBounds]; simp at h; omega)
    refine ⟨by rw [h1]; simp, fun i => ?_⟩
    rw [h2 i]
    simp at h
    by_cases hi : i = off + k
    · subst hi
      rw [if_neg (by omega), if_pos (by simp), Array.getElem?_setIfInBounds, if_pos rfl, if_pos (by omega)]
      simp
    · by_cases hi2 : off + (k + 1) ≤ i ∧ i < off + (k + 1) + vs.length
      · rw [if_pos hi2, if_pos (by simp; omega), show i - (off + k) = (i - (off + (k + 1))) + 1 by omega]; simp
      · rw [if_neg hi2, if_neg (by simp; omega), Array.getElem?_setIfInBounds_ne (by omega)]

/-- The parts of a literal, laid into its cells. -/
theorem fill_rel {N : Nat} {fr : Fr} {a : Act} (hf : FrRel M N fr a.tmps) (hg : GOk p M) {place : Nat → Option (Nat × Nat)} : ∀ (ps : List (Nat × Operand)) {qs : List (Nat × Nat × X)} {z cs : List V} {rz : Array Value},
    F2 (fun (a : Nat × Operand) (b : Nat × Nat × X) => place a.1 = some (b.1, b.2.1) ∧ cX p N a.2 = some b.2.2 ∧ b.2.1 ≠ 0) ps qs → VsRel M z rz.toList → (∀ c ∈ z, c.leaf = true) → fill fr z qs = some cs →
    ∃ rcs, Instr.fill place rz (ps.map fun x => (x.1, a.eval x.2)) = some rcs ∧ VsRel M cs rcs.toList ∧ (∀ c ∈ cs, c.leaf = true) ∧ rcs.size = rz.size
  | [], _, z, cs, rz, .nil, hz, hl, h => by
    simp only [fill, Option.some.injEq] at h; subst h
    exact ⟨rz, rfl, hz, hl, rfl⟩
  | x :: ps, _, z, cs, rz, .cons (b := b) ⟨hp, hx, hn0⟩ ht, hz, hl, h => by
    obtain ⟨off, n, X'⟩ := b
    simp only at hp hx hn0
    have hv := cX_rel hf hg hx
    simp only [fill] at h
    split at h
    · rename_i hb
      have hlen := Nat.eq_of_beq_eq_true hb
      split at h
      · rename_i z' hz'
        have hne : (X'.ev fr).cells ≠ [] := fun e => by rw [e] at hlen; exact hn0 hlen.symm
        obtain ⟨hc1, hc2⟩ := cells_rel hv hne
        obtain ⟨rz', h1, h2, h3, h4⟩ := hz.put hc1 hz' hne
        have hcl := hc1.length
        have hsz : (a.eval x.2).cells.size = n := by rw [← hlen, hcl]; simp
        have hfold := foldl_put off (a.eval x.2).cells.toList 0 rz (by simpa using h4)
        have harr : (a.eval x.2).cells.zipIdx.foldl (fun cs (c, j) => cs.setIfInBounds (off + j) c) rz = rz'.toArray := by
          apply Array.ext'
          rw [← Array.foldl_toList]
          apply List.ext_getElem?
          intro i
          have := hfold.2 i
          simp only [Nat.add_zero] at this
          rw [Array.toList_zipIdx, Array.getElem?_toList]
          rw [this, h3 i]
          simp
        have hleaf' : ∀ c ∈ z', c.leaf = true := fun c hc => by
          obtain ⟨j, hj, e⟩ := List.getElem_of_mem hc
          have h5 := (lput_spec _ _ _ hz').2.2 j
          rw [List.getElem?_eq_getElem hj, e] at h5
          split at h5
          · exact hc2 c (List.mem_of_getElem? h5.symm)
          · exact hl c (List.mem_of_getElem? h5.symm)
        obtain ⟨rcs, h6, h7, h8, h9⟩ := fill_rel hf hg (place := place) ps ht (rz := rz'.toArray) (by simpa using h1) hleaf' h
        refine ⟨rcs, ?_, h7, h8, by rw [h9]; simp [h2]⟩
        simp only [List.map_cons, Instr.fill, hp]
        rw [if_neg (by simp at h4; simp [hsz]; omega), harr]
        exact h6
      · cases h
    · cases h

theorem zeroC_rel {t : TypeId} {z : List V} (h : zeroC p t = some z) (M : Mp) : ∃ rz, VsRel M z rz.cells.toList ∧ (∀ c ∈ z, c.leaf = true) ∧ ∀ w, (zeroValue t).run p w = .ok rz w := by
  simp only [zeroC, Option.bind_eq_bind, Option.bind_eq_some_iff] at h
  obtain ⟨ti, hti, rz, hrz, l, hz, h⟩ := h
  split at h
  · rename_i hl
    cases h
    exact ⟨rz, mapM_VsRel (cval_rel M 20) _ hz, by simpa using hl, fun w => by simp [zeroValue, typeInfo, hti, hrz]⟩
  · cases h

theorem run_list_mapM {α β : Type} {g : α → Sem β} {g' : α → β} (w : World) : ∀ (l : List α), (∀ x ∈ l, (g x).run p w = .ok (g' x) w) → (l.mapM g).run p w = .ok (l.map g') w
  | [], _ => rfl
  | x :: l, h => by
    simp only [List.mapM_cons, Sem.run_bind, h x (by simp), Result.andThen_ok, run_list_mapM w l (fun y hy => h y (by simp [hy])), Sem.run_pure, List.map_cons]
theorem run_array_mapM {α β : Type} {g : α → Sem β} {g' : α → β} (w : World) (l : Array α) (h : ∀ x ∈ l.toList, (g x).run p w = .ok (g' x) w) : (l.mapM g).run p w = .ok (l.map g') w := by
  rw [Array.mapM_eq_mapM_toList, Sem.run_map, run_list_mapM w _ h, Result.andThen_ok]
  have e : (l.toList.map g').toArray = l.map g' := by apply Array.ext'; rw [Array.toList_map]
  rw [e]

theorem mapM_F2 {α β : Type} {f : α → Option β} : ∀ (l : List α) {xs : List β}, l.mapM f = some xs → F2 (fun a b => f a = some b) l xs
  | [], xs, h => by simp at h; subst h; exact .nil
  | v :: l, xs, h => by
    simp only [List.mapM_cons, Option.bind_eq_bind, Option.bind_eq_some_iff, Option.pure_def, Option.some.injEq] at h
    obtain ⟨x, hx, ys, hy, rfl⟩ := h
    exact .cons hx (mapM_F2 l hy)

/-- What is laid into the parts of a literal, as the machine has it. -/
theorem parts_map (a : Act) (ps : Array (Nat × Operand)) : (ps.map fun (i, x) => (i, a.eval x)).toList = ps.toList.map fun x => (x.1, a.eval x.2) := by simp

theorem r_build_struct {N : Nat} {fr : Fr} {a : Act} (hf : FrRel M N fr a.tmps) (hg : GOk p M) {t : TypeId} {fs : Array Field} {ps : Array (Nat × Operand)} {z : List V} {qs : List (Nat × Nat × X)} {v : V}
    (hu : p.underlying t = some (.struct fs)) (hz : zeroC p t = some z) (hall : fs.all (fun f => (sz p f.type).isSome) = true)
    (hq : (ps.toList.mapM fun (x : Nat × Operand) => do let f ← fs[x.1]?; some (f.offset, ← posSize p f.type, ← cX p N x.2)) = some qs) (h : pBuild z qs fr = some v) :
    PuOk p M v (Instr.build t (ps.map fun (i, x) => (i, a.eval x))) := by
  unfold pBuild at h
  split at h
  · rename_i cs hcs
    cases h
    obtain ⟨rz, h1, h2, h3⟩ := zeroC_rel hz M
    have hplaces : ∀ w, (fs.mapM fun f => do pure (f.offset, ← sizeOf f.type) : Sem (Array (Nat × Nat))).run p w = .ok (fs.map fun f => (f.offset, p.cellsOf f.type)) w := fun w => by
      refine run_array_mapM w fs fun f hf' => ?_
      have := Array.all_eq_true'.1 hall f (by simpa using hf')
      obtain ⟨n, hn⟩ := Option.isSome_iff_exists.1 this
      have hc : p.cellsOf f.type = n := by
        simp only [sz, Option.map_eq_some_iff] at hn
        obtain ⟨ti, hti, rfl⟩ := hn
        simp [Program.cellsOf, hti]
      simp [run_sizeOf' hn, hc]
    have hF := mapM_F2 _ hq
    have hF' : F2 (fun (a : Nat × Operand) (b : Nat × Nat × X) => (fs.map fun f => (f.offset, p.cellsOf f.type))[a.1]? = some (b.1, b.2.1) ∧ cX p N a.2 = some b.2.2 ∧ b.2.1 ≠ 0) ps.toList qs := hF.imp fun x b hb => by
      simp only [Option.bind_eq_bind, Option.bind_eq_some_iff, Option.some.injEq] at hb
      obtain ⟨f, hfx, n, hn, y, hy, rfl⟩ := hb
      obtain ⟨hs, h0⟩ := posSize_spec hn
      have hc : p.cellsOf f.type = n := by
        simp only [sz, Option.map_eq_some_iff] at hs
        obtain ⟨ti, hti, rfl⟩ := hs
        simp [Program.cellsOf, hti]
      exact ⟨by simp [hfx, hc], hy, h0⟩
    obtain ⟨rcs, h4, h5, h6, _⟩ := fill_rel hf hg ps.toList hF' h1 h2 hcs
    refine ⟨.agg rcs, .agg h5 h6, fun w => ?_⟩
    simp only [Instr.build, Sem.run_bind, h3, Result.andThen_ok, run_underlying hu, hplaces, parts_map, h4, Sem.run_pure]
  · cases h

theorem r_build_array {N : Nat} {fr : Fr} {a : Act} (hf : FrRel M N fr a.tmps) (hg : GOk p M) {t e : TypeId} {m n : Nat} {ps : Array (Nat × Operand)} {z : List V} {qs : List (Nat × Nat × X)} {v : V}
    (hu : p.underlying t = some (.array m e)) (hz : zeroC p t = some z) (hn : posSize p e = some n)
    (hq : (ps.toList.mapM fun (x : Nat × Operand) => do some (x.1 * n, n, ← cX p N x.2)) = some qs) (h : pBuild z qs fr = some v) :
    PuOk p M v (Instr.build t (ps.map fun (i, x) => (i, a.eval x))) := by
  unfold pBuild at h
  split at h
  · rename_i cs hcs
    cases h
    obtain ⟨rz, h1, h2, h3⟩ := zeroC_rel hz M
    obtain ⟨hs, h0⟩ := posSize_spec hn
    have hF' : F2 (fun (a : Nat × Operand) (b : Nat × Nat × X) => some (a.1 * n, n) = some (b.1, b.2.1) ∧ cX p N a.2 = some b.2.2 ∧ b.2.1 ≠ 0) ps.toList qs := (mapM_F2 _ hq).imp fun x b hb => by
      simp only [Option.bind_eq_bind, Option.bind_eq_some_iff, Option.some.injEq] at hb
      obtain ⟨y, hy, rfl⟩ := hb
      exact ⟨rfl, hy, h0⟩
    obtain ⟨rcs, h4, h5, h6, _⟩ := fill_rel hf hg (place := fun i => some (i * n, n)) ps.toList hF' h1 h2 hcs
    refine ⟨.agg rcs, .agg h5 h6, fun w => ?_⟩
    simp only [Instr.build, Sem.run_bind, h3, Result.andThen_ok, run_underlying hu, run_sizeOf' hs, parts_map, h4, Sem.run_pure]
  · cases h

end Go.Im
namespace Go.Im
variable {p : Program} {M : Mp}

/-! '==' -/
/-- the equality of two values of a type, as the operation runs it -/
def EqOk (p : Program) (t : TypeId) (x y : Value) (b : Bool) : Prop := ∀ d w, (Op.equalIn (d + 1) t x y).run p w = .ok b w
theorem EqOk.run {t : TypeId} {x y : Value} {b : Bool} (h : EqOk p t x y b) (w : World) : (Op.equal t x y).run p w = .ok b w := h 9999 w

theorem equal_bool {t : TypeId} (hu : p.underlying t = some .bool) (a b : Bool) : EqOk p t (.bool a) (.bool b) (a == b) := fun d w => by
  simp [Op.equalIn, run_underlying hu]
theorem equal_ptr {t e : TypeId} {n : Nat} (hu : p.underlying t = some (.pointer e)) (hn : sz p e = some n) (h0 : n ≠ 0) {x y : V} {b : Bool} {rx ry : Value} (hx : VRel M x rx) (hy : VRel M y ry) (h : eqPtr x y = some b) : EqOk p t rx ry b := by
  unfold eqPtr at h
  split at h
  · cases h; cases hx; cases hy; intro d w; simp [Op.equalIn, run_underlying hu]
  · cases h; cases hx; cases hy; intro d w; simp [Op.equalIn, run_underlying hu]
  · cases h; cases hx; cases hy; intro d w; simp [Op.equalIn, run_underlying hu]
  · rename_i f k i r g l j q
    split at h
    · rename_i hb
      simp only [Bool.and_eq_true] at hb
      have e1 := pEq_iff.1 hb.1
      have e2 := Nat.eq_of_beq_eq_true hb.2
      subst e1 e2
      cases h
      cases hx with
      | ptr _ _ hM hr =>
        cases hy with
        | ptr _ _ hM' hr' =>
          rw [hM] at hM'; cases hM'
          rename_i l
          intro d w
          simp only [Op.equalIn, Sem.run_bind, run_underlying hu, Result.andThen_ok, run_sizeOf' hn]
          rw [if_pos h0]
          simp only [sameAddr, beq_self_eq_true, if_true, Sem.run_pure]
          congr 1
          rw [Bool.eq_iff_iff]
          simp [Nat.beq_eq]
    · cases h
  · cases h
theorem equal_sl {t e : TypeId} (hu : p.underlying t = some (.slice e)) {x y : V} {b : Bool} {rx ry : Value} (hx : VRel M x rx) (hy : VRel M y ry) (h : eqSl x y = some b) : EqOk p t rx ry b := by
  unfold eqSl at h
  split at h
  all_goals first | (cases h; cases hx; cases hy; intro d w; simp [Op.equalIn, run_underlying hu]; done) | (cases h; done)
theorem equal_map {t k e : TypeId} (hu : p.underlying t = some (.map k e)) {x y : V} {b : Bool} {rx ry : Value} (hx : VRel M x rx) (hy : VRel M y ry) (h : eqMap x y = some b) : EqOk p t rx ry b := by
  unfold eqMap at h
  split at h
  all_goals first | (cases h; cases hx; cases hy; intro d w; simp [Op.equalIn, run_underlying hu]; done) | (cases h; done)
theorem equal_fn {t : TypeId} {ps rs : Array TypeId} {vr : Bool} (hu : p.underlying t = some (.func ps rs vr)) {x y : V} {b : Bool} {rx ry : Value} (hx : VRel M x rx) (hy : VRel M y ry) (h : eqFn x y = some b) : EqOk p t rx ry b := by
  unfold eqFn at h
  split at h
  all_goals first | (cases h; cases hx; cases hy; intro d w; simp [Op.equalIn, run_underlying hu]; done) | (cases h; done)
theorem equal_ifcN {t : TypeId} {ms : Array (String × TypeId)} (hu : p.underlying t = some (.interface ms)) {x y : V} {b : Bool} {rx ry : Value} (hx : VRel M x rx) (hy : VRel M y ry) (h : eqIfcN x y = some b) : EqOk p t rx ry b := by
  unfold eqIfcN at h
  split at h
  all_goals first | (cases h; cases hx; cases hy; intro d w; simp [Op.equalIn, run_underlying hu]; done) | (cases h; done)

theorem equal_ifc {t : TypeId} {ms : Array (String × TypeId)} (hu : p.underlying t = some (.interface ms)) {x y : V} {b : Bool} {rx ry : Value} (hx : VRel M x rx) (hy : VRel M y ry) (h : eqIfc x y = some b) : EqOk p t rx ry b := by
  unfold eqIfc at h
  split at h
  · cases h; cases hx; cases hy; intro d w; simp [Op.equalIn, run_underlying hu]
  · cases h; cases hx; cases hy; intro d w; simp [Op.equalIn, run_underlying hu]
  · split at h
    · cases h
    · rename_i t' _ u' _ b' hb
      have hne : t' ≠ u' := fun e => by subst e; simp at hb
      cases h; cases hx; cases hy; intro d w; simp [Op.equalIn, run_underlying hu, hne]
  · cases h

theorem leafsEq_append : ∀ {ks : List LK} {a b : List V} (ks' : List LK) (c d : List V), a.length = ks.length → b.length = ks.length → leafsEq (ks ++ ks') (a ++ c) (b ++ d) = match leafsEq ks a b with | some true => leafsEq ks' c d | r => r
  | [], [], [], ks', c, d, _, _ => rfl
  | [], _ :: _, _, _, _, _, h, _ => by simp at h
  | [], [], _ :: _, _, _, _, _, h => by simp at h
  | _ :: _, [], _, _, _, _, h, _ => by simp at h
  | _ :: _, _ :: _, [], _, _, _, _, h => by simp at h
  | k :: ks, x :: a, y :: b, ks', c, d, h, h' => by
    simp only [List.cons_append, leafsEq]
    split
    · rename_i he; rw [leafsEq_append ks' c d (by simpa using h) (by simpa using h')]
    · rename_i r hr
      cases hxy : k.eq x y with
      | none => simp
      | some q =>
        cases q with
        | true => exact absurd hxy hr
        | false => rfl

/-- A value that is made of these cells. -/
def MadeOf (p : Program) (M : Mp) (t : TypeId) (cs : List V) (X : Value) : Prop :=
  (isA p t = some true ∧ ∃ rs, X = .agg rs ∧ VsRel M cs rs.toList) ∨ (isA p t = some false ∧ ∃ v, cs = [v] ∧ VRel M v X)

theorem part_made {t : TypeId} {n off : Nat} {cs : List V} {rs : Array Value} (hs : sz p t = some n) (ha : (isA p t).isSome = true) (h1 : isA p t = some false → n = 1) (hv : VsRel M cs rs.toList) (hle : off + n ≤ cs.length) :
    ∃ X, MadeOf p M t ((cs.drop off).take n) X ∧ ∀ w, (part t rs off).run p w = .ok X w := by
  obtain ⟨b, hb⟩ := Option.isSome_iff_exists.1 ha
  have hd := (hv.drop off).take n
  cases b with
  | true =>
    exact ⟨.agg (rs.extract off (off + n)), .inl ⟨hb, _, rfl, by simpa [List.take_drop, Nat.add_comm] using hd⟩, fun w => by simp [part, run_isAgg' hb, run_sizeOf' hs]⟩
  | false =>
    have := h1 hb; subst this
    have hlt : off < cs.length := by omega
    have e : (cs.drop off).take 1 = [cs[off]] := by rw [List.drop_eq_getElem_cons hlt]; rfl
    obtain ⟨y, hy, hr⟩ := hv.get (i := off) (x := cs[off]) (by simp [hlt])
    exact ⟨y, .inr ⟨hb, cs[off], e, hr⟩, fun w => by simp at hy; simp [part, run_isAgg' hb, hy]⟩

def eqElems (d : Nat) (e : TypeId) (n : Nat) (xs ys : Array Value) : List Nat → Sem Bool
  | [] => pure true
  | i :: is => do
    let a ← part e xs (i * n)
    let b ← part e ys (i * n)
    if !(← Op.equalIn d e a b) then pure false else eqElems d e n xs ys is

theorem run_equalIn_array {t e : TypeId} {m n : Nat} (d : Nat) (xs ys : Array Value) (ht : p.underlying t = some (.array m e)) (hn : sz p e = some n) (w : World) :
    (Op.equalIn (d + 1) t (.agg xs) (.agg ys)).run p w = (eqElems d e n xs ys (List.range' 0 m)).run p w := by
  simp only [Op.equalIn, Sem.run_bind, run_underlying ht, Result.andThen_ok, run_sizeOf' hn]
  rw [Std.Legacy.Range.forIn_eq_forIn_range']
  simp only [Std.Legacy.Range.size, Nat.sub_zero, Nat.add_sub_cancel, Nat.div_one]
  generalize List.range' 0 m 1 = l
  induction l generalizing w with
  | nil => simp [eqElems]
  | cons i is ih =>
    simp only [List.forIn_cons, eqElems, Sem.run_bind]
    generalize (part e xs (i * n)).run p w = r1
    cases r1 with
    | ok a w1 =>
      simp only [Result.andThen_ok]
      generalize (part e ys (i * n)).run p w1 = r2
      cases r2 with
      | ok b w2 =>
        simp only [Result.andThen_ok]
        generalize (Op.equalIn d e a b).run p w2 = r3
        cases r3 with
        | ok r w3 =>
          cases r
          · simp
          · simp only [Result.andThen_ok, Bool.not_true, Bool.false_eq_true, if_false, Sem.run_pure]
            exact ih w3
        | halt x w3 => simp [Result.andThen]
      | halt x w2 => simp [Result.andThen]
    | halt x w1 => simp [Result.andThen]

theorem flat_isA {n : Nat} {t : TypeId} {k : List LK} (h : flat p n t = some k) : sz p t = some k.length ∧ (isA p t).isSome = true ∧ (isA p t = some false → k.length = 1) := by
  cases n with
  | zero => simp [flat] at h
  | succ n =>
    unfold flat at h
    split at h
    · rename_i k' hk
      split at h
      · rename_i hs
        cases h
        refine ⟨hs, ?_, fun hf => ?_⟩
        · unfold isA und
          split at hk <;> rename_i hu <;> first | (cases hk; done) | simp [hu]
        · unfold isA und at hf
          split at hk <;> rename_i hu <;> first | (cases hk; rfl) | (simp [hu] at hf; done) | (cases hk; done)
      · cases h
    · cases h

theorem LK.eq_rel {k : LK} {x y : V} {b : Bool} {rx ry : Value} (hx : VRel M x rx) (hy : VRel M y ry) (h : k.eq x y = some b) :
    (k = .li ∧ ∃ j a c, rx = .int j a ∧ ry = .int j c ∧ b = (a == c)) ∨ (k = .lb ∧ ∃ a c, rx = .bool a ∧ ry = .bool c ∧ b = (a == c)) ∨ (k = .ls ∧ ∃ a c, rx = .string a ∧ ry = .string c ∧ b = (a.data.toList == c.data.toList)) := by
  unfold LK.eq at h
  split at h
  · split at h
    · rename_i hk
      have := kindEq_iff.1 hk
      subst this
      cases h; cases hx; cases hy
      exact .inl ⟨rfl, _, _, _, rfl, rfl, ieq_eq _ _⟩
    · cases h
  · cases h; cases hx; cases hy
    exact .inr (.inl ⟨rfl, _, _, rfl, rfl, rfl⟩)
  · cases h; cases hx; cases hy
    exact .inr (.inr ⟨rfl, _, _, rfl, rfl, leq_spec _ _⟩)
  · cases h

/-- '==' of a flat type: the cells' equality. -/
theorem flat_eq : ∀ (n : Nat) (t : TypeId) (k : List LK), flat p n t = some k → ∀ (d : Nat) (cs ds : List V) (X Y : Value) (b : Bool), MadeOf p M t cs X → MadeOf p M t ds Y → cs.length = k.length → ds.length = k.length →
    leafsEq k cs ds = some b → ∀ w, (Op.equalIn (d + n + 1) t X Y).run p w = .ok b w
  | 0, t, k, h => by simp [flat] at h
  | n + 1, t, k, h => by
    intro d cs ds X Y b hX hY hc hd hb w
    have ih := flat_eq n
    unfold flat at h
    split at h
    · rename_i k' hk
      split at h
      · rename_i hs
        cases h
        -- one cell
        have hleaf : ∀ td lk, p.underlying t = some td → k = [lk] → (td = .bool ∧ lk = .lb ∨ (∃ q, td = .int q ∧ lk = .li) ∨ td = .string ∧ lk = .ls) → (Op.equalIn (d + (n + 1) + 1) t X Y).run p w = .ok b w := fun td lk hu hkl htd => by
          subst hkl
          have hf : isA p t = some false := by
            unfold isA und; rw [hu]; rcases htd with ⟨rfl, _⟩ | ⟨q, rfl, _⟩ | ⟨rfl, _⟩ <;> rfl
          rcases hX with ⟨ht, _⟩ | ⟨_, x, rfl, hx⟩
          · rw [hf] at ht; cases ht
          · rcases hY with ⟨ht, _⟩ | ⟨_, y, rfl, hy⟩
            · rw [hf] at ht; cases ht
            · have hxy : lk.eq x y = some b := by
                simp only [leafsEq] at hb
                split at hb
                · rename_i he; rw [he]; exact hb
                · exact hb
              rcases LK.eq_rel hx hy hxy with ⟨rfl, kk, a, c, rfl, rfl, rfl⟩ | ⟨rfl, a, c, rfl, rfl, rfl⟩ | ⟨rfl, a, c, rfl, rfl, rfl⟩
              · rcases htd with ⟨_, h⟩ | ⟨q, rfl, _⟩ | ⟨_, h⟩
                · cases h
                · simp [Op.equalIn, run_underlying hu]
                · cases h
              · rcases htd with ⟨rfl, _⟩ | ⟨q, _, h⟩ | ⟨_, h⟩
                · simp [Op.equalIn, run_underlying hu]
                · cases h
                · cases h
              · rcases htd with ⟨_, h⟩ | ⟨q, _, h⟩ | ⟨rfl, _⟩
                · cases h
                · cases h
                · simp [Op.equalIn, run_underlying hu, beq_toListBytes, ByteArray.toList_eq]
        split at hk
        · rename_i hu; cases hk; exact hleaf _ _ hu rfl (.inl ⟨rfl, rfl⟩)
        · rename_i q hu; cases hk; exact hleaf _ _ hu rfl (.inr (.inl ⟨q, rfl, rfl⟩))
        · rename_i hu; cases hk; exact hleaf _ _ hu rfl (.inr (.inr ⟨rfl, rfl⟩))
        · rename_i fs hu
          split at hk
          · cases hk
          · rename_i hst
            have ht : isA p t = some true := by unfold isA und; rw [hu]
            rcases hX with ⟨_, rs, rfl, hrs⟩ | ⟨hf, _⟩
            · rcases hY with ⟨_, qs, rfl, hqs⟩ | ⟨hf, _⟩
              · have hfo : p.fieldsOf t = fs := by simp [Program.fieldsOf, hu]
                rw [run_equalIn_struct w _ t rs qs (by rw [hfo]; exact hu) (by simpa using hst), hfo]
                -- the fields, one by one
                have key : ∀ (l : List Field) (acc k : List LK), flatFs (flat p n) l acc = some k → k.length = cs.length → k.length = ds.length → ∀ (acc2 : List LK), k = acc ++ acc2 → ∀ (b : Bool),
                    leafsEq acc2 (cs.drop acc.length) (ds.drop acc.length) = some b → ∀ w, (Op.eqFields (d + (n + 1)) rs qs l).run p w = .ok b w := by
                  intro l
                  induction l with
                  | nil =>
                    intro acc k hk h1 h2 acc2 he b hb w
                    simp only [flatFs, Option.some.injEq] at hk
                    subst hk
                    have : acc2 = [] := by simpa using he
                    subst this
                    rw [h1, List.drop_length, ← h1, h2, List.drop_length] at hb
                    simp only [leafsEq, Option.some.injEq] at hb
                    subst hb
                    rfl
                  | cons f l ihl =>
                    intro acc k hk h1 h2 acc2 he b hb w
                    simp only [flatFs] at hk
                    split at hk
                    · rename_i hn
                      split at hk
                      · rename_i kf hkf
                        obtain ⟨hs1, hs2, hs3⟩ := flat_isA hkf
                        obtain ⟨rest, hrest⟩ : ∃ rest, k = acc ++ kf ++ rest := by
                          have gen : ∀ (l : List Field) (acc k : List LK), flatFs (flat p n) l acc = some k → ∃ r, k = acc ++ r := by
                            intro l
                            induction l with
                            | nil => intro acc k h; simp [flatFs] at h; exact ⟨[], by simp [h]⟩
                            | cons f l ih =>
                              intro acc k h
                              simp only [flatFs] at h
                              split at h
                              · split at h
                                · obtain ⟨r, hr⟩ := ih _ _ h
                                  rename_i kk _
                                  exact ⟨kk ++ r, by rw [hr, List.append_assoc]⟩
                                · cases h
                              · cases h
                          exact gen l _ k hk
                        have e2 : acc2 = kf ++ rest := by
                          rw [hrest, List.append_assoc] at he
                          exact (List.append_cancel_left he).symm
                        subst e2
                        have hl1 : acc.length + kf.length ≤ cs.length := by rw [← h1, hrest, List.length_append, List.length_append]; omega
                        have hl2 : acc.length + kf.length ≤ ds.length := by rw [← h2, hrest, List.length_append, List.length_append]; omega
                        obtain ⟨X1, hX1, hr1⟩ := part_made (off := acc.length) hs1 hs2 hs3 hrs hl1
                        obtain ⟨Y1, hY1, hr2⟩ := part_made (off := acc.length) hs1 hs2 hs3 hqs hl2
                        have d1 : cs.drop acc.length = (cs.drop acc.length).take kf.length ++ cs.drop (acc ++ kf).length := by
                          conv => lhs; rw [← List.take_append_drop kf.length (cs.drop acc.length)]
                          rw [List.drop_drop, List.length_append]
                        have d2 : ds.drop acc.length = (ds.drop acc.length).take kf.length ++ ds.drop (acc ++ kf).length := by
                          conv => lhs; rw [← List.take_append_drop kf.length (ds.drop acc.length)]
                          rw [List.drop_drop, List.length_append]
                        have t1 : ((cs.drop acc.length).take kf.length).length = kf.length := by rw [List.length_take, List.length_drop]; omega
                        have t2 : ((ds.drop acc.length).take kf.length).length = kf.length := by rw [List.length_take, List.length_drop]; omega
                        rw [d1, d2, leafsEq_append rest _ _ t1 t2] at hb
                        simp only [Op.eqFields, Sem.run_bind, Sem.run_ite]
                        rw [if_pos hn.1]
                        have hoff : f.offset = acc.length := hn.2
                        rw [hoff]
                        simp only [hr1, hr2, Result.andThen_ok]
                        cases hlb : leafsEq kf ((cs.drop acc.length).take kf.length) ((ds.drop acc.length).take kf.length) with
                        | none => rw [hlb] at hb; cases hb
                        | some q =>
                          have := ih f.type kf hkf d _ _ X1 Y1 q hX1 hY1 t1 t2 hlb w
                          rw [show d + (n + 1) = d + n + 1 by omega, this]
                          rw [hlb] at hb
                          cases q with
                          | false => cases hb; simp
                          | true =>
                            simp only [Result.andThen_ok, Bool.not_true, Bool.false_eq_true, if_false]
                            exact ihl _ k hk h1 h2 rest hrest b hb w
                      · cases hk
                    · cases hk
                exact key fs.toList [] k hk hc.symm hd.symm k rfl b (by simpa using hb) w
              · rw [ht] at hf; cases hf
            · rw [ht] at hf; cases hf
        · rename_i m e hu
          split at hk
          · rename_i ke hke
            cases hk
            have ht : isA p t = some true := by unfold isA und; rw [hu]
            obtain ⟨hs1, hs2, hs3⟩ := flat_isA hke
            rcases hX with ⟨_, rs, rfl, hrs⟩ | ⟨hf, _⟩
            · rcases hY with ⟨_, qs, rfl, hqs⟩ | ⟨hf, _⟩
              · rw [run_equalIn_array _ rs qs hu hs1]
                have hrl : ∀ m, (rep ke m).length = m * ke.length := fun m => by
                  induction m with
                  | zero => simp [rep]
                  | succ m ihm => simp [rep, ihm, Nat.add_mul]; omega
                rw [hrl] at hc hd
                have key : ∀ (m' i : Nat), i + m' = m → ∀ b, leafsEq (rep ke m') (cs.drop (i * ke.length)) (ds.drop (i * ke.length)) = some b → ∀ w, (eqElems (d + (n + 1)) e ke.length rs qs (List.range' i m')).run p w = .ok b w := by
                  intro m'
                  induction m' with
                  | zero =>
                    intro i hi b hb2 w
                    simp only [Nat.add_zero] at hi; subst hi
                    rw [← hc, List.drop_length, hc, ← hd, List.drop_length] at hb2
                    simp only [rep, leafsEq, Option.some.injEq] at hb2
                    subst hb2; rfl
                  | succ m' ihm =>
                    intro i hi b hb w
                    have hmul : (i + 1) * ke.length ≤ m * ke.length := Nat.mul_le_mul_right _ (by omega)
                    rw [Nat.add_mul, Nat.one_mul] at hmul
                    obtain ⟨X1, hX1, hr1⟩ := part_made (off := i * ke.length) hs1 hs2 hs3 hrs (by omega)
                    obtain ⟨Y1, hY1, hr2⟩ := part_made (off := i * ke.length) hs1 hs2 hs3 hqs (by omega)
                    have d1 : cs.drop (i * ke.length) = (cs.drop (i * ke.length)).take ke.length ++ cs.drop ((i + 1) * ke.length) := by
                      conv => lhs; rw [← List.take_append_drop ke.length (cs.drop (i * ke.length))]
                      rw [List.drop_drop, Nat.add_mul, Nat.one_mul]
                    have d2 : ds.drop (i * ke.length) = (ds.drop (i * ke.length)).take ke.length ++ ds.drop ((i + 1) * ke.length) := by
                      conv => lhs; rw [← List.take_append_drop ke.length (ds.drop (i * ke.length))]
                      rw [List.drop_drop, Nat.add_mul, Nat.one_mul]
                    have t1 : ((cs.drop (i * ke.length)).take ke.length).length = ke.length := by rw [List.length_take, List.length_drop]; omega
                    have t2 : ((ds.drop (i * ke.length)).take ke.length).length = ke.length := by rw [List.length_take, List.length_drop]; omega
                    rw [d1, d2, rep, leafsEq_append _ _ _ t1 t2] at hb
                    rw [List.range'_succ]
                    simp only [eqElems, Sem.run_bind, hr1, hr2, Result.andThen_ok]
                    cases hlb : leafsEq ke ((cs.drop (i * ke.length)).take ke.length) ((ds.drop (i * ke.length)).take ke.length) with
                    | none => rw [hlb] at hb; cases hb
                    | some q =>
                      have := ih e ke hke d _ _ X1 Y1 q hX1 hY1 t1 t2 hlb w
                      rw [show d + (n + 1) = d + n + 1 by omega, this]
                      rw [hlb] at hb
                      cases q with
                      | false => cases hb; simp
                      | true =>
                        simp only [Result.andThen_ok, Bool.not_true, Bool.false_eq_true, if_false]
                        exact ihm (i + 1) (by omega) b hb w
                exact key m 0 (by omega) b (by simpa using hb) w
              · rw [ht] at hf; cases hf
            · rw [ht] at hf; cases hf
          · cases hk
        · cases hk
      · cases h
    · cases h

end Go.Im
namespace Go.Im
variable {p : Program} {M : Mp}

theorem bytesN_append (a b : ByteArray) : bytesN (a ++ b) = bytesN a ++ bytesN b := by simp [bytesN, ByteArray.data_append]

/-- Whole numbers of one kind, in an operator that gives a number. -/
theorem ints_spec {x y : V} {k k' : IntKind} {a b : Int} {rx ry : Value} (hx : VRel M x rx) (hy : VRel M y ry) (ex : x = .int k a) (ey : y = .int k' b) : rx = .int k a ∧ ry = .int k' b := by
  subst ex ey; cases hx; cases hy; exact ⟨rfl, rfl⟩

def BinOk (p : Program) (M : Mp) (op : BinOp) (t : TypeId) (x y : Operand) (rx ry : Value) (v : V) : Prop := PuOk p M v (do eqGuard op t x y rx ry; binOp op t rx ry)

theorem bin_arith {op : BinOp} {t : TypeId} {x y : Operand} {rx ry : Value} {v : V} {rv : Value} (hg : eqGuard op t x y rx ry = pure ()) (hv : VRel M v rv) (h : ∀ w, (binOp op t rx ry).run p w = .ok rv w) : BinOk p M op t x y rx ry v :=
  ⟨rv, hv, fun w => by rw [hg]; simp [h w]⟩

theorem qOf_spec {t : TypeId} {q : Q} (h : qOf p t = q) : match q with
    | .bool => p.underlying t = some .bool
    | .int => ∃ k, p.underlying t = some (.int k)
    | .str => p.underlying t = some .string
    | .ptr => ∃ e n, p.underlying t = some (.pointer e) ∧ sz p e = some n ∧ n ≠ 0
    | .sl => ∃ e, p.underlying t = some (.slice e)
    | .map => ∃ k e, p.underlying t = some (.map k e)
    | .fn => ∃ a b c, p.underlying t = some (.func a b c)
    | .ifc => ∃ ms, p.underlying t = some (.interface ms)
    | .ifcn => False
    | .agg ks => flat p 20 t = some ks ∧ p.eqGuardType p.depth t = false ∧ isA p t = some true
    | .bad => True := by
  unfold qOf at h
  split at h
  · rename_i hu; subst h; exact hu
  · rename_i k hu; subst h; exact ⟨k, hu⟩
  · rename_i hu; subst h; exact hu
  · rename_i e hu
    split at h
    · subst h; trivial
    · rename_i hn
      subst h
      cases hs : sz p e with
      | none => rw [hs] at hn; exact absurd rfl hn
      | some n => rw [hs] at hn; exact ⟨e, n, hu, hs, hn⟩
  · rename_i e hu; subst h; exact ⟨e, hu⟩
  · rename_i k e hu; subst h; exact ⟨k, e, hu⟩
  · rename_i a b c hu; subst h; exact ⟨a, b, c, hu⟩
  · rename_i ms hu; subst h; exact ⟨ms, hu⟩
  · rename_i fs hu
    split at h
    · rename_i ks hks
      split at h
      · subst h; trivial
      · rename_i hg; subst h; exact ⟨hks, by simpa using hg, by simp [isA, und, hu]⟩
    · subst h; trivial
  · rename_i n e hu
    split at h
    · rename_i ks hks
      split at h
      · subst h; trivial
      · rename_i hg; subst h; exact ⟨hks, by simpa using hg, by simp [isA, und, hu]⟩
    · subst h; trivial
  · subst h; trivial

/-- '==' of two values, by what is compared. -/
theorem eq_rel {t : TypeId} {q : Q} {x y : Operand} {vx vy : V} {b : Bool} {rx ry : Value} (hq : qOf p t = q ∨ (qOf p t = .ifc ∧ q = .ifcn ∧ ((∃ c, x = .const c) ∨ ∃ c, y = .const c)))
    (hx : VRel M vx rx) (hy : VRel M vy ry) (h : q.eq vx vy = some b) (op : BinOp) (hop : op = .eql ∨ op = .neq) :
    ∃ rb, (rb = if op = .eql then b else !b) ∧ ∀ w, (do eqGuard op t x y rx ry; binOp op t rx ry : Sem Value).run p w = .ok (.bool rb) w := by
  refine ⟨_, rfl, fun w => ?_⟩
  have fin : ∀ {bb : Bool}, (∀ w, (Op.equal t rx ry).run p w = .ok bb w) → (∀ w, (eqGuard op t x y rx ry).run p w = .ok () w) → (binOp .eql t rx ry = (do pure (.bool (← Op.equal t rx ry)))) → (binOp .neq t rx ry = (do pure (.bool (!(← Op.equal t rx ry))))) →
      (do eqGuard op t x y rx ry; binOp op t rx ry : Sem Value).run p w = .ok (.bool (if op = .eql then bb else !bb)) w := fun {bb} h1 h2 h3 h4 => by
    rcases hop with rfl | rfl
    · simp [h2 w, h3, h1 w]
    · simp [h2 w, h4, h1 w]
  rcases hq with hq | ⟨hq, rfl, hc⟩
  · have hs := qOf_spec hq
    cases q with
    | bool =>
      rcases LK.eq_rel hx hy h with ⟨e, _⟩ | ⟨_, a, c, rfl, rfl, rfl⟩ | ⟨e, _⟩
      · cases e
      · exact fin (EqOk.run (equal_bool hs _ _)) (fun w => by rw [eqGuard_at_bool]; rfl) rfl rfl
      · cases e
    | int =>
      rcases LK.eq_rel hx hy h with ⟨_, k, a, c, rfl, rfl, rfl⟩ | ⟨e, _⟩ | ⟨e, _⟩
      · rcases hop with rfl | rfl <;> simp [eqGuard_at_int, binOp, Op.intCmp, bne]
      · cases e
      · cases e
    | str =>
      rcases LK.eq_rel hx hy h with ⟨e, _⟩ | ⟨e, _⟩ | ⟨_, a, c, rfl, rfl, rfl⟩
      · cases e
      · cases e
      · rcases hop with rfl | rfl <;> simp [eqGuard_at_string, binOp, Op.stringOp, ByteArray.toList_eq]
    | ptr =>
      obtain ⟨e, n, hu, hn, h0⟩ := hs
      have he := equal_ptr hu hn h0 hx hy h
      simp only [Q.eq, eqPtr] at h
      split at h
      · cases hx; cases hy; exact fin (EqOk.run he) (fun w => by rw [eqGuard_at_pointer]; rfl) rfl rfl
      · cases hx; cases hy; exact fin (EqOk.run he) (fun w => by rw [eqGuard_at_pointer]; rfl) rfl rfl
      · cases hx; cases hy; exact fin (EqOk.run he) (fun w => by rw [eqGuard_at_pointer]; rfl) rfl rfl
      · cases hx; cases hy; exact fin (EqOk.run he) (fun w => by rw [eqGuard_at_pointer]; rfl) rfl rfl
      · cases h
    | sl =>
      obtain ⟨e, hu⟩ := hs
      have he := equal_sl hu hx hy h
      simp only [Q.eq, eqSl] at h
      split at h
      · cases hx; cases hy; exact fin (EqOk.run he) (fun w => by rw [eqGuard_at_slice]; rfl) rfl rfl
      · cases hx; cases hy; exact fin (EqOk.run he) (fun w => by rw [eqGuard_at_slice]; rfl) rfl rfl
      · cases hx; cases hy; exact fin (EqOk.run he) (fun w => by rw [eqGuard_at_slice]; rfl) rfl rfl
      · cases h
    | map =>
      obtain ⟨k, e, hu⟩ := hs
      have he := equal_map hu hx hy h
      simp only [Q.eq, eqMap] at h
      split at h
      · cases hx; cases hy; exact fin (EqOk.run he) (fun w => by rw [eqGuard_at_map]; rfl) rfl rfl
      · cases hx; cases hy; exact fin (EqOk.run he) (fun w => by rw [eqGuard_at_map]; rfl) rfl rfl
      · cases hx; cases hy; exact fin (EqOk.run he) (fun w => by rw [eqGuard_at_map]; rfl) rfl rfl
      · cases h
    | fn =>
      obtain ⟨a, e, c, hu⟩ := hs
      have he := equal_fn hu hx hy h
      simp only [Q.eq, eqFn] at h
      split at h
      · cases hx; cases hy; exact fin (EqOk.run he) (fun w => by rw [eqGuard_at_nilFunc]; rfl) rfl rfl
      · cases hx; cases hy; exact fin (EqOk.run he) (fun w => by rw [eqGuard_at_nilFunc]; rfl) rfl rfl
      · cases hx; cases hy; exact fin (EqOk.run he) (fun w => by rw [eqGuard_at_func]; rfl) rfl rfl
      · cases hx; cases hy; exact fin (EqOk.run he) (fun w => by rw [eqGuard_at_nilFunc]; rfl) rfl rfl
      · cases hx; cases hy; exact fin (EqOk.run he) (fun w => by rw [eqGuard_at_func]; rfl) rfl rfl
      · cases h
    | ifc =>
      obtain ⟨ms, hu⟩ := hs
      have he := equal_ifc hu hx hy h
      simp only [Q.eq, eqIfc] at h
      split at h
      · cases hx; cases hy; exact fin (EqOk.run he) (fun w => by rw [eqGuard_nil_iface]; rfl) rfl rfl
      · cases hx; cases hy; exact fin (EqOk.run he) (fun w => by rw [eqGuard_at_iface]; rfl) rfl rfl
      · cases hx; cases hy; exact fin (EqOk.run he) (fun w => by rw [eqGuard_at_iface]; rfl) rfl rfl
      · cases h
    | ifcn => exact hs.elim
    | agg ks =>
      obtain ⟨hfl, hg, hA⟩ := hs
      simp only [Q.eq, eqAgg] at h
      split at h
      · split at h
        · rename_i hb
          simp only [Bool.and_eq_true] at hb
          have l1 := Nat.eq_of_beq_eq_true hb.1
          have l2 := Nat.eq_of_beq_eq_true hb.2
          cases hx with
          | agg hv hl =>
            cases hy with
            | agg hv' hl' =>
              have he := flat_eq 20 t ks hfl 9979 _ _ _ _ b (.inl ⟨hA, _, rfl, hv⟩) (.inl ⟨hA, _, rfl, hv'⟩) l1 l2 h
              exact fin he (fun w => run_eqGuard_agg w op t x y _ _ hg) rfl rfl
        · cases h
      · cases h
    | bad => simp only [Q.eq, eqBad] at h; cases h
  · have hs := qOf_spec hq
    obtain ⟨ms, hu⟩ := hs
    have he := equal_ifcN hu hx hy h
    simp only [Q.eq, eqIfcN] at h
    split at h
    · cases hx; cases hy
      refine fin (EqOk.run he) (fun w => ?_) rfl rfl
      rcases hc with ⟨c, rfl⟩ | ⟨c, rfl⟩
      · rw [eqGuard_nil_constL]; rfl
      · rw [eqGuard_nil_constR]; rfl
    · cases hx; cases hy; exact fin (EqOk.run he) (fun w => by rw [eqGuard_nil_iface]; rfl) rfl rfl
    · cases hx; cases hy; exact fin (EqOk.run he) (fun w => by rw [eqGuard_at_iface]; rfl) rfl rfl
    · cases h

/-- The operators. -/
theorem r_bin {op : BinOp} {t : TypeId} {q : Q} {x y : Operand} {vx vy v : V} {rx ry : Value} (hq : qOf p t = q ∨ (qOf p t = .ifc ∧ q = .ifcn ∧ ((∃ c, x = .const c) ∨ ∃ c, y = .const c)))
    (hx : VRel M vx rx) (hy : VRel M vy ry) (h : V.bin op q vx vy = some v) : BinOk p M op t x y rx ry v := by
  have hint : ∀ {k k' : IntKind} {a b : Int} {q' : Bool}, (match kindEq k k' with | true => some q' | false => none) = some q' → k = k' := fun {k k' a b q'} e => by
    split at e
    · rename_i hk; exact kindEq_iff.1 hk
    · cases e
  cases op with
  | add =>
    simp only [V.bin, bAdd] at h
    split at h
    · split at h
      · rename_i hk
        have := kindEq_iff.1 hk
        subst this
        cases h; cases hx; cases hy
        exact bin_arith rfl (.int _ _) fun w => by rw [wrapF_eq]; simp [binOp, Op.intArith]
      · cases h
    · split at h
      · rename_i hb
        have hle := Nat.le_of_ble_eq_true hb
        cases h; cases hx with
        | str a =>
          cases hy with
          | str b =>
            refine bin_arith rfl (rv := .string (a ++ b)) (by rw [← bytesN_append]; exact .str _) fun w => ?_
            simp only [bytesN_length] at hle
            simp only [binOp, Op.stringOp, IntKind.max_i64]
            rw [if_neg (by omega)]; rfl
      · cases h
    · cases h
  | sub =>
    simp only [V.bin, bSub] at h
    split at h
    · split at h
      · rename_i hk
        have := kindEq_iff.1 hk
        subst this
        cases h; cases hx; cases hy
        exact bin_arith rfl (.int _ _) fun w => by rw [wrapF_eq]; simp [binOp, Op.intArith]
      · cases h
    · cases h
  | mul =>
    simp only [V.bin, bMul] at h
    split at h
    · split at h
      · rename_i hk
        have := kindEq_iff.1 hk
        subst this
        cases h; cases hx; cases hy
        exact bin_arith rfl (.int _ _) fun w => by rw [wrapF_eq]; simp [binOp, Op.intArith]
      · cases h
    · cases h
  | quo =>
    simp only [V.bin, bQuo] at h
    split at h
    · split at h
      · rename_i hk
        simp only [Bool.and_eq_true, Bool.not_eq_true', ieq_eq, beq_eq_false_iff_ne] at hk
        obtain ⟨hk, h0⟩ := hk
        have := kindEq_iff.1 hk
        subst this
        cases h; cases hx; cases hy
        exact bin_arith rfl (.int _ _) fun w => by rw [wrapF_eq]; simp [binOp, Op.intDiv, h0]
      · cases h
    · cases h
  | rem =>
    simp only [V.bin, bRem] at h
    split at h
    · split at h
      · rename_i hk
        simp only [Bool.and_eq_true, Bool.not_eq_true', ieq_eq, beq_eq_false_iff_ne] at hk
        obtain ⟨hk, h0⟩ := hk
        have := kindEq_iff.1 hk
        subst this
        cases h; cases hx; cases hy
        exact bin_arith rfl (.int _ _) fun w => by simp [binOp, Op.intDiv, h0]
      · cases h
    · cases h
  | and =>
    simp only [V.bin, bAnd, bBit] at h
    split at h
    · split at h
      · rename_i hk
        have := kindEq_iff.1 hk
        subst this
        cases h; cases hx; cases hy
        exact bin_arith rfl (.int _ _) fun w => by rw [binOp_and]; rfl
      · cases h
    · cases h
  | or =>
    simp only [V.bin, bOr, bBit] at h
    split at h
    · split at h
      · rename_i hk
        have := kindEq_iff.1 hk
        subst this
        cases h; cases hx; cases hy
        exact bin_arith rfl (.int _ _) fun w => by rw [binOp_or]; rfl
      · cases h
    · cases h
  | xor =>
    simp only [V.bin, bXor, bBit] at h
    split at h
    · split at h
      · rename_i hk
        have := kindEq_iff.1 hk
        subst this
        cases h; cases hx; cases hy
        exact bin_arith rfl (.int _ _) fun w => by rw [binOp_xor]; rfl
      · cases h
    · cases h
  | andNot =>
    simp only [V.bin, bAndNot, bBit] at h
    split at h
    · split at h
      · rename_i hk
        have := kindEq_iff.1 hk
        subst this
        cases h; cases hx; cases hy
        exact bin_arith rfl (.int _ _) fun w => by rw [binOp_andNot]; rfl
      · cases h
    · cases h
  | shl =>
    simp only [V.bin, bShl] at h
    split at h
    · split at h
      · cases h
      · rename_i hb
        rw [ilt_eq, decide_eq_false_iff_not] at hb
        cases h; cases hx; cases hy
        exact bin_arith rfl (.int _ _) fun w => by simp [binOp, Op.shift, hb]
    · cases h
  | shr =>
    simp only [V.bin, bShr] at h
    split at h
    · split at h
      · cases h
      · rename_i hb
        rw [ilt_eq, decide_eq_false_iff_not] at hb
        cases h; cases hx; cases hy
        exact bin_arith rfl (.int _ _) fun w => by simp [binOp, Op.shift, hb]
    · cases h
  | eql =>
    simp only [V.bin, bEql] at h
    split at h
    · rename_i b hb
      cases h
      obtain ⟨rb, e, hr⟩ := eq_rel (x := x) (y := y) hq hx hy hb .eql (.inl rfl)
      simp only [if_true] at e
      subst e
      exact ⟨_, .bool _, hr⟩
    · cases h
  | neq =>
    simp only [V.bin, bNeq] at h
    split at h
    · rename_i b hb
      cases h
      obtain ⟨rb, e, hr⟩ := eq_rel (x := x) (y := y) hq hx hy hb .neq (.inr rfl)
      simp only [reduceCtorEq, if_false] at e
      subst e
      exact ⟨_, .bool _, hr⟩
    · cases h
  | lss =>
    simp only [V.bin, bLss] at h
    split at h
    · split at h
      · rename_i hk
        have := kindEq_iff.1 hk
        subst this
        cases h; cases hx; cases hy
        exact bin_arith rfl (.bool _) fun w => by rw [ilt_eq]; simp [binOp, Op.intCmp]
      · cases h
    · cases h; cases hx; cases hy
      exact bin_arith rfl (.bool _) fun w => by simp [binOp, Op.stringOp, bytesN, lless_spec, ByteArray.toList_eq]
    · cases h
  | leq =>
    simp only [V.bin, bLeq] at h
    split at h
    · split at h
      · rename_i hk
        have := kindEq_iff.1 hk
        subst this
        cases h; cases hx; cases hy
        exact bin_arith rfl (.bool _) fun w => by rw [ilt_eq]; simp [binOp, Op.intCmp, ← Int.not_lt]
      · cases h
    · cases h; cases hx; cases hy
      exact bin_arith rfl (.bool _) fun w => by simp [binOp, Op.stringOp, bytesN, lless_spec, leq_spec, ByteArray.toList_eq]
    · cases h
  | gtr =>
    simp only [V.bin, bGtr] at h
    split at h
    · split at h
      · rename_i hk
        have := kindEq_iff.1 hk
        subst this
        cases h; cases hx; cases hy
        exact bin_arith rfl (.bool _) fun w => by rw [ilt_eq]; simp [binOp, Op.intCmp]
      · cases h
    · cases h; cases hx; cases hy
      exact bin_arith rfl (.bool _) fun w => by simp [binOp, Op.stringOp, bytesN, lless_spec, leq_spec, ByteArray.toList_eq]
    · cases h
  | geq =>
    simp only [V.bin, bGeq] at h
    split at h
    · split at h
      · rename_i hk
        have := kindEq_iff.1 hk
        subst this
        cases h; cases hx; cases hy
        exact bin_arith rfl (.bool _) fun w => by rw [ilt_eq]; simp [binOp, Op.intCmp, ← Int.not_lt]
      · cases h
    · cases h; cases hx; cases hy
      exact bin_arith rfl (.bool _) fun w => by simp [binOp, Op.stringOp, bytesN, lless_spec, ByteArray.toList_eq]
    · cases h

end Go.Im
namespace Go.Im
variable {p : Program} {M : Mp}

theorem PuOk.value {v : V} {s : Sem Value} (h : PuOk p M v s) : ∃ rv, VRel M v rv ∧ ∀ w, (do pure (.value (← s)) : Sem Next).run p w = .ok (.value rv) w :=
  let ⟨rv, a, b⟩ := h; ⟨rv, a, fun w => by simp [b w]⟩

theorem optRel_of {N : Nat} {fr : Fr} {a : Act} (hf : FrRel M N fr a.tmps) (hg : GOk p M) {x : Option Operand} {X' : Option X} (h : x.mapM (cX p N) = some X') : optRel M fr X' (x.map a.eval) := by
  cases x with
  | none => simp at h; subst h; trivial
  | some x =>
    simp only [Option.mapM_some, Option.map_eq_map, Option.map_eq_some_iff] at h
    obtain ⟨y, hy, rfl⟩ := h
    exact cX_rel hf hg hy
theorem isSome_mapM {N : Nat} {x : Option Operand} {X' : Option X} (h : x.mapM (cX p N) = some X') : X'.isSome = x.isSome := by
  cases x with
  | none => simp at h; subst h; rfl
  | some x =>
    simp only [Option.mapM_some, Option.map_eq_map, Option.map_eq_some_iff] at h
    obtain ⟨y, hy, rfl⟩ := h
    rfl

theorem two_mapM {N : Nat} {l : List Operand} {a b : X} (h : l.mapM (cX p N) = some [a, b]) : ∃ x y, l = [x, y] ∧ cX p N x = some a ∧ cX p N y = some b := by
  cases l with
  | nil => simp at h
  | cons x l =>
    cases l with
    | nil =>
      simp only [List.mapM_cons, List.mapM_nil, Option.bind_eq_bind, Option.bind_eq_some_iff, Option.pure_def, Option.some.injEq] at h
      obtain ⟨_, _, _, rfl, he⟩ := h
      cases he
    | cons y l =>
      cases l with
      | nil =>
        simp only [List.mapM_cons, List.mapM_nil, Option.bind_eq_bind, Option.bind_eq_some_iff, Option.pure_def, Option.some.injEq] at h
        obtain ⟨a', ha, l', ⟨b', hb, l'', rfl, rfl⟩, he⟩ := h
        cases he
        exact ⟨x, y, rfl, ha, hb⟩
      | cons z l =>
        simp only [List.mapM_cons, Option.bind_eq_bind, Option.bind_eq_some_iff, Option.pure_def, Option.some.injEq] at h
        obtain ⟨a', ha, l', ⟨b', hb, l'', ⟨c, hc, l3, _, rfl⟩, rfl⟩, he⟩ := h
        cases he
theorem one_mapM {N : Nat} {l : List Operand} {a : X} (h : l.mapM (cX p N) = some [a]) : ∃ x, l = [x] ∧ cX p N x = some a := by
  cases l with
  | nil => simp at h
  | cons x l =>
    cases l with
    | nil =>
      simp only [List.mapM_cons, List.mapM_nil, Option.bind_eq_bind, Option.bind_eq_some_iff, Option.pure_def, Option.some.injEq] at h
      obtain ⟨a', ha, l', rfl, he⟩ := h
      cases he
      exact ⟨x, rfl, ha⟩
    | cons y l =>
      simp only [List.mapM_cons, Option.bind_eq_bind, Option.bind_eq_some_iff, Option.pure_def, Option.some.injEq] at h
      obtain ⟨a', ha, l', ⟨b', hb, l'', _, rfl⟩, he⟩ := h
      cases he
theorem zero_mapM {N : Nat} {l : List Operand} (h : l.mapM (cX p N) = some []) : l = [] := by
  cases l with
  | nil => rfl
  | cons x l =>
    simp only [List.mapM_cons, Option.bind_eq_bind, Option.bind_eq_some_iff, Option.pure_def, Option.some.injEq] at h
    obtain ⟨_, _, _, _, he⟩ := h
    cases he


theorem exec_builtin (ρ : Operand → Value) (b : Builtin) (zs : Array Operand) (ats : Array TypeId) (o : Oper) (h1 : o.op = .call ⟨.builtin b, zs, ats⟩) :
    ∃ consts, execOp ρ o = builtin b ats o.type consts (zs.map ρ) := by
  unfold execOp
  rw [h1]
  exact ⟨_, rfl⟩

theorem builtin_value {ρ : Operand → Value} {o : Oper} {b : Builtin} {zs : Array Operand} {ats : Array TypeId} {s : Array Value → Sem Value} (h1 : o.op = .call ⟨.builtin b, zs, ats⟩)
    (h2 : ∀ consts args, builtin b ats o.type consts args = (do pure (.value (← s args)))) {rs : Array Value} (hrs : zs.map ρ = rs) {v : V} (h : PuOk p M v (s rs)) :
    ∃ rv, VRel M v rv ∧ ∀ w, (execOp ρ o).run p w = .ok (.value rv) w := by
  subst hrs
  obtain ⟨c, e⟩ := exec_builtin ρ b zs ats o h1
  rw [e, h2]
  exact h.value

/-- **A pure operation.** -/
theorem sim_pu {N : Nat} {fr : Fr} {a : Act} (hf : FrRel M N fr a.tmps) (hg : GOk p M) {o : Oper} {i : IP} (hc : cPu p N o = some i) {v : V} (hv : i.f fr = some v) :
    ∃ rv, VRel M v rv ∧ ∀ w, (execOp a.eval o).run p w = .ok (.value rv) w := by
  have X := fun {x X'} (h : cX p N x = some X') => cX_rel hf hg h
  obtain ⟨dst, op, type, pos, after, guard⟩ := o
  cases op <;> simp only [cPu] at hc
  case move x =>
    simp only [Option.bind_eq_bind, Option.bind_eq_some_iff, Option.some.injEq] at hc
    obtain ⟨y, hy, rfl⟩ := hc
    cases hv
    exact ⟨_, X hy, fun w => rfl⟩
  case assign x =>
    simp only [Option.bind_eq_bind, Option.bind_eq_some_iff, Option.some.injEq] at hc
    obtain ⟨y, hy, rfl⟩ := hc
    cases hv
    exact ⟨_, X hy, fun w => rfl⟩
  case pick c x y =>
    simp only [Option.bind_eq_bind, Option.bind_eq_some_iff, Option.some.injEq] at hc
    obtain ⟨c', hc', x', hx', y', hy', rfl⟩ := hc
    simp only [IP.f, pPick] at hv
    have hcr := X hc'
    split at hv
    · rename_i hb
      cases hv
      have := isTrue_spec hb hcr
      exact ⟨_, X hx', fun w => by simp [execOp, this, asBool]⟩
    · rename_i hb
      cases hv
      have := isTrue_spec hb hcr
      exact ⟨_, X hy', fun w => by simp [execOp, this, asBool]⟩
    · cases hv
  case build t ps =>
    simp only [Option.bind_eq_bind, Option.bind_eq_some_iff] at hc
    obtain ⟨z, hz, td, hu, hc⟩ := hc
    split at hc
    · rename_i fs
      split at hc
      · cases hc
      · rename_i hall
        simp only [Option.bind_eq_some_iff, Option.some.injEq] at hc
        obtain ⟨qs, hq, rfl⟩ := hc
        exact (r_build_struct hf hg hu hz (by simpa [Option.isSome_iff_ne_none] using hall) hq hv).value
    · rename_i m e
      simp only [Option.bind_eq_some_iff, Option.some.injEq] at hc
      obtain ⟨n, hn, qs, hq, rfl⟩ := hc
      exact (r_build_array hf hg hu hz hn hq hv).value
    · cases hc
  case nilCheck x =>
    simp only [Option.bind_eq_bind, Option.bind_eq_some_iff, Option.some.injEq] at hc
    obtain ⟨y, hy, rfl⟩ := hc
    simp only [IP.f, pNil] at hv
    have hr := X hy
    split at hv
    · cases hv
    · cases hv
    · cases hv
    · cases hv
    · cases hv
    · rename_i h1 h2 h3 h5 h4
      cases hv
      refine ⟨_, hr, fun w => ?_⟩
      generalize hq : y.ev fr = q at *
      generalize he : a.eval x = r at *
      cases hr with
      | pnil => exact absurd rfl h1
      | inil => exact absurd rfl h2
      | fnil => exact absurd rfl h3
      | fn ha hb =>
        rename_i g aa bb ra rb
        cases g with
        | method n => exact absurd rfl (h4 n aa bb)
        | _ => simp [execOp, he]
      | unk hl => exact absurd rfl h5
      | _ => simp [execOp, he]
  case binOp op t x y yt =>
    simp only [Option.bind_eq_bind, Option.bind_eq_some_iff, Option.some.injEq] at hc
    obtain ⟨x', hx', y', hy', rfl⟩ := hc
    simp only [IP.f, pBin] at hv
    refine (r_bin (x := x) (y := y) (t := t) ?_ (X hx') (X hy') hv).value
    split
    · rename_i c hq; exact .inr ⟨hq, rfl, .inl ⟨c, rfl⟩⟩
    · rename_i c hq _; exact .inr ⟨hq, rfl, .inr ⟨c, rfl⟩⟩
    · exact .inl rfl
  case unOp op t x =>
    simp only [Option.bind_eq_bind, Option.bind_eq_some_iff, Option.some.injEq] at hc
    obtain ⟨y, hy, rfl⟩ := hc
    exact (r_un (X hy) hv).value
  case convert s d x =>
    simp only [Option.bind_eq_bind, Option.bind_eq_some_iff] at hc
    obtain ⟨y, hy, ds, hs, dd, hd, hc⟩ := hc
    split at hc
    · cases hc; exact (r_cvi hs hd (X hy) hv).value
    · cases hc; exact (r_cvid hs hd (X hy) hv).value
    · cases hc; exact (r_cvis hs hd (X hy) hv).value
    · cases hc
  case makeInterface t x =>
    simp only [Option.bind_eq_bind, Option.bind_eq_some_iff] at hc
    obtain ⟨d, hu, hc⟩ := hc
    split at hc
    · cases hc
    · rename_i hd
      simp only [Option.bind_eq_some_iff, Option.some.injEq] at hc
      obtain ⟨y, hy, rfl⟩ := hc
      exact (r_mki hu (fun ms e => hd ms e) (X hy) hv).value
  case makeFunc g first cap =>
    simp only [Option.bind_eq_bind, Option.bind_eq_some_iff, Option.some.injEq] at hc
    obtain ⟨xs, hxs, ys, hys, rfl⟩ := hc
    cases hv
    exact ⟨.func g (first.map a.eval) (cap.map a.eval), .fn (by simpa using cXs_rel hf hg _ hxs) (by simpa using cXs_rel hf hg _ hys), fun w => rfl⟩
  case slice t x lo hi mx =>
    simp only [Option.bind_eq_bind, Option.bind_eq_some_iff] at hc
    obtain ⟨x', hx', lo', hlo, hi', hhi, mx', hmx, hc⟩ := hc
    split at hc
    · cases hc
    · rename_i h3
      have h3' : mx'.isSome = true → hi'.isSome = true := fun e => by
        cases hi' with
        | some _ => rfl
        | none => simp [e] at h3
      simp only [Option.bind_eq_some_iff] at hc
      obtain ⟨td, hu, hc⟩ := hc
      split at hc
      · split at hc
        · cases hc
          have : mx = none := by
            have := isSome_mapM hmx
            cases mx with
            | none => rfl
            | some _ => simp at this
          subst this
          exact (r_slstr hu (X hx') (optRel_of hf hg hlo) (optRel_of hf hg hhi) hv).value
        · cases hc
      · simp only [Option.bind_eq_some_iff, Option.some.injEq] at hc
        obtain ⟨n, hn, rfl⟩ := hc
        exact (r_slsl hu hn (X hx') (optRel_of hf hg hlo) (optRel_of hf hg hhi) (optRel_of hf hg hmx) h3' hv).value
      · simp only [Option.bind_eq_some_iff, Option.some.injEq] at hc
        obtain ⟨n, hn, rfl⟩ := hc
        exact (r_slarr hu hn (X hx') (optRel_of hf hg hlo) (optRel_of hf hg hhi) (optRel_of hf hg hmx) h3' hv).value
      · cases hc
  case fieldAddr t x f =>
    simp only [Option.bind_eq_bind, Option.bind_eq_some_iff] at hc
    obtain ⟨td, hu, hc⟩ := hc
    split at hc
    · simp only [Option.bind_eq_some_iff, Option.some.injEq] at hc
      obtain ⟨fd, hfd, n, hn, y, hy, rfl⟩ := hc
      exact (r_faddr hu hfd hn (X hy) hv).value
    · cases hc
  case field t x f =>
    simp only [Option.bind_eq_bind, Option.bind_eq_some_iff] at hc
    obtain ⟨td, hu, hc⟩ := hc
    split at hc
    · simp only [Option.bind_eq_some_iff, Option.some.injEq] at hc
      obtain ⟨fd, hfd, b, hb, n, hn, y, hy, rfl⟩ := hc
      exact (r_fld hu hfd hb hn (X hy) hv).value
    · cases hc
  case indexAddr t x ix =>
    simp only [Option.bind_eq_bind, Option.bind_eq_some_iff] at hc
    obtain ⟨td, hu, hc⟩ := hc
    split at hc
    · simp only [Option.bind_eq_some_iff, Option.some.injEq] at hc
      obtain ⟨n, hn, y, hy, z, hz, rfl⟩ := hc
      exact (r_iasl hu hn (X hy) (X hz) hv).value
    · simp only [Option.bind_eq_some_iff, Option.some.injEq] at hc
      obtain ⟨n, hn, y, hy, z, hz, rfl⟩ := hc
      exact (r_iaarr hu hn (X hy) (X hz) hv).value
    · cases hc
  case index t x ix =>
    simp only [Option.bind_eq_bind, Option.bind_eq_some_iff] at hc
    obtain ⟨td, hu, hc⟩ := hc
    split at hc
    · simp only [Option.bind_eq_some_iff, Option.some.injEq] at hc
      obtain ⟨y, hy, z, hz, rfl⟩ := hc
      exact (r_ixstr hu (X hy) (X hz) hv).value
    · simp only [Option.bind_eq_some_iff, Option.some.injEq] at hc
      obtain ⟨b, hb, n, hn, y, hy, z, hz, rfl⟩ := hc
      exact (r_ixarr hu hb hn (X hy) (X hz) hv).value
    · cases hc
  case typeAssert x xt t ok =>
    simp only [Option.bind_eq_bind, Option.bind_eq_some_iff] at hc
    obtain ⟨d, hu, hc⟩ := hc
    split at hc
    · cases hc
    · rename_i hd
      simp only [Option.bind_eq_some_iff, Option.some.injEq] at hc
      obtain ⟨z, hz, y, hy, rfl⟩ := hc
      exact (r_tassert hu (fun ms e => hd ms e) hz (X hy) hv).value
  case extract x ix =>
    simp only [Option.bind_eq_bind, Option.bind_eq_some_iff, Option.some.injEq] at hc
    obtain ⟨y, hy, rfl⟩ := hc
    exact (r_extr (X hy) hv).value
  case call c =>
    simp only [Option.bind_eq_bind, Option.bind_eq_some_iff] at hc
    obtain ⟨xs, hxs, hc⟩ := hc
    obtain ⟨callee, cargs, ats⟩ := c
    split at hc
    · rename_i x hcal
      obtain ⟨y, hy, hx⟩ := one_mapM hxs
      have hargs : cargs = #[y] := Array.ext' (by simpa using hy)
      subst hargs
      simp only at hcal
      subst hcal
      simp only [Option.bind_eq_some_iff] at hc
      obtain ⟨at0, hat, td, hu, hc⟩ := hc
      split at hc
      · cases hc; cases hv
        exact builtin_value rfl (fun _ _ => rfl) (by simp; rfl) ⟨_, .int _ _, fun w => by simp [Builtin.len_, hat, run_underlying hu, goInt]⟩
      · simp only [Option.bind_eq_some_iff] at hc
        obtain ⟨td2, hu2, hc⟩ := hc
        split at hc
        · cases hc; cases hv
          exact builtin_value rfl (fun _ _ => rfl) (by simp; rfl) ⟨_, .int _ _, fun w => by simp [Builtin.len_, hat, run_underlying hu, run_underlying hu2, goInt]⟩
        · cases hc
      · cases hc; exact builtin_value rfl (fun _ _ => rfl) (by simp) (r_lens hat hu (X hx) hv)
      · cases hc; exact builtin_value rfl (fun _ _ => rfl) (by simp) (r_lenl hat hu (X hx) hv)
      · cases hc
    · rename_i x hcal
      obtain ⟨y, hy, hx⟩ := one_mapM hxs
      have hargs : cargs = #[y] := Array.ext' (by simpa using hy)
      subst hargs
      simp only at hcal
      subst hcal
      simp only [Option.bind_eq_some_iff] at hc
      obtain ⟨at0, hat, td, hu, hc⟩ := hc
      split at hc
      · cases hc; exact builtin_value rfl (fun _ _ => rfl) (by simp) (r_cap hat hu (X hx) hv)
      · cases hc
    · rename_i x y hcal
      obtain ⟨x', y', hy, hx1, hx2⟩ := two_mapM hxs
      have hargs : cargs = #[x', y'] := Array.ext' (by simpa using hy)
      subst hargs
      simp only at hcal
      subst hcal
      cases hc; exact builtin_value rfl (fun _ _ => rfl) (by simp) (r_min (X hx1) (X hx2) hv)
    · rename_i x y hcal
      obtain ⟨x', y', hy, hx1, hx2⟩ := two_mapM hxs
      have hargs : cargs = #[x', y'] := Array.ext' (by simpa using hy)
      subst hargs
      simp only at hcal
      subst hcal
      cases hc; exact builtin_value rfl (fun _ _ => rfl) (by simp) (r_max (X hx1) (X hx2) hv)
    · rename_i x hcal
      obtain ⟨y, hy, hx⟩ := one_mapM hxs
      have hargs : cargs = #[y] := Array.ext' (by simpa using hy)
      subst hargs
      simp only at hcal
      subst hcal
      cases hc; exact builtin_value rfl (fun _ _ => rfl) (by simp) (r_usd (X hx) hv)
    · cases hc
  all_goals cases hc

end Go.Im
namespace Go.Im
variable {p : Program} {M : Mp}

theorem cell_at {w : World} {b o : Nat} {c : Array Value} {ty : TypeId} {fz : Nat × Nat} (hb : w.heap[b]? = some (.cells c ty fz)) {v : Value} (hv : c[o]? = some v) : w.cell? ⟨b, o, none⟩ = some v := by
  simp [World.cell?, hb, hv]

/-- Cells are loaded. -/
theorem load_cells {w : World} {h : H} (r : Rel p M h w.heap) {f : P} {k off n : Nat} {cs : List V} {l : Loc} (hM : M f k = some l) (hb : off + n ≤ l.ext)
    (hr : rangeO (live h f k) off n = some cs) : ∃ rs : List Value, VsRel M cs rs ∧ rs.length = n ∧ (loadCells ⟨l.blk, l.base + off, none⟩ n).run p w = .ok rs.toArray w ∧ (∀ v ∈ cs, v.leaf = true) ∧
      (∀ j v, rs[j]? = some v → w.cell? ⟨l.blk, l.base + off + j, none⟩ = some v) := by
  cases hl : live h f k with
  | none => rw [hl] at hr; cases hr
  | some xs =>
    rw [hl] at hr
    obtain ⟨c, ty, frz, rs, hc, hrel, hlen, hget, hsz, hleaf⟩ := read_range r hl hM hb hr
    have hcell : ∀ j v, rs[j]? = some v → w.cell? ⟨l.blk, l.base + off + j, none⟩ = some v := fun j v hj => cell_at hc (hget j v hj)
    refine ⟨rs, hrel, hlen, ?_, hleaf, hcell⟩
    have := run_loadCells_list (P := p) w ⟨l.blk, l.base + off, none⟩ rs (fun j v hj => by
      have : (⟨l.blk, l.base + off, none⟩ : Addr).add j = ⟨l.blk, l.base + off + j, none⟩ := by
        unfold Addr.add; split <;> simp_all
      rw [this]; exact hcell j v hj)
    rw [hlen] at this; exact this

/-- What a reader's law says. -/
def RdOk (p : Program) (M : Mp) (w : World) (v : V) (s : Sem Value) : Prop := ∃ rv, VRel M v rv ∧ s.run p w = .ok rv w

theorem r_load {w : World} {h : H} (r : Rel p M h w.heap) {t : TypeId} {agg : Bool} {n : Nat} {v : V} {fr : Fr} {x : X} {rx : Value} (hagg : isA p t = some agg) (hn : posSize p t = some n)
    (hx : VRel M (x.ev fr) rx) (h1 : rLoad agg n x fr h = some v) : RdOk p M w v (Instr.loadAt t rx) := by
  simp only [rLoad] at h1
  generalize x.ev fr = q at *
  split at h1
  · rename_i f k off room
    split at h1
    · rename_i hle
      have hle := Nat.le_of_ble_eq_true hle
      cases hx with
      | ptr _ _ hM hr =>
        rename_i l
        have hb : off + n ≤ l.ext := by omega
        obtain ⟨hs, h0⟩ := posSize_spec hn
        cases hro : rangeO (live h f k) off n with
        | none => rw [hro] at h1; cases h1
        | some cs =>
          rw [hro] at h1
          obtain ⟨rs, hrel, hlen, hld, hleaf, hcell⟩ := load_cells r hM hb hro
          cases agg with
          | true =>
            cases h1
            exact ⟨.agg rs.toArray, .agg (by simpa using hrel) hleaf, by simp [Instr.loadAt, Instr.sureAddr, loadVar, run_isAgg' hagg, run_sizeOf' hs, hld]⟩
          | false =>
            simp only [one] at h1
            split at h1
            · rename_i x1
              cases h1
              cases hrel with
              | cons hx ht =>
                rename_i rv rvs
                refine ⟨rv, hx, ?_⟩
                have := hcell 0 rv (by simp)
                simp only [Nat.add_zero] at this
                simp [Instr.loadAt, Instr.sureAddr, loadVar, run_isAgg' hagg, this]
            · cases h1
    · cases h1
  · cases h1

theorem toBytes_spec : ∀ {cs : List V} {s : List Nat} {rs : List Value}, toBytes cs = some s → VsRel M cs rs → ∃ ns : List Int, rs = ns.map (Value.int .u8) ∧ ns = s.map Int.ofNat ∧ ∀ x ∈ s, x < 256
  | [], s, rs, h, hr => by
    cases h; cases hr
    exact ⟨[], rfl, rfl, fun _ h => by cases h⟩
  | c :: cs, s, rs, h, hr => by
    unfold toBytes at h
    split at h
    · rename_i heq; cases heq
    · rename_i n vs heq
      cases heq
      split at h
      · rename_i hlt
        split at h
        · rename_i s' hs'
          cases h
          cases hr with
          | cons hx ht =>
            obtain ⟨ns, e1, e2, e3⟩ := toBytes_spec hs' ht
            cases hx
            subst e1
            exact ⟨Int.ofNat n :: ns, rfl, by simp [e2], fun x hx => by
              rcases List.mem_cons.1 hx with rfl | hx
              · exact Nat.blt_eq.mp hlt
              · exact e3 x hx⟩
        · cases h
      · cases h
    · cases h

theorem bytesN_push (s : List Nat) (hs : ∀ x ∈ s, x < 256) : bytesN ⟨((s.map Int.ofNat).map fun n => UInt8.ofNat n.toNat).toArray⟩ = s := by
  simp only [bytesN, List.map_map]
  conv => rhs; rw [← List.map_id s]
  apply List.map_congr_left
  intro a ha
  have := hs a ha
  simp
  omega

theorem r_cvbs {w : World} {h : H} (r : Rel p M h w.heap) {s d e : TypeId} {v : V} {fr : Fr} {x : X} {rx : Value} (hs : p.underlying s = some (.slice e)) (hd : p.underlying d = some .string) (he : p.underlying e = some (.int .u8))
    (hx : VRel M (x.ev fr) rx) (h1 : rCvbs x fr h = some v) : RdOk p M w v (convert s d rx) := by
  simp only [rCvbs] at h1
  generalize x.ev fr = q at *
  split at h1
  · cases h1; cases hx
    exact ⟨_, .str .empty, run_convert_bytes_nil w s e hs he 0 0 d hd⟩
  · rename_i f k off len es cap
    split at h1
    · rename_i hes
      have hes := Nat.eq_of_beq_eq_true hes
      subst hes
      split at h1
      · rename_i cs hcs
        split at h1
        · rename_i st hst
          cases h1
          cases hx with
          | sl hM hl ha hlen hk hu =>
            rename_i l rc a
            obtain ⟨rs, hrel, hrl, hld, -, hcell⟩ := load_cells r hM (by omega) hcs
            obtain ⟨ns, e1, e2, e3⟩ := toBytes_spec hst hrel
            subst e1
            have key : ∀ a', (loadCells a' len).run p w = .ok (ns.map (Value.int .u8)).toArray w → RdOk p M w (.str st) (convert s d (.slice (some a') len rc)) := fun a' hl' => by
              refine ⟨.string ⟨((st.map Int.ofNat).map fun n => UInt8.ofNat n.toNat).toArray⟩, ?_, ?_⟩
              · have := bytesN_push st e3
                conv => lhs; rw [← this]
                exact .str _
              · rw [run_convert_bytes_string w s d e _ len rc hs he hd, run_bytesToString w _ len rc ns hl', foldl_push_bytes, e2]
                simp [ByteArray.empty, ByteArray.emptyWithCapacity]
                rfl
            rcases ha with ha | ha
            · subst ha
              have hl0 : len = 0 := by omega
              subst hl0
              simp at hrl
              subst hrl
              exact key a (by simp [loadCells, loadCellsFrom])
            · subst ha
              exact key _ hld
        · cases h1
      · cases h1
    · cases h1
  · cases h1

end Go.Im
namespace Go.Im
variable {p : Program} {M : Mp}

/-! maps -/
theorem ba_beq (a c : ByteArray) : (a == c) = (a.data == c.data) := by
  cases a; cases c; rfl
theorem kOf_spec {t : TypeId} {q : Q} (h : kOf p t = some q) : (q = .bool ∧ p.underlying t = some .bool) ∨ (q = .int ∧ ∃ k, p.underlying t = some (.int k)) ∨ (q = .str ∧ p.underlying t = some .string) ∨
    (q = .ptr ∧ ∃ e n, p.underlying t = some (.pointer e) ∧ sz p e = some n ∧ n ≠ 0) := by
  unfold kOf at h
  split at h
  · rename_i hq; cases h; exact .inl ⟨rfl, qOf_spec hq⟩
  · rename_i hq; cases h; exact .inr (.inl ⟨rfl, qOf_spec hq⟩)
  · rename_i hq; cases h; exact .inr (.inr (.inl ⟨rfl, qOf_spec hq⟩))
  · rename_i hq; cases h; exact .inr (.inr (.inr ⟨rfl, qOf_spec hq⟩))
  · cases h

theorem checkKey_ok' {t : TypeId} {q : Q} (h : kOf p t = some q) (empty : Bool) (v : Value) (w : World) (n : Nat) : (Instr.checkKey empty (n + 1) t v).run p w = .ok () w := by
  rcases kOf_spec h with ⟨_, hu⟩ | ⟨_, k, hu⟩ | ⟨_, hu⟩ | ⟨_, e, n, hu, _⟩ <;>
    simp [Instr.checkKey, run_underlying hu]
theorem checkKey_ok {t : TypeId} {q : Q} (h : kOf p t = some q) (empty : Bool) (v : Value) (w : World) : (Instr.checkKey empty 10000 t v).run p w = .ok () w := checkKey_ok' h empty v w 9999

/-- What a found key's search gives. -/
def FindRel (M : Mp) (res : Option (Nat × V)) (rres : Option (Nat × Value)) : Prop := match res, rres with
  | none, none => True
  | some (j, v), some (j', rv) => j = j' ∧ VRel M v rv
  | _, _ => False

theorem equal_key {t : TypeId} {q : Q} (h : kOf p t = some q) {k k' : V} {rk rk' : Value} (hk : VRel M k rk) (hk' : VRel M k' rk') {b : Bool} (he : q.eq k k' = some b) : EqOk p t rk rk' b := by
  rcases kOf_spec h with ⟨rfl, hu⟩ | ⟨rfl, k, hu⟩ | ⟨rfl, hu⟩ | ⟨rfl, e, n, hu, hn, h0⟩
  · rcases LK.eq_rel hk hk' he with ⟨e, _⟩ | ⟨_, a, c, rfl, rfl, rfl⟩ | ⟨e, _⟩
    · cases e
    · exact equal_bool hu a c
    · cases e
  · rcases LK.eq_rel hk hk' he with ⟨_, j, a, c, rfl, rfl, rfl⟩ | ⟨e, _⟩ | ⟨e, _⟩
    · intro d w; simp [Op.equalIn, run_underlying hu]
    · cases e
    · cases e
  · rcases LK.eq_rel hk hk' he with ⟨e, _⟩ | ⟨e, _⟩ | ⟨_, a, c, rfl, rfl, rfl⟩
    · cases e
    · cases e
    · intro d w; simp [Op.equalIn, run_underlying hu]
      exact ba_beq a c
  · exact equal_ptr hu hn h0 hk hk' he

theorem sameNow_key {t : TypeId} {q : Q} (h : kOf p t = some q) (hq : q ≠ .ptr) {k k' : V} {rk rk' : Value} (hk : VRel M k rk) (hk' : VRel M k' rk') {b : Bool} (he : q.eq k k' = some b) :
    ∃ d, p.underlying t = some d ∧ Instr.sameNow d rk rk' = some b := by
  rcases kOf_spec h with ⟨rfl, hu⟩ | ⟨rfl, k, hu⟩ | ⟨rfl, hu⟩ | ⟨rfl, e, n, hu, hn, h0⟩
  · rcases LK.eq_rel hk hk' he with ⟨e, _⟩ | ⟨_, a, c, rfl, rfl, rfl⟩ | ⟨e, _⟩
    · cases e
    · exact ⟨_, hu, rfl⟩
    · cases e
  · rcases LK.eq_rel hk hk' he with ⟨_, j, a, c, rfl, rfl, rfl⟩ | ⟨e, _⟩ | ⟨e, _⟩
    · exact ⟨_, hu, by simp [Instr.sameNow]⟩
    · cases e
    · cases e
  · rcases LK.eq_rel hk hk' he with ⟨e, _⟩ | ⟨e, _⟩ | ⟨_, a, c, rfl, rfl, rfl⟩
    · cases e
    · cases e
    · exact ⟨_, hu, by simp [Instr.sameNow]; exact ba_beq a c⟩
  · exact absurd rfl hq

theorem findNow_rel {t : TypeId} {q : Q} {d : TypeDesc} (h : kOf p t = some q) (hq : q ≠ .ptr) (hu : p.underlying t = some d) {k : V} {rk : Value} (hk : VRel M k rk) : ∀ {es : List (V × V × Nat)} {rs : List MapEntry}, F2 (entRel M) es rs →
    ∀ {i : Nat} {res : Option (Nat × V)}, findKey q k es i = some res → ∃ rres, Instr.findNow d rk rs i = some rres ∧ FindRel M res rres
  | _, _, .nil, i, res, h1 => by cases h1; exact ⟨none, rfl, trivial⟩
  | (k', v, b) :: es, r :: rs, .cons ⟨hx, hv, _⟩ ht, i, res, h1 => by
    unfold findKey at h1
    split at h1
    · rename_i he
      obtain ⟨d', hu', hs⟩ := sameNow_key h hq hk hx he
      rw [hu] at hu'; cases hu'
      cases h1
      exact ⟨some (i, r.val), by simp [Instr.findNow, hs], rfl, hv⟩
    · rename_i he
      obtain ⟨d', hu', hs⟩ := sameNow_key h hq hk hx he
      rw [hu] at hu'; cases hu'
      obtain ⟨rres, a, b⟩ := findNow_rel h hq hu hk ht h1
      exact ⟨rres, by simp [Instr.findNow, hs, a], b⟩
    · cases h1

theorem findAsking_rel {t : TypeId} {q : Q} (h : kOf p t = some q) {k : V} {rk : Value} (hk : VRel M k rk) : ∀ {es : List (V × V × Nat)} {rs : List MapEntry}, F2 (entRel M) es rs →
    ∀ {i : Nat} {res : Option (Nat × V)}, findKey q k es i = some res → ∃ rres, (∀ w, (Instr.findAsking t rk rs i).run p w = .ok rres w) ∧ FindRel M res rres
  | _, _, .nil, i, res, h1 => by cases h1; exact ⟨none, fun w => rfl, trivial⟩
  | (k', v, b) :: es, r :: rs, .cons ⟨hx, hv, _⟩ ht, i, res, h1 => by
    unfold findKey at h1
    split at h1
    · rename_i he
      have hs := EqOk.run (equal_key h hk hx he)
      cases h1
      exact ⟨some (i, r.val), fun w => by simp [Instr.findAsking, hs w], rfl, hv⟩
    · rename_i he
      have hs := EqOk.run (equal_key h hk hx he)
      obtain ⟨rres, a, b⟩ := findAsking_rel h hk ht h1
      exact ⟨rres, fun w => by simp [Instr.findAsking, hs w, a w], b⟩
    · cases h1

theorem findNow_ptr {e : TypeId} (rk : Value) : ∀ (rs : List MapEntry) (i : Nat), rs ≠ [] → Instr.findNow (.pointer e) rk rs i = none
  | [], _, h => absurd rfl h
  | r :: rs, i, _ => by simp [Instr.findNow, Instr.sameNow]

/-- **The search for a key.** -/
theorem find_rel {t : TypeId} {q : Q} (h : kOf p t = some q) {k : V} {rk : Value} (hk : VRel M k rk) {es : List (V × V × Nat)} {rs : List MapEntry} (hes : F2 (entRel M) es rs)
    {res : Option (Nat × V)} (h1 : findKey q k es 0 = some res) : ∃ rres, (∀ w, (Instr.findKey t rk rs).run p w = .ok rres w) ∧ FindRel M res rres := by
  have now : ∀ {d : TypeDesc}, p.underlying t = some d → q ≠ .ptr → ∃ rres, (∀ w, (Instr.findKey t rk rs).run p w = .ok rres w) ∧ FindRel M res rres := fun {d} hu hq => by
    obtain ⟨rres, a, b⟩ := findNow_rel h hq hu hk hes h1
    exact ⟨rres, fun w => by simp [Instr.findKey, run_underlying hu, a], b⟩
  rcases kOf_spec h with ⟨rfl, hu⟩ | ⟨rfl, k, hu⟩ | ⟨rfl, hu⟩ | ⟨rfl, e, n, hu, hn, h0⟩
  · exact now hu (by simp)
  · exact now hu (by simp)
  · exact now hu (by simp)
  · obtain ⟨rres, a, b⟩ := findAsking_rel h hk hes h1
    cases hrs : rs with
    | nil =>
      subst hrs
      exact ⟨rres, fun w => by
        have := a w
        simp [Instr.findAsking] at this
        simp [Instr.findKey, run_underlying hu, Instr.findNow, this], b⟩
    | cons r rs' =>
      rw [← hrs]
      exact ⟨rres, fun w => by simp [Instr.findKey, run_underlying hu, findNow_ptr rk rs 0 (by simp [hrs]), a w], b⟩

theorem mapEs_rel {w : World} {h : H} (r : Rel p M h w.heap) {v : V} {rv : Value} (hv : VRel M v rv) {es : List (V × V × Nat)} (h1 : mapEs h v = some es) :
    (rv = .map none ∧ es = []) ∨ ∃ b rs clk, rv = .map (some b) ∧ w.heap[b]? = some (.map rs clk) ∧ F2 (entRel M) es rs.toList := by
  unfold mapEs at h1
  split at h1
  · cases h1; cases hv; exact .inl ⟨rfl, rfl⟩
  · rename_i f
    split at h1
    · rename_i es' clk hg
      cases h1
      cases hv with
      | map hM =>
        rename_i l
        obtain ⟨_, ob, h2, h3⟩ := r.objs f _ l hg rfl hM
        cases h3 with
        | map hf => exact .inr ⟨l.blk, _, _, rfl, h2, hf⟩
    · cases h1
  · cases h1

theorem run_getObj_at {w : World} {b : Nat} {o : Obj} (hb : w.heap[b]? = some o) (hc : obCells o = false) : (getObj b).run p w = .ok o w := by
  cases o <;> first | (simp [obCells] at hc; done) | simp [getObj, Sem.run, hb]

theorem r_lookup {w : World} {h : H} (r : Rel p M h w.heap) {t kt e : TypeId} {q : Q} {z v : V} {ok : Bool} {fr : Fr} {x k : X} {rx rk : Value} (hu : p.underlying t = some (.map kt e)) (hq : kOf p kt = some q) (hz : zeroV p e = some z)
    (hx : VRel M (x.ev fr) rx) (hk : VRel M (k.ev fr) rk) (h1 : rLookup q z ok x k fr h = some v) : RdOk p M w v (Instr.lookup t rx rk ok) := by
  obtain ⟨rz, hrz, hzr⟩ := zeroV_rel hz M
  simp only [rLookup] at h1
  split at h1
  · rename_i es hes
    have main : ∀ {rs : List MapEntry}, F2 (entRel M) es rs → ∃ rres rv, VRel M v rv ∧ (∀ w, (Instr.findKey kt rk rs).run p w = .ok rres w) ∧
        ((∃ j v', rres = some (j, v') ∧ rv = if ok then .tuple #[v', .bool true] else v') ∨ (rres = none ∧ rv = if ok then .tuple #[rz, .bool false] else rz)) := fun {rs} hrs => by
      split at h1
      · rename_i j v' hf
        obtain ⟨rres, hrun, hrel⟩ := find_rel hq hk hrs hf
        cases h1
        cases rres with
        | none => exact hrel.elim
        | some pr =>
          obtain ⟨j', rv⟩ := pr
          refine ⟨_, _, ?_, hrun, .inl ⟨j', rv, rfl, rfl⟩⟩
          cases ok
          · exact hrel.2
          · exact .tup (.cons hrel.2 (.cons (.bool _) .nil))
      · rename_i hf
        obtain ⟨rres, hrun, hrel⟩ := find_rel hq hk hrs hf
        cases h1
        cases rres with
        | some pr => exact hrel.elim
        | none =>
          refine ⟨_, _, ?_, hrun, .inr ⟨rfl, rfl⟩⟩
          cases ok
          · exact hrz
          · exact .tup (.cons hrz (.cons (.bool _) .nil))
      · cases h1
    rcases mapEs_rel r hx hes with ⟨rfl, rfl⟩ | ⟨b, rs, clk, rfl, hb, hf⟩
    · obtain ⟨rres, rv, hrv, hrun, hc⟩ := main (rs := []) .nil
      refine ⟨rv, hrv, ?_⟩
      rcases hc with ⟨j, v', rfl, rfl⟩ | ⟨rfl, rfl⟩
      · simp [Instr.lookup, run_underlying hu, checkKey_ok hq, hrun w]
      · simp [Instr.lookup, run_underlying hu, checkKey_ok hq, hrun w, hzr w]
    · obtain ⟨rres, rv, hrv, hrun, hc⟩ := main hf
      refine ⟨rv, hrv, ?_⟩
      rcases hc with ⟨j, v', rfl, rfl⟩ | ⟨rfl, rfl⟩
      · simp [Instr.lookup, run_underlying hu, run_getObj_at hb rfl, checkKey_ok hq, hrun w]
      · simp [Instr.lookup, run_underlying hu, run_getObj_at hb rfl, checkKey_ok hq, hrun w, hzr w]
  · cases h1

theorem F2.length {α β : Type} {R : α → β → Prop} : ∀ {zs : List α} {bs : List β}, F2 R zs bs → zs.length = bs.length
  | _, _, .nil => rfl
  | _, _, .cons _ t => by simp [t.length]

theorem r_lenm {w : World} {h : H} (r : Rel p M h w.heap) {t kt e ty : TypeId} {v : V} {fr : Fr} {x : X} {rx : Value} {ats : Array TypeId} (hat : ats[0]? = some t) (hu : p.underlying t = some (.map kt e))
    (hx : VRel M (x.ev fr) rx) (h1 : rLenm x fr h = some v) : RdOk p M w v (Builtin.len_ ats ty #[rx]) := by
  simp only [rLenm] at h1
  split at h1
  · rename_i es hes
    cases h1
    rcases mapEs_rel r hx hes with ⟨rfl, rfl⟩ | ⟨b, rs, clk, rfl, hb, hf⟩
    · exact ⟨_, .int _ _, by simp [Builtin.len_, hat, run_underlying hu, goInt]⟩
    · refine ⟨_, .int _ _, ?_⟩
      have := hf.length
      simp at this
      simp [Builtin.len_, hat, run_underlying hu, goInt, run_getObj_at hb rfl, this]
  · cases h1

end Go.Im
namespace Go.Im
variable {p : Program} {M : Mp}

theorem run_viewAt_cells {w : World} {b : Nat} {c : Array Value} {ty : TypeId} {fz : Nat × Nat} (hb : w.heap[b]? = some (.cells c ty fz)) : (viewAt b).run p w = .ok none w := by
  simp [viewAt, World.shape?, hb]
theorem run_seenAt_cells {w : World} {b o : Nat} {c : Array Value} {ty : TypeId} {fz : Nat × Nat} (hb : w.heap[b]? = some (.cells c ty fz)) : (Conv.seenAt ⟨b, o, none⟩).run p w = .ok ⟨b, o, none⟩ w := by
  simp [Conv.seenAt, run_viewAt_cells hb]
theorem run_cellsIn_cells {w : World} {b : Nat} {c : Array Value} {ty : TypeId} {fz : Nat × Nat} (hb : w.heap[b]? = some (.cells c ty fz)) : (cellsIn b).run p w = .ok (some c.size) w := by
  simp [cellsIn, World.shape?, hb]

theorem r_cvpu {w : World} {h : H} (r : Rel p M h w.heap) {s d e : TypeId} {n : Nat} {v : V} {fr : Fr} {x : X} {rx : Value} (hs : p.underlying s = some (.pointer e)) (hd : p.underlying d = some .unsafePointer) (hn : posSize p e = some n)
    (hx : VRel M (x.ev fr) rx) (h1 : rCvpu x fr h = some v) : RdOk p M w v (convert s d rx) := by
  simp only [rCvpu] at h1
  generalize x.ev fr = q at *
  split at h1
  · cases h1; cases hx
    exact ⟨_, .pnil, by simp [convert, run_underlying hs, run_underlying hd, Conv.unsafePointer]⟩
  · rename_i f k off room
    split at h1
    · rename_i xs hl
      split at h1
      · cases h1
      · rename_i n'
        cases h1
        cases hx with
        | ptr _ _ hM hr =>
          rename_i l
          obtain ⟨ver, dead, md, ty, hg, h1, h2⟩ := live_spec hl
          obtain ⟨l0, h0⟩ := (r.dom f k l hM).2.2.2
          obtain ⟨l', hl', _, ho, hown, c, frz, hc, hsz, hcells, hz⟩ := r.cells f xs ver dead md ty l0 hg h0 k h1 h2
          rw [hM] at hl'; cases hl'
          have hlim := (r.dom f k l hM).2.2.1
          refine ⟨_, .ptr off (n' + 1) hM hr, ?_⟩
          obtain ⟨hs', hn0⟩ := posSize_spec hn
          have hlt : ¬ (c.size ≤ l.base + off) := by omega
          simp [convert, run_underlying hs, run_underlying hd, Conv.unsafePointer, run_seenAt_cells hc, run_cellsIn_cells hc, run_sizeOf' hs', hn0, hlt]
    · cases h1
  · cases h1

theorem liesAt_self {e : TypeId} {s : Nat} (hs : p.cellsOf e = s) (h0 : s ≠ 0) (count off n : Nat) (hmod : off % s = 0) (hn : off / s + n ≤ count) : liesAt p p.depth e count off e n = true := by
  have hd : p.depth = (2 * (p.types.size + Made.depth) + 1) + 1 := rfl
  rw [hd]
  simp only [liesAt, Bool.or_eq_true]
  left
  rw [hd]
  simp [rowAt, hs, h0, hmod, hn, sameLayout]

theorem cellsOf_sz {e : TypeId} {s : Nat} (h : sz p e = some s) : p.cellsOf e = s := by
  unfold sz at h
  simp [Program.cellsOf, h]

theorem run_variablesAt_self {w : World} {b o : Nat} {c : Array Value} {e : TypeId} {fz : Nat × Nat} (hb : w.heap[b]? = some (.cells c e fz)) {s : Nat} (hs : sz p e = some s) (h0 : s ≠ 0) (n : Nat) (hmod : o % s = 0) (hn : o / s + n ≤ c.size / s) :
    (variablesAt ⟨b, o, none⟩ e n).run p w = .ok true w := by
  simp [variablesAt, World.shape?, hb, cellsOf_sz hs, liesAt_self (cellsOf_sz hs) h0 _ _ _ hmod hn]

theorem r_cvup {w : World} {h : H} (r : Rel p M h w.heap) {s d e : TypeId} {n : Nat} {v : V} {fr : Fr} {x : X} {rx : Value} (hs : p.underlying s = some .unsafePointer) (hd : p.underlying d = some (.pointer e)) (hn : posSize p e = some n)
    (hx : VRel M (x.ev fr) rx) (h1 : rCvup e n x fr h = some v) : RdOk p M w v (convert s d rx) := by
  simp only [rCvup] at h1
  generalize x.ev fr = q at *
  split at h1
  · cases h1; cases hx
    exact ⟨_, .pnil, by simp [convert, run_underlying hs, run_underlying hd, Conv.unsafePointer]⟩
  · rename_i f k off room
    split at h1
    · rename_i xs ver dead md ty hg
      split at h1
      · rename_i hb
        simp only [Bool.and_eq_true] at hb
        obtain ⟨⟨⟨⟨⟨hb1, hb2⟩, hb3⟩, hb4⟩, hb5⟩, hb6⟩ := hb
        have hb6 : md ≠ .ro := by rintro rfl; cases hb6
        have hb1 := Nat.le_of_ble_eq_true hb1
        have hb2 := Nat.le_of_ble_eq_true hb2
        have hb3 := Nat.eq_of_beq_eq_true hb3
        have hb4 := Nat.eq_of_beq_eq_true hb4
        have hb5 := Nat.le_of_ble_eq_true hb5
        subst hb3
        cases h1
        cases hx with
        | ptr _ _ hM hr =>
          rename_i l
          obtain ⟨l0, h0⟩ := (r.dom f k l hM).2.2.2
          obtain ⟨l', hl', hmod, ho, hown, c, frz, hc, hsz, hcells, hz⟩ := r.cells f xs ver dead md e l0 hg h0 k hb1 hb2
          rw [hM] at hl'; cases hl'
          have hlim := (r.dom f k l hM).2.2.1
          obtain ⟨hs', hn0⟩ := posSize_spec hn
          have hm := (hmod hb6).1 n hs'
          refine ⟨_, .ptr off room hM hr, ?_⟩
          have hmod' : (l.base + off) % n = 0 := by rw [Nat.add_mod, hm, hb4]; simp
          have hdiv : (l.base + off) / n + 1 ≤ c.size / n := by
            rw [Nat.le_div_iff_mul_le (by omega)]
            have := Nat.div_add_mod (l.base + off) n
            rw [hmod'] at this
            rw [Nat.add_mul, Nat.mul_comm]; omega
          simp [convert, run_underlying hs, run_underlying hd, Conv.unsafePointer, run_seenAt_cells hc, run_sizeOf' hs', hn0, run_variablesAt_self hc hs' hn0 1 hmod' hdiv]
      · cases h1
    · cases h1
  · cases h1

theorem RdOk.value {w : World} {v : V} {s : Sem Value} (h : RdOk p M w v s) : ∃ rv, VRel M v rv ∧ (do pure (.value (← s)) : Sem Next).run p w = .ok (.value rv) w :=
  let ⟨rv, a, b⟩ := h; ⟨rv, a, by simp [b]⟩

/-- **A reader.** -/
theorem sim_rd {N : Nat} {fr : Fr} {a : Act} (hf : FrRel M N fr a.tmps) (hg : GOk p M) {w : World} {h : H} (r : Rel p M h w.heap) {o : Oper} {i : IR} (hc : cRd p N o = some i) {v : V} (hv : i.f fr h = some v) :
    ∃ rv, VRel M v rv ∧ (execOp a.eval o).run p w = .ok (.value rv) w := by
  have X := fun {x X'} (h : cX p N x = some X') => cX_rel hf hg h
  obtain ⟨dst, op, type, pos, after, guard⟩ := o
  cases op <;> simp only [cRd] at hc
  case load t x =>
    simp only [Option.bind_eq_bind, Option.bind_eq_some_iff, Option.some.injEq] at hc
    obtain ⟨b, hb, n, hn, y, hy, rfl⟩ := hc
    exact (r_load r hb hn (X hy) hv).value
  case convert s d x =>
    simp only [Option.bind_eq_bind, Option.bind_eq_some_iff] at hc
    obtain ⟨y, hy, ds, hs, dd, hd, hc⟩ := hc
    split at hc
    · simp only [Option.bind_eq_some_iff] at hc
      obtain ⟨de, he, hc⟩ := hc
      split at hc
      · cases hc; exact (r_cvbs r hs hd he (X hy) hv).value
      · cases hc
    · simp only [Option.bind_eq_some_iff, Option.some.injEq] at hc
      obtain ⟨n, hn, rfl⟩ := hc
      exact (r_cvpu r hs hd hn (X hy) hv).value
    · simp only [Option.bind_eq_some_iff, Option.some.injEq] at hc
      obtain ⟨n, hn, rfl⟩ := hc
      exact (r_cvup r hs hd hn (X hy) hv).value
    · cases hc
  case lookup t x ix ok =>
    simp only [Option.bind_eq_bind, Option.bind_eq_some_iff] at hc
    obtain ⟨td, hu, hc⟩ := hc
    split at hc
    · simp only [Option.bind_eq_some_iff, Option.some.injEq] at hc
      obtain ⟨q, hq, z, hz, y, hy, k, hk, rfl⟩ := hc
      exact (r_lookup r hu hq hz (X hy) (X hk) hv).value
    · cases hc
  case call c =>
    simp only [Option.bind_eq_bind, Option.bind_eq_some_iff] at hc
    obtain ⟨xs, hxs, hc⟩ := hc
    obtain ⟨callee, cargs, ats⟩ := c
    split at hc
    · rename_i x hcal
      obtain ⟨y, hy, hx⟩ := one_mapM hxs
      have hargs : cargs = #[y] := Array.ext' (by simpa using hy)
      subst hargs
      simp only at hcal
      subst hcal
      simp only [Option.bind_eq_some_iff] at hc
      obtain ⟨at0, hat, td, hu, hc⟩ := hc
      split at hc
      · cases hc
        obtain ⟨cs, e⟩ := exec_builtin a.eval .len #[y] ats ⟨dst, .call ⟨.builtin .len, #[y], ats⟩, type, pos, after, guard⟩ rfl
        rw [e]
        have := (r_lenm (ty := type) r hat hu (X hx) hv).value
        simpa [builtin] using this
      · cases hc
    · cases hc
  all_goals cases hc

end Go.Im
namespace Go.Im
variable {p : Program} {M : Mp}

/-! runes -/
theorem at_get (s : ByteArray) (pos k : Nat) : (nthD ((bytesN s).drop pos) k).getD 0 = (s.get! (pos + k)).toNat := by
  rw [nthD_eq, List.getElem?_drop]
  simp only [bytesN, List.getElem?_map]
  rw [Array.getElem?_toList]
  by_cases h : pos + k < s.data.size
  · have : s.get! (pos + k) = s.data[pos + k] := by
      show s.data[pos + k]! = _
      rw [getElem!_pos s.data (pos + k) h]
    rw [this, Array.getElem?_eq_getElem h]; rfl
  · have : s.get! (pos + k) = 0 := by
      show s.data[pos + k]! = _
      rw [getElem!_neg s.data (pos + k) h]; rfl
    rw [this, Array.getElem?_eq_none (Nat.le_of_not_lt h)]; rfl

theorem decodeU_eq (s : ByteArray) (pos : Nat) (h : pos < s.size) : decodeU ((bytesN s).drop pos) = Utf8.decode s pos := by
  have hb : ∀ k, Nat.blt k ((bytesN s).drop pos).length = decide (pos + k < s.size) := fun k => by
    have hl : ((bytesN s).drop pos).length = s.size - pos := by
      rw [List.length_drop, bytesN_length]
    rw [hl, Bool.eq_iff_iff, Nat.blt_eq]
    simp; omega
  have hq : ∀ a b : Nat, Nat.beq a b = (a == b) := fun a b => by rw [Bool.eq_iff_iff, Nat.beq_eq]; simp
  have h3 : ∀ a b c : Nat, Utf8.valid (((a % 16) * 4096 + (b % 64) * 64 + c % 64 : Nat) : Int) = (Nat.blt ((a % 16) * 4096 + (b % 64) * 64 + c % 64) 0xD800 || Nat.ble 0xE000 ((a % 16) * 4096 + (b % 64) * 64 + c % 64)) := fun a b c => by
    rw [Bool.eq_iff_iff]
    simp only [Utf8.valid, Bool.or_eq_true, Bool.and_eq_true, decide_eq_true_eq, Nat.blt_eq, Nat.ble_eq]
    omega
  have h4 : ∀ c : Nat, 0x10000 ≤ c → Utf8.valid (c : Int) = Nat.ble c 0x10FFFF := fun c hc => by
    rw [Bool.eq_iff_iff]
    simp only [Utf8.valid, Bool.or_eq_true, Bool.and_eq_true, decide_eq_true_eq, Nat.ble_eq]
    omega
  have hblt : ∀ a b : Nat, (Nat.blt a b = true) = (a < b) := fun a b => by rw [Nat.blt_eq]
  have hble : ∀ a b : Nat, (Nat.ble a b = true) = (a ≤ b) := fun a b => by rw [Nat.ble_eq]
  unfold decodeU Utf8.decode
  simp only [at_get, hb, hq, hblt, hble, Utf8.runeError, Bool.and_eq_true, Bool.or_eq_true, decide_eq_true_eq, ge_iff_le, h3]
  split
  · rfl
  · split
    · rfl
    · split
      · rfl
      · split
        · generalize ((s.get! (pos + 0)).toNat % 8 * 262144 + (s.get! (pos + 1)).toNat % 64 * 4096 + (s.get! (pos + 2)).toNat % 64 * 64 + (s.get! (pos + 3)).toNat % 64) = c
          by_cases hc : 65536 ≤ c
          · simp [hc, h4 c hc]
          · simp [hc]
        · rfl

/-! makers -/
/-- What a maker's law says: whatever the memory holds, one object is laid at its end. -/
def MkOk (p : Program) (M : Mp) (o : O) (g : P → V) (s : Sem Value) : Prop :=
  ∀ w : World, ∃ (ob : Obj) (ext lim : Nat) (rv : Value) (w' : World), s.run p w = .ok rv w' ∧ w'.heap = w.heap.push ob ∧ w'.os = w.os ∧ w'.output = w.output ∧ w'.tape = w.tape ∧
    ∀ (f : P) (M' : Mp), M.le M' → M' f 0 = some ⟨w.heap.size, 0, ext, lim⟩ → VRel M' (g f) rv ∧ NewOk p M' ⟨w.heap.size, 0, ext, lim⟩ o ob

theorem VRel.sl0 {M' : Mp} {f : P} {b ext lim len es rc : Nat} {cap : Option Nat} (h : M' f 0 = some ⟨b, 0, ext, lim⟩) (h1 : len * es ≤ ext) (h2 : len ≤ rc) (h3 : ∀ c, cap = some c → rc = c ∧ c * es ≤ ext)
    (h4 : cap = none → rc * es ≤ lim) : VRel M' (.sl f 0 0 len es cap) (.slice (some ⟨b, 0, none⟩) len rc) :=
  .sl (off := 0) (l := ⟨b, 0, ext, lim⟩) h (by simpa using h1) (.inr rfl) h2 (fun c e => by simpa using h3 c e) (fun e => by simpa using h4 e)

theorem newCells {M' : Mp} {xs : List V} {rs : List Value} {c : Array Value} {ty : TypeId} {frz : Nat × Nat} {b lim : Nat} (hr : VsRel M' xs rs) (hl : ∀ x ∈ xs, x.leaf = true) (hc : ∀ i, i < xs.length → c[i]? = rs[i]?)
    (h1 : xs.length ≤ lim) (h2 : lim ≤ c.size) (hz : frz = (0, 0) ∨ frz.1 = c.size) : NewOk p M' ⟨b, 0, xs.length, lim⟩ (.cells xs 0 0 .rw ty) (.cells c ty frz) := by
  refine .cells (.zero _ _) rfl h1 (by simpa using h2) (fun i v hv => ?_) (fun i hi => ?_)
  · have hi : i < xs.length := by
      rcases Nat.lt_or_ge i xs.length with h | h
      · exact h
      · rw [List.getElem?_eq_none h] at hv; cases hv
    obtain ⟨rv, a, b⟩ := hr.get hv
    exact ⟨rv, by simpa [hc i hi] using a, b, hl v (List.mem_of_getElem? hv)⟩
  · rcases hz with rfl | hz
    · simp
    · simp only at hi h2 ⊢; omega

theorem MkOk.value {o : O} {g : P → V} {s : Sem Value} (h : MkOk p M o g s) (w : World) : ∃ (ob : Obj) (ext lim : Nat) (rv : Value) (w' : World), (do pure (.value (← s)) : Sem Next).run p w = .ok (.value rv) w' ∧
    w'.heap = w.heap.push ob ∧ w'.os = w.os ∧ w'.output = w.output ∧ w'.tape = w.tape ∧
    ∀ (f : P) (M' : Mp), M.le M' → M' f 0 = some ⟨w.heap.size, 0, ext, lim⟩ → VRel M' (g f) rv ∧ NewOk p M' ⟨w.heap.size, 0, ext, lim⟩ o ob :=
  let ⟨ob, ext, lim, rv, w', h1, h2⟩ := h w
  ⟨ob, ext, lim, rv, w', by simp [h1], h2⟩

theorem r_alloc {t : TypeId} {z : List V} (hz : zeroC p t = some z) {fr : Fr} {o : O} {g : P → V} (h : mAlloc t z fr = some (o, g)) :
    MkOk p M o g (Instr.alloc t true (.tuple #[])) := fun w => by
  cases h
  obtain ⟨rz, hr, hl, hrun⟩ := zeroC_rel hz M
  have hlen := hr.length
  refine ⟨.cells rz.cells t, z.length, z.length, .pointer (some ⟨w.heap.size, 0, none⟩), w.alloc (.cells rz.cells t), by simp [Instr.alloc, hrun w, newVar, newRow], rfl, rfl, rfl, rfl, fun f M' hM hf => ⟨?_, ?_⟩⟩
  · have := VRel.ptr (M := M') 0 z.length hf (by simp)
    simpa using this
  · exact newCells (hr.mono hM) hl (fun i _ => by simp) (Nat.le_refl _) (by rw [hlen]; simp) (.inl rfl)

theorem r_box {t : TypeId} {n : Nat} (hn : posSize p t = some n) {fr : Fr} {x : X} {rx : Value} (hx : VRel M (x.ev fr) rx) {o : O} {g : P → V} (h : mBox t n x fr = some (o, g)) :
    MkOk p M o g (Instr.box t rx) := fun w => by
  unfold mBox at h
  split at h
  · rename_i hb
    have hb := Nat.eq_of_beq_eq_true hb
    cases h
    have hne : (x.ev fr).cells ≠ [] := fun e => by rw [e] at hb; exact (posSize_spec hn).2 hb.symm
    obtain ⟨hr, hl⟩ := cells_rel hx hne
    have hlen := hr.length
    subst hb
    refine ⟨.cells rx.cells t, (x.ev fr).cells.length, (x.ev fr).cells.length, .pointer (some ⟨w.heap.size, 0, none⟩), w.alloc (.cells rx.cells t), by simp [Instr.box, newVar, newRow], rfl, rfl, rfl, rfl, fun f M' hM hf => ⟨?_, ?_⟩⟩
    · have := VRel.ptr (M := M') 0 (x.ev fr).cells.length hf (by simp)
      simpa using this
    · exact newCells (hr.mono hM) hl (fun i _ => by simp) (Nat.le_refl _) (by rw [hlen]; simp) (.inl rfl)
  · cases h

theorem rep_rel {z : List V} {rz : List Value} (h : VsRel M z rz) : ∀ n, VsRel M (rep z n) (rep rz n)
  | 0 => .nil
  | n + 1 => h.append (rep_rel h n)
theorem rep_length {α : Type} (z : List α) : ∀ n, (rep z n).length = n * z.length
  | 0 => by simp [rep]
  | n + 1 => by simp [rep, rep_length z n, Nat.add_mul, Nat.add_comm]
theorem rep_get {α : Type} (z : List α) (hz : z.length ≠ 0) : ∀ (n i : Nat), i < n * z.length → (rep z n)[i]? = z[i % z.length]?
  | 0, i, h => by simp at h
  | n + 1, i, h => by
    simp only [rep]
    by_cases hi : i < z.length
    · rw [List.getElem?_append_left hi, Nat.mod_eq_of_lt hi]
    · rw [List.getElem?_append_right (by omega), rep_get z hz n (i - z.length) (by rw [Nat.add_mul] at h; omega), ← Nat.mod_eq_sub_mod (by omega)]
theorem rep_leaf {z : List V} (h : ∀ c ∈ z, c.leaf = true) : ∀ n, ∀ c ∈ rep z n, c.leaf = true
  | 0, c, hc => by cases hc
  | n + 1, c, hc => by
    rcases List.mem_append.1 hc with h' | h'
    · exact h c h'
    · exact rep_leaf h n c h'
theorem range_rep (rz : Array Value) (n : Nat) (hz : rz.size ≠ 0) : (Array.range (n * rz.size)).map (fun i => rz[i % rz.size]!) = (rep rz.toList n).toArray := by
  apply Array.ext'
  apply List.ext_getElem?
  intro i
  by_cases hi : i < n * rz.size
  · rw [List.toList_toArray, rep_get rz.toList (by simpa using hz) n i (by simpa using hi)]
    have hm : i % rz.size < rz.size := Nat.mod_lt _ (by omega)
    simp [hi, hm]
  · have h1 : (rep rz.toList n).length = n * rz.size := by rw [rep_length]; simp
    rw [List.getElem?_eq_none (by simp; omega), List.getElem?_eq_none (by simp [h1]; omega)]

theorem r_bslice {N : Nat} {fr : Fr} {a : Act} (hf : FrRel M N fr a.tmps) (hg : GOk p M) {t e : TypeId} {n len : Nat} {z : List V} {ps : Array (Nat × Operand)} {qs : List (Nat × Nat × X)}
    (hu : p.underlying t = some (.slice e)) (hn : posSize p e = some n) (hz : zeroC p e = some z) (hzl : z.length = n) (hmax : len * n ≤ 2 ^ 24)
    (hq : (ps.toList.mapM fun (x : Nat × Operand) => do some (x.1 * n, n, ← cX p N x.2)) = some qs) {o : O} {g : P → V} (h : mBslice e n len z qs fr = some (o, g)) :
    MkOk p M o g (Instr.buildSlice t len (ps.map fun (i, x) => (i, a.eval x))) := fun w => by
  unfold mBslice at h
  split at h
  · rename_i cs hcs
    cases h
    obtain ⟨hs, hn0⟩ := posSize_spec hn
    obtain ⟨rz, hr, hl, hrun⟩ := zeroC_rel hz M
    have hlen := hr.length
    have hrz : rz.cells.size = n := by rw [← hzl, hlen]; simp
    have hF : F2 (fun (a : Nat × Operand) (b : Nat × Nat × X) => (fun i => some (i * n, n)) a.1 = some (b.1, b.2.1) ∧ cX p N a.2 = some b.2.2 ∧ b.2.1 ≠ 0) ps.toList qs := by
      refine (mapM_F2 _ hq).imp fun a b h => ?_
      simp only [Option.bind_eq_bind, Option.bind_eq_some_iff, Option.some.injEq] at h
      obtain ⟨X', hX, rfl⟩ := h
      exact ⟨rfl, hX, hn0⟩
    obtain ⟨rcs, h1, h2, h3, h4⟩ := fill_rel hf hg (place := fun i => some (i * n, n)) ps.toList hF (rz := (rep rz.cells.toList len).toArray) (by simpa using rep_rel hr len) (rep_leaf hl len) hcs
    have hsz : rcs.size = len * n := by rw [h4]; simp [rep_length, hrz]
    have hcl := h2.length
    have hgo : (Instr.buildSlice t len (ps.map fun (i, x) => (i, a.eval x))).run p w = .ok (.slice (some ⟨w.heap.size, 0, none⟩) len len) (w.alloc (.cells rcs e)) := by
      have harr : (Array.range (len * n)).map (fun i => (if len * n = 0 then (#[] : Array Value) else rz.cells)[i % (if len * n = 0 then (#[] : Array Value) else rz.cells).size]!) = (rep rz.cells.toList len).toArray := by
        by_cases h0 : len * n = 0
        · have : len = 0 := by
            rcases Nat.mul_eq_zero.1 h0 with h | h
            · exact h
            · exact absurd h hn0
          subst this
          simp [rep]
        · simp only [h0, if_false]
          have := range_rep rz.cells len (by omega)
          rw [hrz] at this
          rw [← this, hrz]
      have hle : ¬ (len * n > 2 ^ 24) := by omega
      simp only [Instr.buildSlice, Sem.run_bind, run_underlying hu, Result.andThen_ok, run_sizeOf' hs, if_neg hle]
      by_cases h0 : len * n = 0
      · rw [if_pos h0]
        simp only [h0, if_true] at harr
        simp only [h0, Sem.run_bind, Sem.run_pure, Result.andThen_ok, harr, Array.toList_map, h1]
        simp [newRow]
      · rw [if_neg h0]
        simp only [h0, if_false] at harr
        simp only [Sem.run_bind, hrun w, Sem.run_pure, Result.andThen_ok, harr, Array.toList_map, h1]
        simp [newRow]
    refine ⟨.cells rcs e, cs.length, cs.length, _, _, hgo, rfl, rfl, rfl, rfl, fun f M' hM hf' => ⟨?_, ?_⟩⟩
    · have hc : cs.length = len * n := by rw [hcl]; simpa using hsz
      exact VRel.sl0 (cap := some len) hf' (by simp [hc]) (Nat.le_refl _) (fun c e => by cases e; exact ⟨rfl, by simp [hc]⟩) (fun e => by cases e)
    · exact newCells (h2.mono hM) h3 (fun i _ => by simp) (Nat.le_refl _) (by rw [hcl]; simp) (.inl rfl)
  · cases h


theorem run_choose_cap (need old : Nat) (e : TypeId) (w : World) : ∃ c, need ≤ c ∧ (choose (.appendCap need old e)).run p w = .ok c { w with drawn := w.drawn + 1 } :=
  ⟨need + w.tape w.drawn (.appendCap need old e) % (2 ^ 63 - need), Nat.le_add_right need _, by simp [Question.forced, Question.cut]⟩

theorem bytesOf_rel (M : Mp) : ∀ (b : List UInt8), VsRel M (bytesOf (b.map UInt8.toNat)) (b.map fun x => Value.int .u8 x.toNat)
  | [] => .nil
  | _ :: b => .cons (.int _ _) (bytesOf_rel M b)
theorem bytesOf_length : ∀ (b : List Nat), (bytesOf b).length = b.length
  | [] => rfl
  | _ :: b => by simp [bytesOf, bytesOf_length b]
theorem bytesOf_leaf : ∀ (b : List Nat), ∀ c ∈ bytesOf b, c.leaf = true
  | [], _, h => by cases h
  | x :: b, c, h => by
    rcases List.mem_cons.1 h with rfl | h
    · rfl
    · exact bytesOf_leaf b c h

theorem modify_push {α : Type} (a : Array α) (x : α) (f : α → α) : (a.push x).modify a.size f = a.push (f x) := by
  apply Array.ext_getElem?
  intro i
  rw [Array.getElem?_modify, Array.getElem?_push, Array.getElem?_push]
  by_cases h : a.size = i
  · subst h; simp
  · simp [h, Ne.symm h]

theorem run_markStringish {w : World} {b o : Nat} {c : Array Value} {e : TypeId} {fz : Nat × Nat} (hb : w.heap[b]? = some (.cells c e fz)) : (markStringish ⟨b, o, none⟩).run p w = .ok () (w.freeze ⟨b, c.size, none⟩ 1) := by
  simp [markStringish, World.shape?, hb]

theorem r_cvsb {s d e : TypeId} (hs : p.underlying s = some .string) (hd : p.underlying d = some (.slice e)) (he : p.underlying e = some (.int .u8)) {fr : Fr} {x : X} {rx : Value} (hx : VRel M (x.ev fr) rx) {o : O} {g : P → V}
    (h : mCvsb e x fr = some (o, g)) : MkOk p M o g (convert s d rx) := fun w => by
  unfold mCvsb at h
  generalize x.ev fr = q at *
  split at h
  · cases h
    cases hx with
    | str b =>
      obtain ⟨c, hc, hch⟩ := run_choose_cap (p := p) b.size 0 e w
      have hbl : (bytesN b).length = b.size := bytesN_length b
      let cells : Array Value := b.data.map (fun (y : UInt8) => Value.int .u8 y.toNat) ++ Array.replicate (c - b.size) (Value.int .u8 0)
      have hcs : cells.size = c := by
        show (b.data.map (fun (y : UInt8) => Value.int .u8 y.toNat) ++ Array.replicate (c - b.size) (Value.int .u8 0)).size = c
        have : b.data.size = b.size := rfl
        simp; omega
      let w1 : World := { w with drawn := w.drawn + 1 }
      let w2 := w1.alloc (.cells cells e)
      have h2 : w2.heap[w.heap.size]? = some (.cells cells e (0, 0)) := by
        show (w.heap.push (.cells cells e (0, 0)))[w.heap.size]? = _
        simp
      have h3 : (w2.freeze ⟨w.heap.size, cells.size, none⟩ 1).heap = w.heap.push (.cells cells e (cells.size, cells.size + 1)) := by
        simp only [World.freeze, if_neg Nat.one_ne_zero]
        exact (modify_push w.heap (.cells cells e (0, 0)) _).trans (by simp)
      refine ⟨.cells cells e (cells.size, cells.size + 1), (bytesOf (bytesN b)).length, c, .slice (some ⟨w.heap.size, 0, none⟩) b.size c, w2.freeze ⟨w.heap.size, cells.size, none⟩ 1, ?_, h3, ?_, ?_, ?_, fun f M' hM hf => ⟨?_, ?_⟩⟩
      · simp only [convert, Sem.run_bind, run_underlying hs, run_underlying hd, run_underlying he, Result.andThen_ok, Conv.stringToBytes, hch, newRow, run_newObj, Sem.run_pure]
        exact (congrArg (fun r => Result.andThen r fun _ w' => Result.ok (Value.slice (some ⟨w.heap.size, 0, none⟩) b.size c) w') (run_markStringish (p := p) (o := 0) h2))
      · simp [World.freeze]; rfl
      · simp [World.freeze]; rfl
      · simp [World.freeze]; rfl
      · have := VRel.sl0 (len := (bytesN b).length) (es := 1) (rc := c) (cap := none) hf (by simp [bytesOf_length]) (by omega) (fun c e => by cases e) (fun _ => by simp)
        rw [hbl] at this ⊢; exact this
      · refine newCells (rs := b.data.toList.map fun x => Value.int .u8 x.toNat) ?_ (bytesOf_leaf _) (fun i hi => ?_) (by rw [bytesOf_length, hbl]; exact hc) (by omega) (.inr rfl)
        · exact bytesOf_rel M' b.data.toList
        · rw [bytesOf_length, hbl] at hi
          have : b.data.size = b.size := rfl
          show (b.data.map (fun (y : UInt8) => Value.int .u8 y.toNat) ++ Array.replicate (c - b.size) (Value.int .u8 0))[i]? = _
          rw [Array.getElem?_append_left (by simp; omega)]
          simp
  · cases h


theorem runes_cons (n : Nat) {s : List Nat} (h : s ≠ []) : runes (n + 1) s = (decodeU s).1 :: runes n (ldrop s (decodeU s).2) := by
  cases s with
  | nil => exact absurd rfl h
  | cons _ _ => rfl
theorem runes_nil (n : Nat) : runes n [] = [] := by cases n <;> rfl
theorem runesFrom_eq (s : ByteArray) : ∀ (bound i : Nat) (acc : Array Value), (Conv.runesFrom s bound i acc).toList = acc.toList ++ (runes bound ((bytesN s).drop i)).map fun n => Value.int .i32 (Int.ofNat n)
  | 0, _, acc => by simp [Conv.runesFrom, runes]
  | bound + 1, i, acc => by
    unfold Conv.runesFrom
    have hl : (bytesN s).length = s.size := bytesN_length s
    split
    · rename_i h
      have he : (bytesN s).drop i ≠ [] := fun he => by
        have := congrArg List.length he; simp [hl] at this; omega
      rw [runes_cons bound he, decodeU_eq s i h, ldrop_eq, List.drop_drop]
      simp only [runesFrom_eq s bound]
      simp
    · rename_i h
      have : (bytesN s).drop i = [] := List.drop_eq_nil_of_le (by omega)
      rw [this, runes_nil]; simp

theorem ints_rel (M : Mp) (k : IntKind) : ∀ (b : List Nat), VsRel M (b.map fun n => V.int k (.ofNat n)) (b.map fun n => Value.int k (Int.ofNat n))
  | [] => .nil
  | _ :: b => .cons (.int _ _) (ints_rel M k b)

theorem r_cvsr {s d e : TypeId} (hs : p.underlying s = some .string) (hd : p.underlying d = some (.slice e)) (he : p.underlying e = some (.int .i32)) {fr : Fr} {x : X} {rx : Value} (hx : VRel M (x.ev fr) rx) {o : O} {g : P → V}
    (h : mCvsr e x fr = some (o, g)) : MkOk p M o g (convert s d rx) := fun w => by
  unfold mCvsr at h
  generalize x.ev fr = q at *
  split at h
  · cases h
    cases hx with
    | str b =>
      have hbl : (bytesN b).length = b.size := bytesN_length b
      have hr := runesFrom_eq b b.size 0 #[]
      simp only [List.drop_zero, List.nil_append] at hr
      generalize hns : runes b.size (bytesN b) = ns at *
      have hsz : (Conv.runesFrom b b.size 0 #[]).size = ns.length := by rw [← Array.length_toList, hr]; simp
      obtain ⟨c, hc, hch⟩ := run_choose_cap (p := p) (Conv.runesFrom b b.size 0 #[]).size 0 e w
      let cells : Array Value := Conv.runesFrom b b.size 0 #[] ++ Array.replicate (c - (Conv.runesFrom b b.size 0 #[]).size) (Value.int .i32 0)
      have hcs : cells.size = c := by
        show (Conv.runesFrom b b.size 0 #[] ++ Array.replicate (c - (Conv.runesFrom b b.size 0 #[]).size) (Value.int .i32 0)).size = c
        simp; omega
      rw [hbl, hns]
      refine ⟨.cells cells e, (ns.map fun b => V.int .i32 (.ofNat b)).length, c, .slice (some ⟨w.heap.size, 0, none⟩) ns.length c, { w with drawn := w.drawn + 1, heap := w.heap.push (.cells cells e) }, ?_, rfl, rfl, rfl, rfl, fun f M' hM hf => ⟨?_, ?_⟩⟩
      · simp only [convert, Sem.run_bind, run_underlying hs, run_underlying hd, run_underlying he, Result.andThen_ok, Conv.stringToRunes, hch]
        simp [newRow, cells, hsz]
        exact ⟨rfl, rfl, rfl⟩
      · exact VRel.sl0 (len := ns.length) (es := 1) (rc := c) (cap := none) hf (by simp) (by omega) (fun c e => by cases e) (fun _ => by simp)
      · refine newCells (rs := ns.map fun n => Value.int .i32 (Int.ofNat n)) (ints_rel M' .i32 ns) (fun x hx => ?_) (fun i hi => ?_) (by simp; omega) (by omega) (.inl rfl)
        · obtain ⟨n, _, rfl⟩ := List.mem_map.1 hx; rfl
        · simp at hi
          show (Conv.runesFrom b b.size 0 #[] ++ Array.replicate (c - (Conv.runesFrom b b.size 0 #[]).size) (Value.int .i32 0))[i]? = _
          rw [Array.getElem?_append_left (by omega), ← Array.getElem?_toList, hr]
  · cases h

theorem r_mkmap {t : TypeId} {fr : Fr} {o : O} {g : P → V} (h : mMap fr = some (o, g)) : MkOk p M o g (Instr.makeMap t none) := fun w => by
  cases h
  exact ⟨.map #[] 0, 0, 0, .map (some w.heap.size), w.alloc (.map #[] 0), by simp [Instr.makeMap], rfl, rfl, rfl, rfl, fun f M' hM hf => ⟨.map hf, .obj rfl (Nat.le_refl _) (.map .nil)⟩⟩

theorem r_rngs {t : TypeId} (hu : p.underlying t = some .string) {fr : Fr} {x : X} {rx : Value} (hx : VRel M (x.ev fr) rx) {o : O} {g : P → V} (h : mRngs x fr = some (o, g)) : MkOk p M o g (Instr.range t rx) := fun w => by
  unfold mRngs at h
  generalize x.ev fr = q at *
  split at h
  · cases h
    cases hx with
    | str b =>
      refine ⟨.stringIter b 0, 0, 0, .pointer (some ⟨w.heap.size, 0, none⟩), w.alloc (.stringIter b 0), by simp [Instr.range, run_underlying hu], rfl, rfl, rfl, rfl, fun f M' hM hf => ⟨?_, ?_⟩⟩
      · have := VRel.ptr (M := M') 0 0 hf (by simp)
        simpa using this
      · have := ORel.siter (p := p) (M := M') b 0
        exact .obj rfl (Nat.le_refl _) (by simpa using this)
  · cases h

theorem wrap_small (k : IntKind) (hk : k = .i64) (n : Nat) (h : n ≤ 1099511627776) : k.wrap (n : Int) = n := by
  subst hk
  have := wrapF_eq .i64 (.ofNat n)
  simp only [wrapF] at this
  have hb : Nat.blt n 9223372036854775808 = true := by rw [Nat.blt_eq]; omega
  rw [hb] at this
  exact this.symm

set_option maxRecDepth 4000 in
theorem r_mksl {t e : TypeId} {n : Nat} {z : List V} {ti : TypeInfo} (hu : p.underlying t = some (.slice e)) (hz : zeroC p e = some z) (hn : posSize p e = some n) (hzl : z.length = n) (hti : p.info? e = some ti) {fr : Fr} {x y : X} {rx ry : Value}
    (hx : VRel M (x.ev fr) rx) (hy : VRel M (y.ev fr) ry) {o : O} {g : P → V} (h : mMksl e n ti.bytes z x y fr = some (o, g)) : MkOk p M o g (Instr.makeSlice t rx ry) := fun w => by
  unfold mMksl at h
  split at h
  · rename_i l hl
    split at h
    · rename_i c hc
      split at h
      · rename_i hb
        simp only [Bool.and_eq_true] at hb
        obtain ⟨⟨hb1, hb2⟩, hb3⟩ := hb
        have hb1 := Nat.le_of_ble_eq_true hb1
        have hb2 := Nat.le_of_ble_eq_true hb2
        have hb3 := Nat.le_of_ble_eq_true hb3
        cases h
        obtain ⟨k1, rfl⟩ := nat_spec hl hx
        obtain ⟨k2, rfl⟩ := nat_spec hc hy
        obtain ⟨hs, hn0⟩ := posSize_spec hn
        obtain ⟨rz, hr, hzle, hrun⟩ := zeroC_rel hz M
        have hlen := hr.length
        have hrz : rz.cells.size = n := by rw [← hzl, hlen]; simp
        have hw1 := wrap_small .i64 rfl l (by omega)
        have hw2 := wrap_small .i64 rfl c hb2
        have hgo : (Instr.makeSlice t (.int k1 l) (.int k2 c)).run p w = .ok (.slice (some ⟨w.heap.size, 0, none⟩) l c) (w.alloc (.cells (rep rz.cells.toList c).toArray e)) := by
          have harr : ¬ (c * n = 0) → (Array.range (c * n)).map (fun i => rz.cells[i % rz.cells.size]!) = (rep rz.cells.toList c).toArray := fun h0 => by
            have := range_rep rz.cells c (by omega)
            rw [hrz] at this ⊢; exact this
          have e1 : ¬ ((ti.bytes : Int) * (c : Int) > 2 ^ 48) := by
            have : ((ti.bytes * c : Nat) : Int) ≤ ((140737488355328 : Nat) : Int) := Int.ofNat_le.2 hb3
            rw [Int.natCast_mul] at this
            omega
          have e2 : ¬ ((l : Int) > (c : Int)) := by omega
          have e3 : ¬ ((c : Int) < 0) := by omega
          have e4 : ¬ ((l : Int) < 0) := by omega
          have ai : ∀ (k : IntKind) (m : Int), (asInt (.int k m)).run p w = .ok m w := fun k m => by simp [asInt, asIntOf]
          have ti' : (typeInfo e).run p w = .ok ti w := by simp [typeInfo, hti]
          simp only [Instr.makeSlice, Sem.run_bind, run_underlying hu, Result.andThen_ok, ai, ti', hw1, hw2, e1, e2, e3, e4, decide_false, Bool.or_false, Bool.false_eq_true, if_false, run_askRoom, run_sizeOf' hs, Int.toNat_natCast]
          by_cases h0 : c * n = 0
          · have hc0 : c = 0 := by
              rcases Nat.mul_eq_zero.1 h0 with h | h
              · exact h
              · exact absurd h hn0
            subst hc0
            simp [newRow, rep]
            congr 2
            apply Array.ext <;> simp
          · simp only [h0, if_false, Sem.run_bind, hrun w, Sem.run_pure, Result.andThen_ok, harr h0]
            simp [newRow]
        have hrl : (rep rz.cells.toList c).length = c * n := by rw [rep_length]; simp [hrz]
        refine ⟨.cells (rep rz.cells.toList c).toArray e, (rep z c).length, (rep z c).length, _, _, hgo, rfl, rfl, rfl, rfl, fun f M' hM hf => ⟨?_, ?_⟩⟩
        · have hc : (rep z c).length = c * n := by rw [rep_length, hzl]
          exact VRel.sl0 (cap := some c) hf (by simp [hc]; exact Nat.mul_le_mul_right _ hb1) hb1 (fun c' e => by cases e; exact ⟨rfl, by simp [hc]⟩) (fun e => by cases e)
        · exact newCells ((rep_rel hr c).mono hM) (rep_leaf hzle c) (fun i _ => by simp) (Nat.le_refl _) (by rw [rep_length, hzl]; simp [hrl]) (.inl rfl)
      · cases h
    · cases h
  · cases h


/-- **A maker.** -/
theorem sim_mk {N : Nat} {fr : Fr} {a : Act} (hf : FrRel M N fr a.tmps) (hg : GOk p M) {o : Oper} {i : IM} (hc : cMk p N o = some i) {ob : O} {g : P → V} (hv : i.f fr = some (ob, g)) :
    ∃ s : Sem Value, MkOk p M ob g s ∧ execOp a.eval o = (do pure (.value (← s))) := by
  have X := fun {x X'} (h : cX p N x = some X') => cX_rel hf hg h
  obtain ⟨dst, op, type, pos, after, guard⟩ := o
  cases op <;> simp only [cMk] at hc
  case alloc t =>
    simp only [Option.bind_eq_bind, Option.bind_eq_some_iff] at hc
    obtain ⟨z, hz, n, hn, hc⟩ := hc
    split at hc
    · cases hc; exact ⟨_, r_alloc (fr := fr) hz hv, rfl⟩
    · cases hc
  case box t x =>
    simp only [Option.bind_eq_bind, Option.bind_eq_some_iff, Option.some.injEq] at hc
    obtain ⟨n, hn, y, hy, rfl⟩ := hc
    exact ⟨_, r_box hn (X hy) hv, rfl⟩
  case buildSlice t len ps =>
    simp only [Option.bind_eq_bind, Option.bind_eq_some_iff] at hc
    obtain ⟨td, hu, hc⟩ := hc
    split at hc
    · simp only [Option.bind_eq_some_iff] at hc
      obtain ⟨n, hn, z, hz, qs, hq, hc⟩ := hc
      split at hc
      · rename_i hb
        cases hc
        exact ⟨_, r_bslice hf hg hu hn hz hb.1 hb.2 hq hv, rfl⟩
      · cases hc
    · cases hc
  case convert s d x =>
    simp only [Option.bind_eq_bind, Option.bind_eq_some_iff] at hc
    obtain ⟨y, hy, ds, hs, dd, hd, hc⟩ := hc
    split at hc
    · simp only [Option.bind_eq_some_iff] at hc
      obtain ⟨de, he, hc⟩ := hc
      split at hc
      · cases hc; exact ⟨_, r_cvsb hs hd he (X hy) hv, rfl⟩
      · cases hc; exact ⟨_, r_cvsr hs hd he (X hy) hv, rfl⟩
      · cases hc
    · cases hc
  case makeMap t r =>
    cases r with
    | none => cases hc; exact ⟨_, r_mkmap (fr := fr) hv, rfl⟩
    | some _ => cases hc
  case makeSlice t l c =>
    simp only [Option.bind_eq_bind, Option.bind_eq_some_iff] at hc
    obtain ⟨td, hu, hc⟩ := hc
    split at hc
    · simp only [Option.bind_eq_some_iff] at hc
      obtain ⟨z, hz, n, hn, hc⟩ := hc
      split at hc
      · rename_i hzl
        simp only [Option.bind_eq_some_iff, Option.some.injEq] at hc
        obtain ⟨ti, hti, x, hx, y, hy, rfl⟩ := hc
        exact ⟨_, r_mksl hu hz hn hzl hti (X hx) (X hy) hv, rfl⟩
      · cases hc
    · cases hc
  case range t x =>
    simp only [Option.bind_eq_bind, Option.bind_eq_some_iff] at hc
    obtain ⟨td, hu, hc⟩ := hc
    split at hc
    · simp only [Option.bind_eq_some_iff, Option.some.injEq] at hc
      obtain ⟨y, hy, rfl⟩ := hc
      exact ⟨_, r_rngs hu (X hy) hv, rfl⟩
    · cases hc
  all_goals cases hc

end Go.Im
namespace Go.Im
variable {p : Program} {M : Mp}

theorem wcells_spec {h h' : H} {f : P} {k off : Nat} {vs : List V} (hw : wcells h f k off vs = some h') : ∃ xs dead ty xs', h.get f = some (.cells xs k dead .rw ty) ∧ dead ≤ k ∧ lput xs off vs = some xs' ∧ h' = h.set f (.cells xs' k k .rw ty) := by
  unfold wcells at hw
  split at hw
  · rename_i xs ver dead md ty hg
    split at hw
    · rename_i hb
      simp only [Bool.and_eq_true] at hb
      obtain ⟨⟨hb1, hb2⟩, hb3⟩ := hb
      have hb1 := Nat.eq_of_beq_eq_true hb1
      subst hb1
      have hmd : md = .rw := by cases md <;> first | rfl | (simp [Md.isRw] at hb2)
      subst hmd
      split at hw
      · rename_i xs' hx
        cases hw
        exact ⟨xs, dead, ty, xs', hg, Nat.le_of_ble_eq_true hb3, hx, rfl⟩
      · cases hw
    · cases hw
  · cases hw

theorem VRel.oneCell {v : V} {r : Value} (h : VRel M v r) (hl : v.leaf = true) : r.oneCell' = true := by rw [leaf_oneCell, h.leaf_iff, hl]
theorem VsRel.oneCells : ∀ {vs : List V} {rs : List Value}, VsRel M vs rs → (∀ v ∈ vs, v.leaf = true) → ∀ r ∈ rs, r.oneCell' = true
  | _, _, .nil, _, _, h => by cases h
  | _, _, .cons hx ht, hl, r, h => by
    rcases List.mem_cons.1 h with rfl | h
    · exact hx.oneCell (hl _ (by simp))
    · exact ht.oneCells (fun v hv => hl v (by simp [hv])) r h

/-- That cells are there to be stored into. -/
theorem store_may {w : World} {h : H} (r : Rel p M h w.heap) {f : P} {k dead : Nat} {xs : List V} {ty : TypeId} {l : Loc} (hM : M f k = some l) (hg : h.get f = some (.cells xs k dead .rw ty)) (hd : dead ≤ k) {off n : Nat} (hn : off + n ≤ l.lim) :
    (∀ j, j < n → (w.cell? ⟨l.blk, l.base + off + j, none⟩).isSome = true) ∧ (∀ j, j < n → w.frozen? ⟨l.blk, l.base + off + j, none⟩ = false) := by
  obtain ⟨l0, h0⟩ := (r.dom f k l hM).2.2.2
  obtain ⟨l', hl', hmod, ho, hown, c, frz, hc, hsz, hcells, hz⟩ := r.cells f xs k dead .rw ty l0 hg h0 k hd (Nat.le_refl _)
  rw [hM] at hl'; cases hl'
  refine ⟨fun j hj => ?_, fun j hj => ?_⟩
  · have hlt : l.base + off + j < c.size := by omega
    rw [cell_at hc (Array.getElem?_eq_getElem hlt)]; rfl
  · have := hz rfl (off + j) (by omega)
    simp only [World.frozen?, hc]
    rw [Bool.and_eq_false_iff]
    simp only [decide_eq_false_iff_not]
    by_cases hlo : frz.1 ≤ l.base + (off + j)
    · right; intro h2; exact this ⟨hlo, by omega⟩
    · left; omega

/-- Cells are stored. -/
theorem store_step' {w : World} {h h' : H} (r : Rel p M h w.heap) {f : P} {k off : Nat} {vs : List V} {rvs : List Value} {l : Loc} (hM : M f k = some l) (hw : wcells h f k off vs = some h') (hv : VsRel M vs rvs)
    (hl : ∀ v ∈ vs, v.leaf = true) : Step p M h w M h' (w.setCells l.blk (l.base + off) rvs) ∧ (∀ j, j < rvs.length → (w.cell? ⟨l.blk, l.base + off + j, none⟩).isSome = true) ∧
      (∀ j, j < rvs.length → w.frozen? ⟨l.blk, l.base + off + j, none⟩ = false) ∧ (vs ≠ [] → off + vs.length ≤ l.ext) := by
  obtain ⟨xs, dead, ty, xs', hg, hd, hx, rfl⟩ := wcells_spec hw
  obtain ⟨l0, h0⟩ := (r.dom f k l hM).2.2.2
  obtain ⟨l', hl', hmod, ho, hown, c, frz, hc, hsz, hcells, hz⟩ := r.cells f xs k dead .rw ty l0 hg h0 k hd (Nat.le_refl _)
  rw [hM] at hl'; cases hl'
  have hlim := (r.dom f k l hM).2.2.1
  have hext : l.ext = xs.length := hown (by simp)
  obtain ⟨s1, s2, s3⟩ := lput_spec _ _ _ hx
  have hvl := hv.length
  have hin : ∀ j, j < rvs.length → off + rvs.length ≤ xs.length := fun j hj => by
    have : vs ≠ [] := fun e => by rw [e] at hvl; simp at hvl; omega
    have := s2 this
    omega
  refine ⟨?_, fun j hj => (store_may r hM hg hd (by have := hin j hj; omega)).1 j hj, fun j hj => (store_may r hM hg hd (by have := hin j hj; omega)).2 j hj, fun hne => by have := s2 hne; omega⟩
  obtain ⟨c', g1, g2, g3, g4⟩ := setCells_heap l.blk rvs (l.base + off) w c hc
  refine step_cells r hg hd h0 hM (by simp) ?_ (setCells_size _ _ _ _) (fun b hb => setCells_heap_ne _ _ _ _ hb) (setCells_rest _ _ _ _).1 (setCells_rest _ _ _ _).2.1 (setCells_rest _ _ _ _).2.2
  refine ⟨hmod, by omega, fun _ => by omega, c', frz, g1, by omega, fun i v hi hv' => ?_, fun _ => hz rfl⟩
  rw [s3 i] at hv'
  split at hv'
  · rename_i hin'
    obtain ⟨rv, a, b⟩ := hv.get hv'
    have hij : i - off < rvs.length := by omega
    have := g4 (i - off) hij (by have := hin (i - off) hij; omega)
    refine ⟨rv, ?_, b, hl v (List.mem_of_getElem? hv')⟩
    rw [show l.base + i = l.base + off + (i - off) by omega, this]; exact a
  · rename_i hout
    obtain ⟨rv, a, b, d⟩ := hcells i v hi hv'
    exact ⟨rv, by rw [g3 (l.base + i) (by omega)]; exact a, b, d⟩
theorem store_step {w : World} {h h' : H} (r : Rel p M h w.heap) {f : P} {k off : Nat} {vs : List V} {rvs : List Value} {l : Loc} (hM : M f k = some l) (hw : wcells h f k off vs = some h') (hv : VsRel M vs rvs)
    (hl : ∀ v ∈ vs, v.leaf = true) : ∃ w', (storeCells ⟨l.blk, l.base + off, none⟩ rvs).run p w = .ok () w' ∧ Step p M h w M h' w' := by
  obtain ⟨h1, h2, h3, _⟩ := store_step' r hM hw hv hl
  have := run_storeCells_cells (P := p) l.blk (l.base + off) rvs 0 w (by simpa using h2) (by simpa using h3) (hv.oneCells hl)
  exact ⟨_, this, h1⟩

/-- What a writer's law says. -/
def WrOk (p : Program) (M : Mp) (h : H) (w : World) (v : V) (h' : H) (s : Sem Value) : Prop :=
  ∃ M' rv w', s.run p w = .ok rv w' ∧ VRel M' v rv ∧ Step p M h w M' h' w'
def WsOk (p : Program) (M : Mp) (h : H) (w : World) (v : V) (h' : H) (s : Sem Unit) : Prop :=
  v = .tup [] ∧ ∃ M' w', s.run p w = .ok () w' ∧ Step p M h w M' h' w'

section
variable {w : World} {h h' : H} (r : Rel p M h w.heap) {fr : Fr} {v : V}
include r

theorem r_store {t : TypeId} {n : Nat} (hn : posSize p t = some n) {a x : X} {ra rx : Value} (ha : VRel M (a.ev fr) ra) (hx : VRel M (x.ev fr) rx) (h1 : wStore n a x fr h = some (v, h')) :
    WsOk p M h w v h' (Instr.storeAt t ra rx) := by
  unfold wStore at h1
  generalize a.ev fr = qa at *
  split at h1
  · rename_i f k off room
    split at h1
    · rename_i hb
      simp only [Bool.and_eq_true] at hb
      have hb1 := Nat.eq_of_beq_eq_true hb.1
      have hb2 := Nat.le_of_ble_eq_true hb.2
      split at h1
      · rename_i h2 hw
        cases h1
        obtain ⟨hs, hn0⟩ := posSize_spec hn
        have hne : (x.ev fr).cells ≠ [] := fun e => by rw [e] at hb1; exact hn0 hb1.symm
        obtain ⟨hv, hl⟩ := cells_rel hx hne
        cases ha with
        | ptr _ _ hM hr =>
          obtain ⟨w', e1, e2⟩ := store_step r hM hw hv hl
          refine ⟨rfl, M, w', ?_, e2⟩
          have hsz : rx.cells.size = n := by rw [← hb1, hv.length]; simp
          simp [Instr.storeAt, Instr.sureAddr, storeVar, run_sizeOf' hs, hsz, e1]
      · cases h1
    · cases h1
  · cases h1

end
end Go.Im
namespace Go.Im
variable {p : Program} {M : Mp}

theorem run_setObj_at {w : World} {b : Nat} {o o' : Obj} (hb : w.heap[b]? = some o) (hc : obCells o = false) : (setObj b o').run p w = .ok () { w with heap := w.heap.setIfInBounds b o' } := by
  cases o <;> first | (simp [obCells] at hc; done) | simp [setObj, Sem.run, hb]

theorem key_same {t : TypeId} {q : Q} (h : kOf p t = some q) {k k' : V} {rk rk' : Value} (hk : VRel M k rk) (hk' : VRel M k' rk') (he : q.eq k k' = some true) : rk = rk' ∧ Instr.sameBits 10000 rk rk = true := by
  rcases kOf_spec h with ⟨rfl, hu⟩ | ⟨rfl, k, hu⟩ | ⟨rfl, hu⟩ | ⟨rfl, e, n, hu, hn, h0⟩
  · rcases LK.eq_rel hk hk' he with ⟨e, _⟩ | ⟨_, a, c, rfl, rfl, hb⟩ | ⟨e, _⟩
    · cases e
    · have : a = c := by simpa using hb.symm
      subst this
      exact ⟨rfl, by cases a <;> rfl⟩
    · cases e
  · rcases LK.eq_rel hk hk' he with ⟨_, j, a, c, rfl, rfl, hb⟩ | ⟨e, _⟩ | ⟨e, _⟩
    · have : a = c := by simpa using hb.symm
      subst this
      exact ⟨rfl, by simp [Instr.sameBits]⟩
    · cases e
    · cases e
  · rcases LK.eq_rel hk hk' he with ⟨e, _⟩ | ⟨e, _⟩ | ⟨_, a, c, rfl, rfl, hb⟩
    · cases e
    · cases e
    · have : a = c := by
        have : a.data.toList = c.data.toList := by simpa using hb.symm
        exact ByteArray.ext (Array.ext' this)
      subst this
      exact ⟨rfl, by simp [Instr.sameBits, ba_beq]⟩
  · simp only [Q.eq] at he
    unfold eqPtr at he
    split at he
    · cases hk; cases hk'; exact ⟨rfl, by simp [Instr.sameBits]⟩
    · cases he
    · cases he
    · rename_i f k i r g l j s
      split at he
      · rename_i hb
        simp only [Bool.and_eq_true] at hb
        have e1 := pEq_iff.1 hb.1
        have e2 := Nat.eq_of_beq_eq_true hb.2
        subst e1 e2
        cases he' : Nat.beq i j with
        | false => rw [he'] at he; cases he
        | true =>
          have e3 := Nat.eq_of_beq_eq_true he'
          subst e3
          cases hk with
          | ptr _ _ hM hr => cases hk' with
            | ptr _ _ hM' hr' =>
              rw [hM] at hM'; cases hM'
              exact ⟨rfl, by simp [Instr.sameBits]⟩
      · cases he
    · cases he

theorem findKey_spec {q : Q} {k : V} : ∀ {es : List (V × V × Nat)} {i j : Nat} {v : V}, findKey q k es i = some (some (j, v)) → ∃ d k' b, j = i + d ∧ es[d]? = some (k', v, b) ∧ q.eq k k' = some true
  | [], i, j, v, h => by cases h
  | (k', v', b) :: es, i, j, v, h => by
    unfold findKey at h
    split at h
    · rename_i he
      cases h
      exact ⟨0, k', b, rfl, rfl, he⟩
    · obtain ⟨d, k2, b2, h1, h2, h3⟩ := findKey_spec h
      exact ⟨d + 1, k2, b2, by omega, by simpa using h2, h3⟩
    · cases h

theorem F2.get {α β : Type} {R : α → β → Prop} : ∀ {zs : List α} {bs : List β}, F2 R zs bs → ∀ {i : Nat} {a : α}, zs[i]? = some a → ∃ b, bs[i]? = some b ∧ R a b
  | _, _, .nil, _, _, h => by simp at h
  | _, _, .cons hx t, i, a, h => by
    cases i with
    | zero => simp at h; subst h; exact ⟨_, by simp, hx⟩
    | succ i => simp at h; obtain ⟨b, h1, h2⟩ := t.get h; exact ⟨b, by simpa using h1, h2⟩
theorem F2.modify {α β : Type} {R : α → β → Prop} {f : β → β} {a' : α} : ∀ {zs : List α} {bs : List β}, F2 R zs bs → ∀ {i : Nat}, (∀ b, bs[i]? = some b → R a' (f b)) → F2 R (zs.set i a') (bs.modify i f)
  | _, _, .nil, i, _ => by simp; exact .nil
  | _, _, .cons hx t, i, h => by
    cases i with
    | zero => simp at h ⊢; exact .cons h t
    | succ i => simp at h ⊢; exact .cons hx (t.modify h)
theorem F2.erase {α β : Type} {R : α → β → Prop} : ∀ {zs : List α} {bs : List β}, F2 R zs bs → ∀ (i : Nat), F2 R (zs.eraseIdx i) (bs.eraseIdx i)
  | _, _, .nil, i => by simp; exact .nil
  | _, _, .cons hx t, i => by
    cases i with
    | zero => simpa using t
    | succ i => simp; exact .cons hx (t.erase i)
theorem F2.append {α β : Type} {R : α → β → Prop} : ∀ {zs : List α} {bs : List β}, F2 R zs bs → ∀ {as' : List α} {bs' : List β}, F2 R as' bs' → F2 R (zs ++ as') (bs ++ bs')
  | _, _, .nil, _, _, h => h
  | _, _, .cons hx t, _, _, h => .cons hx (t.append h)

section
variable {w : World} {h h' : H} (r : Rel p M h w.heap) {fr : Fr} {v : V}
include r

theorem map_at {f : P} {es : List (V × V × Nat)} {clk : Nat} (hg : h.get f = some (.map es clk)) {l : Loc} (hM : M f 0 = some l) : ∃ rs, w.heap[l.blk]? = some (.map rs clk) ∧ F2 (entRel M) es rs.toList := by
  obtain ⟨_, ob, h2, h3⟩ := r.objs f _ l hg rfl hM
  cases h3 with
  | map hf => exact ⟨_, h2, hf⟩

theorem r_mapupd {t kt e : TypeId} {q : Q} (hu : p.underlying t = some (.map kt e)) (hq : kOf p kt = some q) {m k x : X} {rm rk rx : Value} (hm : VRel M (m.ev fr) rm) (hk : VRel M (k.ev fr) rk) (hx : VRel M (x.ev fr) rx)
    (h1 : wMapupd q m k x fr h = some (v, h')) : WsOk p M h w v h' (Instr.mapUpdate t rm rk rx) := by
  unfold wMapupd at h1
  generalize m.ev fr = qm at *
  split at h1
  · rename_i f
    split at h1
    · rename_i es clk hg
      cases hm with
      | map hM =>
        rename_i l
        obtain ⟨rs, hb, hF⟩ := map_at r hg hM
        split at h1
        · rename_i i v0 hf
          obtain ⟨rres, hrun, hrel⟩ := find_rel hq hk hF hf
          obtain ⟨d, k', b, hd, he, heq⟩ := findKey_spec hf
          simp only [Nat.zero_add] at hd
          subst hd
          rw [nthD_eq, he] at h1
          cases h1
          cases rres with
          | none => exact hrel.elim
          | some pr =>
            obtain ⟨j', rv⟩ := pr
            obtain ⟨rfl, -⟩ := hrel
            obtain ⟨re, hre, hk', hv', hb'⟩ := hF.get he
            obtain ⟨e1, e2⟩ := key_same hq hk hk' heq
            have hre' : rs[i]? = some re := by rw [← Array.getElem?_toList]; exact hre
            refine ⟨rfl, M, { w with heap := w.heap.setIfInBounds l.blk (.map (rs.modify i fun e => { e with key := rk, val := rx }) clk) }, ?_, step_obj r hM hg rfl ?_ rfl rfl rfl rfl⟩
            · have hkeep : (Instr.keyThatStays re.key rk).run p w = .ok rk w := by
                rw [← e1]; simp [Instr.keyThatStays, e2]
              simp [Instr.mapUpdate, run_underlying hu, run_getObj_at hb rfl, checkKey_ok hq, hrun w, hre', hkeep, run_setObj_at hb rfl]
            · refine .map ?_
              rw [lset_eq, Array.toList_modify]
              refine hF.modify fun b0 hb0 => ?_
              rw [hre] at hb0; cases hb0
              exact ⟨e1 ▸ hk', hx, hb'⟩
        · rename_i hf
          obtain ⟨rres, hrun, hrel⟩ := find_rel hq hk hF hf
          cases h1
          cases rres with
          | some pr => exact hrel.elim
          | none =>
            refine ⟨rfl, M, { w with heap := w.heap.setIfInBounds l.blk (.map (rs.push { key := rk, val := rx, born := clk }) (clk + 1)) }, ?_, step_obj r hM hg rfl ?_ rfl rfl rfl rfl⟩
            · simp [Instr.mapUpdate, run_underlying hu, run_getObj_at hb rfl, checkKey_ok hq, hrun w, run_setObj_at hb rfl]
            · refine .map ?_
              rw [Array.toList_push]
              exact hF.append (.cons ⟨hk, hx, rfl⟩ .nil)
        · cases h1
    · cases h1
  · cases h1

theorem r_del {t kt e ty : TypeId} {q : Q} {ats : Array TypeId} (hat : ats[0]? = some t) (hu : p.underlying t = some (.map kt e)) (hq : kOf p kt = some q) {m k : X} {rm rk : Value} (hm : VRel M (m.ev fr) rm) (hk : VRel M (k.ev fr) rk)
    (h1 : wDel q m k fr h = some (v, h')) : WrOk p M h w v h' (Builtin.delete_ ats ty #[rm, rk]) := by
  unfold wDel at h1
  generalize m.ev fr = qm at *
  split at h1
  · cases h1; cases hm
    exact ⟨M, _, w, by simp [Builtin.delete_, hat, run_underlying hu, checkKey_ok hq], .tup .nil, .refl r rfl rfl rfl rfl⟩
  · rename_i f
    split at h1
    · rename_i es clk hg
      cases hm with
      | map hM =>
        rename_i l
        obtain ⟨rs, hb, hF⟩ := map_at r hg hM
        split at h1
        · rename_i i v0 hf
          obtain ⟨rres, hrun, hrel⟩ := find_rel hq hk hF hf
          cases h1
          cases rres with
          | none => exact hrel.elim
          | some pr =>
            obtain ⟨j', rv⟩ := pr
            obtain ⟨rfl, -⟩ := hrel
            refine ⟨M, .tuple #[], { w with heap := w.heap.setIfInBounds l.blk (.map (rs.eraseIdxIfInBounds i) clk) }, ?_, .tup .nil, step_obj r hM hg rfl ?_ rfl rfl rfl rfl⟩
            · simp [Builtin.delete_, hat, run_underlying hu, run_getObj_at hb rfl, checkKey_ok hq, hrun w, run_setObj_at hb rfl]
            · refine .map ?_
              rw [Array.toList_eraseIdxIfInBounds]
              exact hF.erase i
        · rename_i hf
          obtain ⟨rres, hrun, hrel⟩ := find_rel hq hk hF hf
          cases h1
          cases rres with
          | some pr => exact hrel.elim
          | none =>
            refine ⟨M, .tuple #[], { w with heap := w.heap.setIfInBounds l.blk (.map rs clk) }, ?_, .tup .nil, .refl r ?_ rfl rfl rfl⟩
            · simp [Builtin.delete_, hat, run_underlying hu, run_getObj_at hb rfl, checkKey_ok hq, hrun w, run_setObj_at hb rfl]
            · show w.heap.setIfInBounds l.blk (.map rs clk) = w.heap
              apply Array.ext_getElem?
              intro i
              rw [Array.getElem?_setIfInBounds]
              split
              · rename_i e; subst e
                rw [hb]
                have := r.lt hM
                simp [this]
              · rfl
        · cases h1
    · cases h1
  · cases h1

theorem r_clrm {t kt e ty : TypeId} {ats : Array TypeId} (hat : ats[0]? = some t) (hu : p.underlying t = some (.map kt e)) {m : X} {rm : Value} (hm : VRel M (m.ev fr) rm)
    (h1 : wClrm m fr h = some (v, h')) : WrOk p M h w v h' (Builtin.clear_ ats ty #[rm]) := by
  unfold wClrm at h1
  generalize m.ev fr = qm at *
  split at h1
  · cases h1; cases hm
    exact ⟨M, _, w, by simp [Builtin.clear_, hat, run_underlying hu], .tup .nil, .refl r rfl rfl rfl rfl⟩
  · rename_i f
    split at h1
    · rename_i es clk hg
      cases hm with
      | map hM =>
        rename_i l
        obtain ⟨rs, hb, hF⟩ := map_at r hg hM
        cases h1
        refine ⟨M, .tuple #[], { w with heap := w.heap.setIfInBounds l.blk (.map #[] clk) }, ?_, .tup .nil, step_obj r hM hg rfl (.map .nil) rfl rfl rfl rfl⟩
        simp [Builtin.clear_, hat, run_underlying hu, run_getObj_at hb rfl, run_setObj_at hb rfl]
    · cases h1
  · cases h1

end
end Go.Im
namespace Go.Im
variable {p : Program} {M : Mp} {w : World} {h h' : H} (r : Rel p M h w.heap) {fr : Fr} {v : V}
include r

theorem r_rngm {t kt e : TypeId} (hu : p.underlying t = some (.map kt e)) {x : X} {rx : Value} (hx : VRel M (x.ev fr) rx) (h1 : wRngm x fr h = some (v, h')) : WrOk p M h w v h' (Instr.range t rx) := by
  unfold wRngm at h1
  generalize x.ev fr = q at *
  have fin : ∀ {o : O} {ob : Obj}, ORel p (M.add h.next 0 ⟨w.heap.size, 0, 0, 0⟩) o ob → (Instr.range t rx).run p w = .ok (.pointer (some ⟨w.heap.size, 0, none⟩)) (w.alloc ob) →
      WrOk p M h w (.ptr h.next 0 0 0) (h.new o) (Instr.range t rx) := fun {o ob} ho hrun => by
    refine ⟨M.add h.next 0 ⟨w.heap.size, 0, 0, 0⟩, _, w.alloc ob, hrun, ?_, step_new r rfl (.obj rfl (Nat.le_refl _) ho) rfl rfl rfl rfl⟩
    have := VRel.ptr (M := M.add h.next 0 ⟨w.heap.size, 0, 0, 0⟩) 0 0 (Mp.add_same M h.next 0 ⟨w.heap.size, 0, 0, 0⟩) (by simp)
    simpa using this
  split at h1
  · cases h1; cases hx
    exact fin (.miter0 (seen := #[])) (by simp [Instr.range, run_underlying hu])
  · rename_i m
    split at h1
    · rename_i es clk hg
      cases h1
      cases hx with
      | map hM =>
        rename_i l
        obtain ⟨rs, hb, hF⟩ := map_at r hg hM
        refine fin (.miter (seen := #[]) (Mp.le_add (r.next_none 0) _ _ _ hM)) (by simp [Instr.range, run_underlying hu, run_getObj_at hb rfl])
    · cases h1
  · cases h1

theorem iter_at {o : O} {f : P} (hg : h.get f = some o) (hc : o.isCells = false) {l : Loc} (hM : M f 0 = some l) : l.base = 0 ∧ ∃ ob, w.heap[l.blk]? = some ob ∧ ORel p M o ob := r.objs f o l hg hc hM

omit r in
theorem F2.filter {α β : Type} {R : α → β → Prop} {g : α → Bool} {g' : β → Bool} (hg : ∀ a b, R a b → g a = g' b) : ∀ {zs : List α} {bs : List β}, F2 R zs bs → F2 R (zs.filter g) (bs.filter g')
  | _, _, .nil => .nil
  | a :: zs, b :: bs, .cons hx t => by
    simp only [List.filter_cons, hg a b hx]
    split
    · exact .cons hx (t.filter hg)
    · exact t.filter hg
omit r in
theorem F2.all {α β : Type} {R : α → β → Prop} {g : α → Bool} {g' : β → Bool} (hg : ∀ a b, R a b → g a = g' b) : ∀ {zs : List α} {bs : List β}, F2 R zs bs → zs.all g = bs.all g'
  | _, _, .nil => rfl
  | a :: zs, b :: bs, .cons hx t => by simp [hg a b hx, t.all hg]
omit r in
theorem F2.find {α β : Type} {R : α → β → Prop} {g : α → Bool} {g' : β → Bool} (hg : ∀ a b, R a b → g a = g' b) : ∀ {zs : List α} {bs : List β}, F2 R zs bs → ∀ {a : α}, zs.find? g = some a → ∃ b, bs.find? g' = some b ∧ R a b
  | _, _, .nil, _, h => by cases h
  | a :: zs, b :: bs, .cons hx t, x, h => by
    simp only [List.find?_cons, ← hg a b hx] at h ⊢
    split at h
    · cases h; exact ⟨b, rfl, hx⟩
    · exact t.find hg h

omit r in
theorem ptr_iter {f : P} {k room : Nat} {rx : Value} {o : O} (r : Rel p M h w.heap) (hx : VRel M (.ptr f k 0 room) rx) (hg : h.get f = some o) (hc : o.isCells = false) :
    ∃ l ob, M f 0 = some l ∧ rx = .pointer (some ⟨l.blk, 0, none⟩) ∧ w.heap[l.blk]? = some ob ∧ ORel p M o ob := by
  cases hx with
  | ptr _ _ hM hr =>
    rename_i l
    have hk : k = 0 := by
      rcases Nat.eq_zero_or_pos k with h | h
      · exact h
      · rw [r.futo f o k hg hc h] at hM; cases hM
    subst hk
    obtain ⟨hb, ob, h2, h3⟩ := r.objs f o l hg hc hM
    exact ⟨l, ob, hM, by rw [hb], h2, h3⟩

theorem r_nxt {ty : TypeId} {s : Bool} {x : X} {rx : Value} (hx : VRel M (x.ev fr) rx) (h1 : wNxt s x fr h = some (v, h')) : WrOk p M h w v h' (Instr.next rx s ty) := by
  unfold wNxt at h1
  generalize x.ev fr = q at *
  split at h1
  · rename_i f k room
    split at h1
    · rename_i str pos hg
      obtain ⟨l, ob, hM, rfl, hb, ho⟩ := ptr_iter r hx hg rfl
      cases ho with
      | siter b =>
        have hbl : (bytesN b).length = b.size := bytesN_length b
        cases s with
        | false => cases h1
        | true =>
          simp only [nxtS] at h1
          split at h1
          · rename_i he
            cases h1
            have : b.size ≤ pos := by
              have := congrArg List.length he; simp [hbl] at this; omega
            exact ⟨M, _, w, by simp [Instr.next, run_getObj_at hb rfl, Nat.not_lt.2 this], .tup (.cons (.bool _) .nil), .refl r rfl rfl rfl rfl⟩
          · rename_i he
            cases h1
            have hlt : pos < b.size := by
              rcases Nat.lt_or_ge pos b.size with h | h
              · exact h
              · exact absurd (List.drop_eq_nil_of_le (by omega)) he
            rw [decodeU_eq b pos hlt, ldrop_eq, List.drop_drop]
            exact ⟨M, _, { w with heap := w.heap.setIfInBounds l.blk (.stringIter b (pos + (Utf8.decode b pos).2)) }, by simp [Instr.next, run_getObj_at hb rfl, hlt, run_setObj_at hb rfl, goInt],
              .tup (.cons (.bool _) (.cons (.int _ _) (.cons (.int _ _) .nil))), step_obj r hM hg rfl (.siter b _) rfl rfl rfl rfl⟩
    · rename_i hg
      obtain ⟨l, ob, hM, rfl, hb, ho⟩ := ptr_iter r hx hg rfl
      cases ho with
      | miter0 =>
        cases s with
        | true => cases h1
        | false =>
          cases h1
          exact ⟨M, _, w, by simp [Instr.next, run_getObj_at hb rfl], .tup (.cons (.bool _) .nil), .refl r rfl rfl rfl rfl⟩
    · rename_i m since seen last hg
      obtain ⟨l, ob, hM, rfl, hb, ho⟩ := ptr_iter r hx hg rfl
      cases ho with
      | miter hMm =>
        rename_i lm seen
        cases s with
        | true => cases h1
        | false =>
          simp only [nxtM] at h1
          split at h1
          · rename_i es clk hgm
            obtain ⟨rs, hbm, hF⟩ := map_at r hgm hMm
            split at h1
            · cases h1
            · rename_i hchk
              have hall : es.all (fun e => Nat.ble last e.2.2) = rs.all (fun e => decide (e.born ≥ last)) := by
                rw [← Array.all_toList]
                refine hF.all fun a b ⟨_, _, e⟩ => ?_
                rw [e, Bool.eq_iff_iff, Nat.ble_eq]; simp
              have hemp : es.isEmpty = rs.isEmpty := by
                rw [show rs.isEmpty = rs.toList.isEmpty by simp]
                generalize rs.toList = l' at hF
                cases hF <;> rfl
              have hsemp : seen.toList.isEmpty = seen.isEmpty := by simp
              rw [hall, hemp, hsemp] at hchk
              have hany : ∀ n, seen.toList.any (Nat.beq n) = seen.contains n := fun n => by
                rw [Bool.eq_iff_iff, List.any_eq_true, Array.contains_iff_mem]
                constructor
                · rintro ⟨x, hx, e⟩
                  have := Nat.eq_of_beq_eq_true e
                  subst this
                  simpa using hx
                · intro h
                  exact ⟨n, by simpa using h, Nat.beq_refl n⟩
              have hfilt : F2 (entRel M) (es.filter fun e => !seen.toList.any (Nat.beq e.2.2)) (rs.filter fun e => !seen.contains e.born).toList := by
                rw [Array.toList_filter]
                refine hF.filter fun a b ⟨_, _, e⟩ => ?_
                rw [e, hany]
              have hold : F2 (entRel M) ((es.filter fun e => !seen.toList.any (Nat.beq e.2.2)).filter (fun e => Nat.blt e.2.2 since)) ((rs.filter fun e => !seen.contains e.born).filter fun e => decide (e.born < since)).toList := by
                rw [Array.toList_filter]
                refine hfilt.filter fun a b ⟨_, _, e⟩ => ?_
                rw [e, Bool.eq_iff_iff, Nat.blt_eq]; simp
              have hnew : F2 (entRel M) ((es.filter fun e => !seen.toList.any (Nat.beq e.2.2)).filter (fun e => Nat.ble since e.2.2)) ((rs.filter fun e => !seen.contains e.born).filter fun e => decide (e.born ≥ since)).toList := by
                rw [Array.toList_filter]
                refine hfilt.filter fun a b ⟨_, _, e⟩ => ?_
                rw [e, Bool.eq_iff_iff, Nat.ble_eq]; simp
              split at h1
              · rename_i e1 e2
                rw [e1] at hold; rw [e2] at hnew
                cases h1
                have f1 : ((rs.filter fun e => !seen.contains e.born).filter fun e => decide (e.born < since)) = #[] := by
                  have := hold.length; simpa using this.symm
                have f2 : ((rs.filter fun e => !seen.contains e.born).filter fun e => decide (e.born ≥ since)) = #[] := by
                  have := hnew.length; simpa using this.symm
                refine ⟨M, _, w, ?_, .tup (.cons (.bool false) .nil), .refl r rfl rfl rfl rfl⟩
                simp only [Instr.next, Sem.run_bind, run_getObj_at hb rfl, Result.andThen_ok, run_getObj_at hbm rfl, f1, f2, hchk, Bool.false_eq_true, if_false]
                simp [Question.forced]
              · rename_i k0 v0 b0 e1 e2
                rw [e1] at hold; rw [e2] at hnew
                cases h1
                obtain ⟨re, f1, h3, h4, h5⟩ : ∃ re, ((rs.filter fun e => !seen.contains e.born).filter fun e => decide (e.born < since)) = #[re] ∧ entRel M (k0, v0, b0) re := by
                  generalize ((rs.filter fun e => !seen.contains e.born).filter fun e => decide (e.born < since)) = A at hold
                  cases hA : A.toList with
                  | nil => rw [hA] at hold; cases hold
                  | cons y ys =>
                    rw [hA] at hold
                    cases hold with
                    | cons hx ht =>
                      cases ht
                      exact ⟨y, Array.ext' (by simpa using hA), hx⟩
                have f2 : ((rs.filter fun e => !seen.contains e.born).filter fun e => decide (e.born ≥ since)) = #[] := by
                  have := hnew.length; simpa using this.symm
                refine ⟨M, .tuple #[.bool true, re.key, re.val], { w with heap := w.heap.setIfInBounds l.blk (.mapIter (some lm.blk) since (seen.push re.born) clk) }, ?_,
                  .tup (.cons (.bool true) (.cons h3 (.cons h4 .nil))), step_obj r hM hg rfl ?_ rfl rfl rfl rfl⟩
                · simp only [Instr.next, Sem.run_bind, run_getObj_at hb rfl, Result.andThen_ok, run_getObj_at hbm rfl, f1, f2, hchk, Bool.false_eq_true, if_false]
                  simp [Question.forced, run_setObj_at hb rfl]
                · have := ORel.miter (p := p) (since := since) (st := clk) (seen := seen.push re.born) hMm
                  have h5' : re.born = b0 := h5.symm
                  rw [Array.toList_push] at this
                  rw [← h5']
                  exact this
              · cases h1
          · cases h1
    · cases h1
  · cases h1

theorem r_entry {x : X} {rx : Value} (hx : VRel M (x.ev fr) rx) (h1 : wEntry x fr h = some (v, h')) : WrOk p M h w v h' (Instr.entry rx) := by
  unfold wEntry at h1
  generalize x.ev fr = q at *
  split at h1
  · rename_i f k room
    split at h1
    · rename_i m since seen stepped hg
      obtain ⟨l, ob, hM, rfl, hb, ho⟩ := ptr_iter r hx hg rfl
      cases ho with
      | miter hMm =>
        rename_i lm seen
        split at h1
        · rename_i es clk hgm
          obtain ⟨rs, hbm, hF⟩ := map_at r hgm hMm
          split at h1
          · rename_i b hlast
            split at h1
            · rename_i hclk
              have hclk := Nat.eq_of_beq_eq_true hclk
              split at h1
              · rename_i k0 v0 b0 hfind
                cases h1
                obtain ⟨re, h2, h3, h4, h5⟩ := hF.find (g' := fun e => e.born == b) (fun a c ⟨_, _, e⟩ => by rw [e, Bool.eq_iff_iff, Nat.beq_eq]; simp) hfind
                refine ⟨M, .tuple #[re.key, re.val], w, ?_, .tup (.cons h3 (.cons h4 .nil)), .refl r rfl rfl rfl rfl⟩
                have hback : seen.back? = some b := by rw [← Array.getLast?_toList]; exact hlast
                have hfi : rs.find? (fun e => e.born == b) = some re := by rw [← Array.find?_toList]; exact h2
                simp [Instr.entry, run_getObj_at hb rfl, hback, run_getObj_at hbm rfl, hclk, hfi]
              · cases h1
            · cases h1
          · cases h1
        · cases h1
    · cases h1
  · cases h1

end Go.Im
namespace Go.Im
variable {p : Program} {M : Mp}

/-- What the second argument of an append does, of whichever kind. -/
structure ASrc (p : Program) (e : TypeId) (es bytes : Nat) (z : Value) (ats : Array TypeId) (ty : TypeId) (x : Value) (n : Nat) (news : List Value) (w : World) : Prop where
  nothing : n = 0 → ∀ (base : Option Addr) (sLen sCap : Nat), sLen ≤ sCap → (Builtin.append_ ats ty #[.slice base sLen sCap, x]).run p w = .ok (.slice base sLen sCap) w
  room : ∀ (b off sLen sCap : Nat), sLen + n ≤ sCap → (∀ j, j < news.length → (w.cell? ⟨b, off + sLen * es + j, none⟩).isSome = true) → (∀ j, j < news.length → w.frozen? ⟨b, off + sLen * es + j, none⟩ = false) →
    (Builtin.append_ ats ty #[.slice (some ⟨b, off, none⟩) sLen sCap, x]).run p w = .ok (.slice (some ⟨b, off, none⟩) (sLen + n) sCap) (w.setCells b (off + sLen * es) news)
  grow : ∀ (base : Option Addr) (sLen sCap : Nat) (olds : List Value), (Builtin.firstCells es sLen (.slice base sLen sCap)).run p w.drew = .ok olds.toArray w.drew → sCap < sLen + n → n ≠ 0 → sLen + n ≤ 1099511627776 →
    (sLen + n) * bytes ≤ 1099511627776 → (Builtin.append_ ats ty #[.slice base sLen sCap, x]).run p w = .ok (.slice (some ⟨w.heap.size, 0, none⟩) (sLen + n) (grownCap w (sLen + n) sCap e))
      (w.drew.alloc (.cells ((olds ++ news).toArray ++ Builtin.zeroCells z.cells (grownCap w (sLen + n) sCap e - (sLen + n))) e))

theorem nextcap_le {need old : Nat} (h : old < need) : Builtin.nextslicecap need old ≤ 2 * need + 192 := by
  unfold Builtin.nextslicecap
  split
  · omega
  · split
    · omega
    · rw [growBy_four]
      repeat' split
      all_goals omega

theorem fit_bytes {need old bytes : Nat} (h : old < need) (h1 : need ≤ 1099511627776) (h2 : need * bytes ≤ 1099511627776) : Builtin.nextslicecap need old * bytes ≤ 281474976710656 := by
  have := nextcap_le h
  have h3 : Builtin.nextslicecap need old * bytes ≤ (2 * need + 192) * bytes := Nat.mul_le_mul_right _ this
  have h4 : (2 * need + 192) * bytes = 2 * (need * bytes) + 192 * bytes := by rw [Nat.add_mul, Nat.mul_assoc]
  have h5 : bytes ≤ need * bytes := Nat.le_mul_of_pos_left _ (by omega)
  omega

theorem ASrc.ofSrc {e t tx ty : TypeId} {i : TypeInfo} {z : Value} (ht : p.underlying t = some (.slice e)) (hi : p.info? e = some i) (hz : i.zero = some z) {x : Value} {n : Nat} {news : List Value} {w : World} (hs : Src p i.size tx x n news w) :
    ASrc p e i.size i.bytes z #[t, tx] ty x n news w where
  nothing := fun h0 base sLen sCap hle => by
    subst h0
    have hnil : news = [] := List.length_eq_zero_iff.1 (by have := hs.newsLen; omega)
    subst hnil
    exact run_append_nothing w t tx ty e i ht hi base sLen sCap hle x hs
  room := fun b off sLen sCap hr hc hf => run_append_room_src w t tx ty e i ht hi b off sLen sCap x n news hs hr hc hf
  grow := fun base sLen sCap olds hold hg _ h1 h2 => run_append_grow_src w t tx ty e i z ht hi hz base sLen sCap olds hold x n news hs hg (by omega) (fit_bytes hg h1 h2)

theorem zeroCells_rep (z : Value) (hz : z.cells.size ≠ 0) (n : Nat) : Builtin.zeroCells z.cells n = (rep z.cells.toList n).toArray := range_rep z.cells n hz

theorem rep_one {z : List Value} (h : ∀ u ∈ z, u.oneCell' = true) : ∀ n, ∀ u ∈ rep z n, u.oneCell' = true
  | 0, _, hu => by cases hu
  | n + 1, u, hu => by
    rcases List.mem_append.1 hu with h' | h'
    · exact h u h'
    · exact rep_one h n u h'

set_option maxRecDepth 4000 in
theorem ASrc.ofZeros {e t tx ty : TypeId} {i : TypeInfo} {z : Value} {k kq : IntKind} (ht : p.underlying t = some (.slice e)) (htx : p.underlying tx = some (.int k)) (hi : p.info? e = some i) (hz : i.zero = some z) (hzs : z.cells.size = i.size) (hs0 : i.size ≠ 0)
    (hone : ∀ u ∈ z.cells.toList, u.oneCell' = true) {n : Nat} {w : World} (hn : n ≤ 1099511627776) (hnb : n * i.bytes ≤ 1099511627776) : ASrc p e i.size i.bytes z #[t, tx] ty (.int kq n) n (rep z.cells.toList n) w := by
  have hw : IntKind.i64.wrap (n : Int) = n := wrap_small .i64 rfl n hn
  have hneg : ¬ ((n : Int) < 0) := by omega
  have h48i : ¬ (281474976710656 < (n : Int) * (i.bytes : Int)) := by
    rw [← Int.natCast_mul]; omega
  refine ⟨fun h0 base sLen sCap hle => ?_, fun b off sLen sCap hr hc hf => ?_, fun base sLen sCap olds hold hg h0 h1 h2 => ?_⟩
  · subst h0
    have hw0 : IntKind.i64.wrap 0 = 0 := hw
    cases base <;> simp [Builtin.append_, run_underlying ht, run_underlying htx, sizeOf, typeInfo, zeroValue, hi, hz, asInt, asIntOf, hw0, hle, storeCells]
  · have hst := run_storeCells_cells (P := p) b (off + sLen * i.size) (rep z.cells.toList n) 0 w (by simpa using hc) (by simpa using hf) (rep_one hone n)
    simp only [Nat.add_zero] at hst
    have hz0 : ¬ (n * i.size = 0) → Builtin.zeroCells z.cells n = (rep z.cells.toList n).toArray := fun _ => zeroCells_rep z (by omega) n
    by_cases hns : n * i.size = 0
    · have hn0 : n = 0 := by
        rcases Nat.mul_eq_zero.1 hns with h | h
        · exact h
        · exact absurd h hs0
      subst hn0
      have hw0 : IntKind.i64.wrap 0 = 0 := hw
      have hle : sLen ≤ sCap := by omega
      simp [Builtin.append_, run_underlying ht, run_underlying htx, sizeOf, typeInfo, zeroValue, hi, hz, asInt, asIntOf, hw0, hle, storeCells, rep, World.setCells]
    · simp [Builtin.append_, run_underlying ht, run_underlying htx, sizeOf, typeInfo, zeroValue, hi, hz, asInt, asIntOf, hw, hneg, h48i, hr, hns, hz0 hns, Addr.add_lit, hst]
  · have hns : ¬ (n * i.size = 0) := Nat.mul_ne_zero h0 hs0
    have := Go.Lib.run_append_grow_zeros (P := p) w t tx ty e i z kq k ht htx hi hz base sLen sCap olds hold n (by omega) (by omega) hg (by omega) (by omega) (fit_bytes hg h1 h2)
    rw [this, zeroCells_rep z (by omega) n]
    simp

end Go.Im
namespace Go.Im
variable {p : Program} {M : Mp}

theorem grownCap_ge (w : World) (need old : Nat) (e : TypeId) : need ≤ grownCap w need old e := by
  simp [grownCap, Question.cut]

/-- The cells of a slice's elements, as 'firstCells' reads them. -/
theorem first_rel {w w' : World} {h : H} (r : Rel p M h w.heap) (hw : w'.heap = w.heap) {f : P} {k off len es rc : Nat} {cap : Option Nat} {a : Addr} (hx : VRel M (.sl f k off len es cap) (.slice (some a) len rc)) {old : List V}
    (ho : rangeO (live h f k) off (len * es) = some old) :
    ∃ olds, VsRel M old olds ∧ (∀ c ∈ old, c.leaf = true) ∧ old.length = len * es ∧ (Builtin.firstCells es len (.slice (some a) len rc)).run p w' = .ok olds.toArray w' ∧
      (rc ≠ 0 → ∀ j v, olds[j]? = some v → w'.cell? (a.add j) = some v) := by
  cases hx with
  | sl hM hl ha hlen hk hu =>
    rename_i l
    rw [← hw] at r
    obtain ⟨rs, hrel, hrl, hld, hleaf, hcell⟩ := load_cells r hM hl ho
    have hol := hrel.length
    refine ⟨rs, hrel, hleaf, by omega, ?_, fun h0 => ?_⟩
    · rcases ha with ha | ha
      · subst ha
        have hl0 : len = 0 := by omega
        subst hl0
        have : rs = [] := List.length_eq_zero_iff.1 (by omega)
        subst this
        simp [Builtin.firstCells, loadCells, loadCellsFrom]
      · subst ha
        simp only [Builtin.firstCells]
        exact hld
    · have ha' := ha.resolve_left h0
      subst ha'
      intro j v hj
      rw [Addr.add_lit]
      exact hcell j v hj

theorem NewOk.cellsOk {l : Loc} {xs : List V} {ty : TypeId} {ob : Obj} {hp : Array Obj} (h : NewOk p M l (.cells xs 0 0 .rw ty) ob) (hb : hp[l.blk]? = some ob) : CellsOk p M xs .rw ty true l hp := by
  cases h with
  | cells hmod he hl hb' hc hz => exact ⟨fun _ => hmod, by omega, fun _ => he, _, _, hb, hb', fun i v _ hx => hc i v hx, fun _ => hz⟩
  | obj _ _ hr => have := hr.noCells.1; simp [O.isCells] at this

section
variable {w : World} {h h' : H} (r : Rel p M h w.heap) {e es n bytes : Nat} {new : List V} {rnews : List Value} {z : Value} {ats : Array TypeId} {ty : TypeId} {x : Value}

/-- The new row of an append. -/
theorem row_ok {old : List V} {olds : List Value} (hold : VsRel M old olds) (hol : ∀ c ∈ old, c.leaf = true) (hnew : VsRel M new rnews) (hnl : ∀ c ∈ new, c.leaf = true) {len G : Nat} (hlo : old.length = len * es) (hln : new.length = n * es)
    (hG : len + n ≤ G) (hz : z.cells.size = es) (h0 : es ≠ 0) (b : Nat) :
    NewOk p M ⟨b, 0, (old ++ new).length, G * es⟩ (.cells (old ++ new) 0 0 .rw e) (.cells ((olds ++ rnews).toArray ++ Builtin.zeroCells z.cells (G - (len + n))) e) := by
  have h1 := hold.length
  have h2 := hnew.length
  have hzc : Builtin.zeroCells z.cells (G - (len + n)) = (rep z.cells.toList (G - (len + n))).toArray := zeroCells_rep z (by omega) _
  have hsz : ((olds ++ rnews).toArray ++ Builtin.zeroCells z.cells (G - (len + n))).size = G * es := by
    rw [hzc]
    have : (rep z.cells.toList (G - (len + n))).length = (G - (len + n)) * es := by rw [rep_length]; simp [hz]
    simp [this]
    rw [← h1, ← h2, hlo, hln, ← Nat.add_mul, ← Nat.add_mul]
    congr 1; omega
  refine newCells (rs := olds ++ rnews) (hold.append hnew) (fun c hc => ?_) (fun i hi => ?_) ?_ (by omega) (.inl rfl)
  · rcases List.mem_append.1 hc with hc | hc
    · exact hol c hc
    · exact hnl c hc
  · rw [Array.getElem?_append_left (by simp at hi ⊢; omega)]
    simp
  · rw [List.length_append, hlo, hln, ← Nat.add_mul]
    exact Nat.mul_le_mul_right _ hG

include r
theorem app_rel (hnm : isMapT p e = false) (hes0 : es ≠ 0) (hz : z.cells.size = es) (hsz : sz p e = some es) (hA : ASrc p e es bytes z ats ty x n rnews w) (hnew : VsRel M new rnews) (hnl : ∀ c ∈ new, c.leaf = true) (hln : new.length = n * es) {va v : V} {ra : Value}
    (ha : VRel M va ra) (h1 : append h e es bytes n new va = some (v, h')) : WrOk p M h w v h' (Builtin.append_ ats ty #[ra, x]) := by
  have hrl := hnew.length
  unfold append at h1
  split at h1
  · -- nil
    cases ha
    split at h1
    · rename_i h0
      have h0 := Nat.eq_of_beq_eq_true h0
      cases h1
      exact ⟨M, _, w, hA.nothing h0 none 0 0 (Nat.le_refl _), .snil, .refl r rfl rfl rfl rfl⟩
    · rename_i h0
      have h0 : n ≠ 0 := fun e => by subst e; cases h0
      split at h1
      · rename_i hb
        simp only [Bool.and_eq_true] at hb
        have hb1 := Nat.le_of_ble_eq_true hb.1
        have hb2 := Nat.le_of_ble_eq_true hb.2
        cases h1
        have hrun := hA.grow none 0 0 [] (by simp [Builtin.firstCells]) (by omega) h0 (by omega) (by simpa using hb2)
        have hG := grownCap_ge w (0 + n) 0 e
        have hrow := row_ok (p := p) (M := M) (e := e) (old := []) (olds := []) .nil (fun _ h => by cases h) hnew hnl (len := 0) (by simp) hln hG hz hes0 w.heap.size
        simp only [List.nil_append] at hrow hrun
        refine ⟨_, _, _, hrun, ?_, step_new r (l := ⟨w.heap.size, 0, new.length, grownCap w (0 + n) 0 e * es⟩) rfl (hrow.mono (Mp.le_add (r.next_none 0))) rfl rfl rfl rfl⟩
        have := VRel.sl0 (len := n) (es := es) (rc := grownCap w (0 + n) 0 e) (cap := none) (Mp.add_same M h.next 0 ⟨w.heap.size, 0, new.length, grownCap w (0 + n) 0 e * es⟩) (by omega) (by omega) (fun c e => by cases e) (fun _ => Nat.le_refl _)
        simpa using this
      · cases h1
  · rename_i f k off len es' cap
    split at h1
    · rename_i hb
      simp only [Bool.and_eq_true] at hb
      obtain ⟨⟨hb1, hb2⟩, hb3⟩ := hb
      have hb1 := Nat.eq_of_beq_eq_true hb1
      have hb2 := Nat.le_of_ble_eq_true hb2
      have hb3 := Nat.le_of_ble_eq_true hb3
      subst hb1
      have hsl := ha
      cases ha with
      | sl hM hl hadr hlen hk hu =>
        rename_i l rc a
        split at h1
        · rename_i h0
          have h0 := Nat.eq_of_beq_eq_true h0
          cases h1
          exact ⟨M, _, w, hA.nothing h0 _ _ _ hlen, hsl, .refl r rfl rfl rfl rfl⟩
        · rename_i h0
          have h0 : n ≠ 0 := fun e => by subst e; cases h0
          have hne : new ≠ [] := fun e => by
            subst e
            rcases Nat.mul_eq_zero.1 hln.symm with h | h
            · exact h0 h
            · exact hes0 h
          have room : len + n ≤ rc → a = ⟨l.blk, l.base + off, none⟩ := fun h => hadr.resolve_left (by omega)
          split at h1
          · -- a known capacity
            rename_i c
            obtain ⟨hrc, hext⟩ := hk c rfl
            subst hrc
            unfold appK at h1
            split at h1
            · rename_i hfit
              have hfit := Nat.le_of_ble_eq_true hfit
              have hadr' := room hfit
              subst hadr'
              split at h1
              · rename_i h2 hw
                cases h1
                obtain ⟨hst, hc1, hc2, hc3⟩ := store_step' r hM hw hnew hnl
                have hin := hc3 hne
                have e1 : l.base + (off + len * es) = l.base + off + len * es := by omega
                rw [e1] at hst hc1 hc2
                refine ⟨M, _, _, hA.room _ _ _ _ hfit hc1 hc2, ?_, hst⟩
                refine .sl hM ?_ (.inr rfl) hfit hk (fun e => by cases e)
                rw [Nat.add_mul]; omega
              · cases h1
            · rename_i hfit
              have hfit : rc < len + n := by
                rcases Nat.lt_or_ge rc (len + n) with h | h
                · exact h
                · have := Nat.ble_eq_true_of_le h; rw [this] at hfit; cases hfit
              split at h1
              · rename_i old hold
                cases h1
                obtain ⟨olds, ho1, ho2, ho3, ho4, _⟩ := first_rel (w' := w.drew) r rfl hsl hold
                have hrun := hA.grow (some a) len rc olds ho4 hfit h0 hb2 hb3
                have hG := grownCap_ge w (len + n) rc e
                have hrow := row_ok (p := p) (M := M) (e := e) ho1 ho2 hnew hnl ho3 hln hG hz hes0 w.heap.size
                refine ⟨_, _, _, hrun, ?_, step_new r (l := ⟨w.heap.size, 0, (old ++ new).length, grownCap w (len + n) rc e * es⟩) rfl (hrow.mono (Mp.le_add (r.next_none 0))) rfl rfl rfl rfl⟩
                exact VRel.sl0 (cap := none) (Mp.add_same M h.next 0 ⟨w.heap.size, 0, (old ++ new).length, grownCap w (len + n) rc e * es⟩) (by rw [List.length_append, ho3, hln, Nat.add_mul]; exact Nat.le_refl _) hG (fun c e => by cases e) (fun _ => Nat.le_refl _)
              · cases h1
          · -- an unknown one
            have hlim := hu rfl
            unfold appU at h1
            split at h1
            · rename_i xs ver dead md ty' hg
              split at h1
              · rename_i hb
                simp only [Bool.and_eq_true] at hb
                obtain ⟨⟨⟨hk1, hk2⟩, hk3⟩, hk4⟩ := hb
                have hk1 := Nat.eq_of_beq_eq_true hk1
                have hk3 := Nat.eq_of_beq_eq_true hk3
                have hk4 := Nat.le_of_ble_eq_true hk4
                have hmd : md = .rw := by cases md <;> first | rfl | (simp [Md.isRw] at hk2)
                subst hk1 hk3 hmd
                obtain ⟨l0, hM0⟩ := (r.dom f k l hM).2.2.2
                have hlimle := (r.dom f k l hM).2.2.1
                obtain ⟨l', hl', hmod, ho, hown, c, frz, hc, hsz', hcells, hzf⟩ := r.cells f xs k dead .rw e l0 hg hM0 k hk4 (Nat.le_refl _)
                rw [hM] at hl'; cases hl'
                have hext : l.ext = xs.length := hown (by simp)
                have hlive : live h f k = some xs := by
                  unfold live; rw [hg]
                  simp only [O.live, Nat.ble_eq_true_of_le hk4, Nat.ble_eq_true_of_le (Nat.le_refl k), Bool.and_self]
                split at h1
                · rename_i hb
                  simp only [Bool.and_eq_true] at hb
                  have hb1 := Nat.eq_of_beq_eq_true hb.1
                  have hb2' := Nat.eq_of_beq_eq_true hb.2
                  subst hb2'
                  cases h1
                  have hxs : len * es = xs.length := by omega
                  by_cases hfit : len + n ≤ rc
                  · have hadr' := room hfit
                    subst hadr'
                    have hmul : (len + n) * es ≤ rc * es := Nat.mul_le_mul_right _ hfit
                    have hmul2 := hmul
                    rw [Nat.add_mul] at hmul
                    obtain ⟨hc1, hc2⟩ := store_may r hM hg hk4 (off := len * es) (n := rnews.length) (by omega)
                    have hrun := hA.room l.blk (l.base + 0) len rc hfit (by simpa using hc1) (by simpa using hc2)
                    obtain ⟨c', g1, g2, g3, g4⟩ := setCells_heap l.blk rnews (l.base + 0 + len * es) w c hc
                    have hlen' : (xs ++ new).length = (len + n) * es := by rw [List.length_append, hln, ← hxs, Nat.add_mul]
                    refine ⟨_, _, _, hrun, ?_, step_ver r (l' := ⟨l.blk, l.base, (xs ++ new).length, l.lim⟩) hg hk4 hM0 hM ?_ ?_ ?_ ?_ (.inl ⟨rfl, rfl, fun b hb _ => setCells_heap_ne _ _ _ _ hb, fun c0 elem frz0 h0 => ?_⟩)
                      (setCells_rest _ _ _ _).1 (setCells_rest _ _ _ _).2.1 (setCells_rest _ _ _ _).2.2⟩
                    · exact .sl (l := ⟨l.blk, l.base, (xs ++ new).length, l.lim⟩) (Mp.add_same _ _ _ _) (by simp only; omega) (.inr rfl) hfit (fun c e => by cases e) (fun _ => hlim)
                    · refine ⟨hmod, Nat.le_refl _, fun _ => rfl, c', frz, g1, by simp only; omega, fun i v hi hv => ?_, fun _ => hzf rfl⟩
                      by_cases hix : i < xs.length
                      · rw [List.getElem?_append_left hix] at hv
                        obtain ⟨rv, q1, q2, q3⟩ := hcells i v (by omega) hv
                        exact ⟨rv, by rw [g3 _ (by simp only; omega)]; exact q1, q2, q3⟩
                      · rw [List.getElem?_append_right (by omega)] at hv
                        obtain ⟨rv, q1, q2⟩ := hnew.get hv
                        have hij : i - xs.length < rnews.length := by
                          rcases Nat.lt_or_ge (i - xs.length) rnews.length with h | h
                          · exact h
                          · rw [List.getElem?_eq_none h] at q1; cases q1
                        refine ⟨rv, ?_, q2, hnl v (List.mem_of_getElem? hv)⟩
                        rw [show l.base + i = l.base + 0 + len * es + (i - xs.length) by omega, g4 _ hij (by omega)]; exact q1
                    · simp only; omega
                    · rw [setCells_size]; exact Nat.le_refl _
                    · rw [setCells_size]; exact (r.lt hM : l.blk < w.heap.size)
                    · rw [hc] at h0; cases h0
                      exact ⟨c', g1, g2, fun i hi => g3 i (.inl (by omega))⟩
                  · have hfit : rc < len + n := by omega
                    have hold : rangeO (live h f k) 0 (len * es) = some xs := by
                      rw [hlive, hxs]
                      simp only [rangeO, range, ldrop_eq, List.drop_zero]
                      rw [ltake_some _ _ (Nat.le_refl _), List.take_length]
                    obtain ⟨olds, ho1, ho2, ho3, ho4, _⟩ := first_rel (w' := w.drew) r rfl hsl hold
                    have hrun := hA.grow (some a) len rc olds ho4 hfit h0 hb2 hb3
                    have hG := grownCap_ge w (len + n) rc e
                    have hrow := row_ok (p := p) (M := M) (e := e) ho1 ho2 hnew hnl ho3 hln hG hz hes0 w.heap.size
                    have hpush : ∀ ob, (w.heap.push ob)[w.heap.size]? = some ob := fun ob => by simp
                    have hlen' : (xs ++ new).length = (len + n) * es := by rw [List.length_append, hln, ← hxs, Nat.add_mul]
                    refine ⟨_, _, _, hrun, ?_, step_ver r (l' := ⟨w.heap.size, 0, (xs ++ new).length, grownCap w (len + n) rc e * es⟩) hg hk4 hM0 hM (hrow.cellsOk (hpush _)) ?_ ?_ ?_ (.inr ⟨rfl, fun b hb => ?_⟩) rfl rfl rfl⟩
                    · exact .sl (l := ⟨w.heap.size, 0, (xs ++ new).length, grownCap w (len + n) rc e * es⟩) (Mp.add_same _ _ _ _) (by simp only; omega) (.inr rfl) hG (fun c e => by cases e) (fun _ => by simp)
                    · rw [hlen']; exact Nat.mul_le_mul_right _ hG
                    · show w.heap.size ≤ (w.heap.push _).size
                      simp
                    · show w.heap.size < (w.heap.push _).size
                      simp
                    · show (w.heap.push _)[b]? = _
                      rw [Array.getElem?_push]; simp; omega
                · split at h1
                  · rename_i old hold
                    cases h1
                    unfold rangeM at hold
                    split at hold
                    · rename_i hmo
                      have hmo := Nat.eq_of_beq_eq_true hmo
                      have hold' : rangeO (live h f k) off (len * es) = some old := by rw [hlive]; exact hold
                      obtain ⟨olds, ho1, ho2, ho3, ho4, _⟩ := first_rel (w' := w.drew) r rfl hsl hold'
                      have hlen' : (old ++ new).length = (len + n) * es := by rw [List.length_append, hln, ho3, Nat.add_mul]
                      by_cases hfit : len + n ≤ rc
                      · have hadr' := room hfit
                        subst hadr'
                        have hmul : (len + n) * es ≤ rc * es := Nat.mul_le_mul_right _ hfit
                        have hmul2 := hmul
                        rw [Nat.add_mul] at hmul
                        obtain ⟨hc1, hc2⟩ := store_may r hM hg hk4 (off := off + len * es) (n := rnews.length) (by omega)
                        have e1 : l.base + (off + len * es) = l.base + off + len * es := by omega
                        rw [e1] at hc1 hc2
                        have hrun := hA.room l.blk (l.base + off) len rc hfit hc1 hc2
                        obtain ⟨c', g1, g2, g3, g4⟩ := setCells_heap l.blk rnews (l.base + off + len * es) w c hc
                        refine ⟨_, _, _, hrun, ?_, step_kill r (l' := ⟨l.blk, l.base + off, (old ++ new).length, rc * es⟩) hg hk4 hM0 hM g1 ?_ ?_ ?_ (.inl ⟨rfl, fun b hb _ => setCells_heap_ne _ _ _ _ hb⟩)
                          (setCells_rest _ _ _ _).1 (setCells_rest _ _ _ _).2.1 (setCells_rest _ _ _ _).2.2⟩
                        · exact .sl (l := ⟨l.blk, l.base + off, (old ++ new).length, rc * es⟩) (Mp.add_same _ _ _ _) (by simp only; omega) (.inr rfl) hfit (fun c e => by cases e) (fun _ => by simp)
                        · refine .cells ⟨fun s hs => ?_, fun hm => by rw [hnm] at hm; cases hm⟩ rfl (by simp only; omega) (by simp only; omega) (fun i v hv => ?_) (fun i hi => ?_)
                          · rw [hsz] at hs; cases hs
                            simp only
                            rw [Nat.add_mod, (hmod (by simp)).1 es hsz, hmo]; simp
                          · simp only
                            by_cases hix : i < old.length
                            · rw [List.getElem?_append_left hix] at hv
                              unfold range at hold
                              obtain ⟨hn, hcs⟩ := ltake_eq _ _ hold
                              rw [ldrop_eq] at hn hcs
                              simp at hn
                              have hv2 : xs[off + i]? = some v := by
                                rw [hcs, List.getElem?_take_of_lt (by omega), List.getElem?_drop] at hv; exact hv
                              obtain ⟨rv, q1, q2, q3⟩ := hcells (off + i) v (by
                                rw [hext]
                                rcases Nat.lt_or_ge (off + i) xs.length with h | h
                                · exact h
                                · rw [List.getElem?_eq_none h] at hv2; cases hv2) hv2
                              exact ⟨rv, by rw [g3 _ (by omega), Nat.add_assoc]; exact q1, q2, q3⟩
                            · rw [List.getElem?_append_right (by omega)] at hv
                              obtain ⟨rv, q1, q2⟩ := hnew.get hv
                              have hij : i - old.length < rnews.length := by
                                rcases Nat.lt_or_ge (i - old.length) rnews.length with h | h
                                · exact h
                                · rw [List.getElem?_eq_none h] at q1; cases q1
                              refine ⟨rv, ?_, q2, hnl v (List.mem_of_getElem? hv)⟩
                              rw [show l.base + off + i = l.base + off + len * es + (i - old.length) by omega, g4 _ hij (by omega)]; exact q1
                          · simp only at hi ⊢
                            have := hzf rfl (off + i) (by omega)
                            rw [← Nat.add_assoc] at this; exact this
                        · rw [setCells_size]; exact Nat.le_refl _
                        · rw [setCells_size]; exact (r.lt hM : l.blk < w.heap.size)
                      · have hfit : rc < len + n := by omega
                        have hrun := hA.grow (some a) len rc olds ho4 hfit h0 hb2 hb3
                        have hG := grownCap_ge w (len + n) rc e
                        have hrow := row_ok (p := p) (M := M) (e := e) ho1 ho2 hnew hnl ho3 hln hG hz hes0 w.heap.size
                        have hpush : ∀ ob, (w.heap.push ob)[w.heap.size]? = some ob := fun ob => by simp
                        refine ⟨_, _, _, hrun, ?_, step_kill r (l' := ⟨w.heap.size, 0, (old ++ new).length, grownCap w (len + n) rc e * es⟩) hg hk4 hM0 hM (hpush _) hrow ?_ ?_ (.inr ⟨rfl, fun b hb => ?_⟩) rfl rfl rfl⟩
                        · exact .sl (l := ⟨w.heap.size, 0, (old ++ new).length, grownCap w (len + n) rc e * es⟩) (Mp.add_same _ _ _ _) (by simp only; omega) (.inr rfl) hG (fun c e => by cases e) (fun _ => by simp)
                        · show w.heap.size ≤ (w.heap.push _).size
                          simp
                        · show w.heap.size < (w.heap.push _).size
                          simp
                        · show (w.heap.push _)[b]? = _
                          rw [Array.getElem?_push]; simp; omega
                    · cases hold
                  · cases h1
              · cases h1
            · cases h1
    · cases h1
  · cases h1
end
end Go.Im
namespace Go.Im
variable {p : Program} {M : Mp}

theorem bytes_take (b : ByteArray) (n : Nat) : bytesOf ((bytesN b).take n) = ((bytesN b).take n).map fun (x : Nat) => V.int .u8 (.ofNat x) := by
  generalize (bytesN b).take n = l
  induction l with
  | nil => rfl
  | cons x l ih => simp [bytesOf, ih]

/-- The source of an append or a copy: its first n elements. -/
theorem src_first {w : World} {h : H} (r : Rel p M h w.heap) {es m n : Nat} {vb : V} {rb : Value} (hb : VRel M vb rb) (hm : srcLen vb = some m) (hn : n ≤ m) {cs : List V} (hc : srcCells h es n vb = some cs) :
    (∀ w', (Builtin.lenOf rb).run p w' = .ok m w') ∧ ∃ rcs, VsRel M cs rcs ∧ (∀ c ∈ cs, c.leaf = true) ∧ cs.length = n * es ∧ ∀ w' : World, w'.heap = w.heap → (Builtin.firstCells es n rb).run p w' = .ok rcs.toArray w' := by
  unfold srcLen at hm
  split at hm
  · cases hm; cases hb
    have hn0 : n = 0 := by omega
    subst hn0
    simp only [srcCells] at hc
    cases hc
    exact ⟨fun _ => rfl, [], .nil, (fun _ h => by cases h), by simp, fun w' _ => by simp [Builtin.firstCells]⟩
  · rename_i f k off len es' cap
    cases hm
    simp only [srcCells] at hc
    split at hc
    · rename_i hbb
      simp only [Bool.and_eq_true] at hbb
      have hb1 := Nat.eq_of_beq_eq_true hbb.1
      subst hb1
      cases hb with
      | sl hM hl ha hlen hk hu =>
        rename_i l rc a
        refine ⟨fun _ => rfl, ?_⟩
        have hmul : n * es ≤ m * es := Nat.mul_le_mul_right _ hn
        obtain ⟨rs, hrel, hrl, -, hleaf, hcell⟩ := load_cells r hM (by omega) hc
        have hcl := hrel.length
        refine ⟨rs, hrel, hleaf, by omega, fun w' hw' => ?_⟩
        have hsame : (loadCells ⟨l.blk, l.base + off, none⟩ (n * es)).run p w' = .ok rs.toArray w' := by
          have := run_loadCells_list (P := p) w' ⟨l.blk, l.base + off, none⟩ rs (fun j v hj => by
            rw [Addr.add_lit]
            have := hcell j v hj
            simpa [World.cell?, hw'] using this)
          rw [hrl] at this; exact this
        rcases ha with ha | ha
        · subst ha
          have hn0 : n = 0 := by omega
          subst hn0
          have : rs = [] := List.length_eq_zero_iff.1 (by omega)
          subst this
          simp [Builtin.firstCells, loadCells, loadCellsFrom]
        · subst ha
          simp only [Builtin.firstCells]
          exact hsame
    · cases hc
  · cases hm
    simp only [srcCells] at hc
    split at hc
    · rename_i hb1
      have hb1 := Nat.eq_of_beq_eq_true hb1
      subst hb1
      cases hb with
      | str b =>
        have hbl : (bytesN b).length = b.size := bytesN_length b
        split at hc
        · rename_i s' hs'
          cases hc
          obtain ⟨-, rfl⟩ := ltake_eq _ _ hs'
          refine ⟨fun _ => by rw [hbl]; rfl, (b.data.toList.take n).map fun x => Value.int .u8 x.toNat, ?_, bytesOf_leaf _, by rw [bytesOf_length, List.length_take]; omega, fun w' _ => ?_⟩
          · have : (bytesN b).take n = (b.data.toList.take n).map UInt8.toNat := by simp [bytesN, List.map_take]
            rw [this]
            exact bytesOf_rel M _
          · simp only [Builtin.firstCells, Sem.run_pure]
            congr 1
            apply Array.ext'
            simp
        · cases hc
    · cases hc
  · cases hm


theorem zeroC_zero {t : TypeId} {z : List V} (h : zeroC p t = some z) (M : Mp) : ∃ ti rz, p.info? t = some ti ∧ ti.zero = some rz ∧ VsRel M z rz.cells.toList ∧ (∀ c ∈ z, c.leaf = true) := by
  simp only [zeroC, Option.bind_eq_bind, Option.bind_eq_some_iff] at h
  obtain ⟨ti, hti, rz, hrz, l, hz, h⟩ := h
  split at h
  · rename_i hl
    cases h
    exact ⟨ti, rz, hti, hrz, mapM_VsRel (cval_rel M 20) _ hz, by simpa using hl⟩
  · cases h

section
variable {w : World} {h h' : H} (r : Rel p M h w.heap) {fr : Fr} {v : V}
include r

theorem r_app {t t1 e ty : TypeId} (hnm : isMapT p e = false) {es : Nat} {z : List V} {ti : TypeInfo} (hu : p.underlying t = some (.slice e)) (hn : posSize p e = some es) (hz : zeroC p e = some z) (hzl : z.length = es) (hti : p.info? e = some ti)
    (hk : (∃ e', p.underlying t1 = some (.slice e')) ∨ p.underlying t1 = some .string) {a b : X} {ra rb : Value} (ha : VRel M (a.ev fr) ra) (hb : VRel M (b.ev fr) rb) (h1 : wApp e es ti.bytes a b fr h = some (v, h')) :
    WrOk p M h w v h' (Builtin.append_ #[t, t1] ty #[ra, rb]) := by
  unfold wApp at h1
  obtain ⟨hs, h0⟩ := posSize_spec hn
  obtain ⟨ti', rz, hti', hrz, hzr, hzlf⟩ := zeroC_zero hz M
  rw [hti] at hti'; cases hti'
  have hsz : ti.size = es := by simpa [sz, hti] using hs
  have hrzs : rz.cells.size = es := by rw [← hzl, hzr.length]; simp
  split at h1
  · rename_i n hsl
    split at h1
    · rename_i new hnew
      obtain ⟨hlen, rcs, hrel, hleaf, hcl, hfirst⟩ := src_first r hb hsl (Nat.le_refl _) hnew
      have hsrc : Src p ti.size t1 rb n rcs w := ⟨hk, hlen, by rw [hsz]; exact hfirst w rfl, by rw [hsz]; exact hfirst w.drew rfl, by rw [hsz, ← hcl, hrel.length], hrel.oneCells hleaf⟩
      have hA := ASrc.ofSrc (ty := ty) hu hti hrz hsrc
      rw [hsz] at hA
      exact app_rel r hnm h0 hrzs hs hA hrel hleaf hcl ha h1
    · cases h1
  · cases h1

theorem r_appz {t t1 e ty : TypeId} (hnm : isMapT p e = false) {k : IntKind} {es : Nat} {z : List V} {ti : TypeInfo} (hu : p.underlying t = some (.slice e)) (hn : posSize p e = some es) (hz : zeroC p e = some z) (hzl : z.length = es) (hti : p.info? e = some ti)
    (hk : p.underlying t1 = some (.int k)) {a b : X} {ra rb : Value} (ha : VRel M (a.ev fr) ra) (hb : VRel M (b.ev fr) rb) (h1 : wAppz e es ti.bytes z a b fr h = some (v, h')) :
    WrOk p M h w v h' (Builtin.append_ #[t, t1] ty #[ra, rb]) := by
  unfold wAppz at h1
  obtain ⟨hs, h0⟩ := posSize_spec hn
  obtain ⟨ti', rz, hti', hrz, hzr, hzlf⟩ := zeroC_zero hz M
  rw [hti] at hti'; cases hti'
  have hsz : ti.size = es := by simpa [sz, hti] using hs
  have hrzs : rz.cells.size = es := by rw [← hzl, hzr.length]; simp
  split at h1
  · rename_i n hnat
    split at h1
    · rename_i hb2
      simp only [Bool.and_eq_true] at hb2
      have hb3 := Nat.le_of_ble_eq_true hb2.1
      have hb4 := Nat.le_of_ble_eq_true hb2.2
      obtain ⟨kq, rfl⟩ := nat_spec hnat hb
      have hA := ASrc.ofZeros (ty := ty) (kq := kq) hu hk hti hrz (by omega) (by omega) (hzr.oneCells hzlf) (w := w) hb3 hb4
      rw [hsz] at hA
      exact app_rel r hnm h0 hrzs hs hA (rep_rel hzr n) (rep_leaf hzlf n) (by rw [rep_length, hzl]) ha h1
    · cases h1
  · cases h1

theorem r_copy {t e ty : TypeId} {es : Nat} {ats : Array TypeId} (hat : ats[0]? = some t) (hu : p.underlying t = some (.slice e)) (hn : posSize p e = some es) {a b : X} {ra rb : Value} (ha : VRel M (a.ev fr) ra) (hb : VRel M (b.ev fr) rb)
    (h1 : wCopy es a b fr h = some (v, h')) : WrOk p M h w v h' (Builtin.copy_ ats ty #[ra, rb]) := by
  obtain ⟨hs, h0⟩ := posSize_spec hn
  unfold wCopy at h1
  generalize a.ev fr = qa at *
  generalize b.ev fr = qb at *
  have first0 : ∀ {m : Nat}, srcLen qb = some m → (∀ w', (Builtin.lenOf rb).run p w' = .ok m w') ∧ (Builtin.firstCells es 0 rb).run p w = .ok #[] w := fun {m} hm => by
    unfold srcLen at hm
    split at hm
    · cases hm; cases hb; exact ⟨fun _ => rfl, by simp [Builtin.firstCells]⟩
    · cases hm; cases hb; exact ⟨fun _ => rfl, by simp [Builtin.firstCells, loadCells, loadCellsFrom]⟩
    · cases hm
      cases hb with
      | str b => exact ⟨fun _ => by rw [bytesN_length]; rfl, by simp [Builtin.firstCells]⟩
    · cases hm
  split at h1
  · cases ha
    split at h1
    · rename_i m hm
      cases h1
      obtain ⟨q1, q2⟩ := first0 hm
      have hmin : Nat.min m 0 = 0 := by simp
      exact ⟨M, .int .i64 (Int.ofNat 0), w, by simp [Builtin.copy_, hat, run_underlying hu, q1 w, run_sizeOf' hs, q2, goInt], .int _ _, .refl r rfl rfl rfl rfl⟩
    · cases h1
  · rename_i f k off len es' cap
    split at h1
    · rename_i m hm
      cases ha with
      | sl hM hl hadr hlen hk hu' =>
        rename_i l rc a'
        split at h1
        · rename_i hz
          have hz := Nat.eq_of_beq_eq_true hz
          cases h1
          obtain ⟨q1, q2⟩ := first0 hm
          exact ⟨M, .int .i64 (Int.ofNat 0), w, by simp [Builtin.copy_, hat, run_underlying hu, q1 w, run_sizeOf' hs, hz, q2, goInt, storeCells], .int _ _, .refl r rfl rfl rfl rfl⟩
        · rename_i hz
          split at h1
          · rename_i hes
            have hes := Nat.eq_of_beq_eq_true hes
            subst hes
            split at h1
            · rename_i cs hcs
              split at h1
              · rename_i h2 hw
                cases h1
                obtain ⟨hlen', rcs, hrel, hleaf, hcl, hfirst⟩ := src_first r hb hm (Nat.min_le_left _ _) hcs
                obtain ⟨w', e1, e2⟩ := store_step r hM hw hrel hleaf
                have hpos : Nat.min m len ≠ 0 := fun e => by rw [e] at hz; cases hz
                have hle : Nat.min m len ≤ len := Nat.min_le_right _ _
                have hadr' := hadr.resolve_left (by omega)
                subst hadr'
                refine ⟨M, .int .i64 (Int.ofNat (Nat.min m len)), w', ?_, .int _ _, e2⟩
                simp [Builtin.copy_, hat, run_underlying hu, hlen' w, run_sizeOf' hs, hfirst w rfl, goInt, e1]
              · cases h1
            · cases h1
          · cases h1
    · cases h1
  · cases h1

theorem r_clrs {t e ty : TypeId} {es : Nat} {z : List V} {ats : Array TypeId} (hat : ats[0]? = some t) (hu : p.underlying t = some (.slice e)) (hn : posSize p e = some es) (hz : zeroC p e = some z) (hzl : z.length = es) {x : X} {rx : Value} (hx : VRel M (x.ev fr) rx)
    (h1 : wClrs es z x fr h = some (v, h')) : WrOk p M h w v h' (Builtin.clear_ ats ty #[rx]) := by
  obtain ⟨hs, h0⟩ := posSize_spec hn
  obtain ⟨rz, hzr, hzlf, hrun⟩ := zeroC_rel hz M
  have hrzs : rz.cells.size = es := by rw [← hzl, hzr.length]; simp
  unfold wClrs at h1
  generalize x.ev fr = q at *
  split at h1
  · cases h1; cases hx
    exact ⟨M, .tuple #[], w, by simp [Builtin.clear_, hat, run_underlying hu], .tup .nil, .refl r rfl rfl rfl rfl⟩
  · rename_i f k off len es' cap
    cases hx with
    | sl hM hl hadr hlen hk hu' =>
      rename_i l rc a'
      split at h1
      · rename_i hz0
        have hz0 := Nat.eq_of_beq_eq_true hz0
        subst hz0
        cases h1
        exact ⟨M, .tuple #[], w, by simp [Builtin.clear_, hat, run_underlying hu], .tup .nil, .refl r rfl rfl rfl rfl⟩
      · rename_i hz0
        have hz0 : len ≠ 0 := fun e => by subst e; cases hz0
        split at h1
        · rename_i hes
          have hes := Nat.eq_of_beq_eq_true hes
          subst hes
          split at h1
          · rename_i h2 hw
            cases h1
            obtain ⟨w', e1, e2⟩ := store_step r hM hw (rep_rel hzr len) (rep_leaf hzlf len)
            have hadr' := hadr.resolve_left (by omega)
            subst hadr'
            refine ⟨M, .tuple #[], w', ?_, .tup .nil, e2⟩
            obtain ⟨n', rfl⟩ : ∃ n', len = n' + 1 := ⟨len - 1, by omega⟩
            have hzc := zeroCells_rep rz (by omega) (n' + 1)
            simp [Builtin.clear_, hat, run_underlying hu, hrun w, hzc, e1]
          · cases h1
        · cases h1
  · cases h1

end
end Go.Im
namespace Go.Im
variable {p : Program} {M : Mp}

theorem freeze_heap (w : World) (b o n : Nat) {c : Array Value} {e : TypeId} {fz : Nat × Nat} (hb : w.heap[b]? = some (.cells c e fz)) (hn : n ≠ 0) :
    (∃ fz', (w.freeze ⟨b, o, none⟩ n).heap[b]? = some (.cells c e fz')) ∧ (∀ b', b' ≠ b → (w.freeze ⟨b, o, none⟩ n).heap[b']? = w.heap[b']?) ∧ (w.freeze ⟨b, o, none⟩ n).heap.size = w.heap.size ∧
      (w.freeze ⟨b, o, none⟩ n).os = w.os ∧ (w.freeze ⟨b, o, none⟩ n).output = w.output ∧ (w.freeze ⟨b, o, none⟩ n).tape = w.tape := by
  simp only [World.freeze, if_neg hn]
  refine ⟨⟨_, by rw [Array.getElem?_modify, if_pos rfl, hb]; rfl⟩, fun b' h => by rw [Array.getElem?_modify, if_neg (Ne.symm h)], by simp, ?_, ?_, ?_⟩ <;> simp

theorem ustr_def (ats : Array TypeId) (ty : TypeId) (po : Option Addr) (x : Value) {t : TypeId} (hat : ats[0]? = some t) (w : World) {k : IntKind} {n : Nat} (hx : x = .int k n) (hn : n ≤ 1099511627776) :
    (Builtin.unsafeString_ ats ty #[.pointer po, x]).run p w = (if n = 0 then (pure (.string .empty) : Sem Value) else match po with
      | none => runtimePanic (.error "unsafe.String: ptr is nil and len is not zero")
      | some a => do
        if ← variablesAt a (← elemOf t) n then do
          let s ← loadBytes a .empty n
          freeze a n
          pure (.string s)
        else unsupported (.unsafePointer "String: not so many bytes at ptr")).run p w := by
  subst hx
  have hmax : IntKind.i64.max = 9223372036854775807 := rfl
  have h1 : ¬ ((n : Int) < 0) := by omega
  have h2 : ¬ ((n : Int) > 9223372036854775807) := by omega
  have ai : ∀ w, (asInt (.int k (n : Int))).run p w = .ok (n : Int) w := fun w => by simp [asInt, asIntOf]
  cases po with
  | none =>
    rw [show Builtin.unsafeString_ ats ty #[.pointer none, .int k n] = (asInt (.int k n) >>= _) from rfl]
    simp only [Sem.run_bind, ai, Result.andThen_ok, hat, hmax, if_neg h1, if_neg h2, Int.natCast_eq_zero]
  | some a =>
    rw [show Builtin.unsafeString_ ats ty #[.pointer (some a), .int k n] = (asInt (.int k n) >>= _) from rfl]
    simp only [Sem.run_bind, ai, Result.andThen_ok, hat, hmax, if_neg h1, if_neg h2, Int.natCast_eq_zero, Int.toNat_natCast]

section
variable {w : World} {h h' : H} (r : Rel p M h w.heap) {fr : Fr} {v : V}
include r

theorem r_ustr {t e ty : TypeId} {ats : Array TypeId} (hat : ats[0]? = some t) (hu : p.underlying t = some (.pointer e)) (hn1 : posSize p e = some 1) {a b : X} {ra rb : Value} (ha : VRel M (a.ev fr) ra) (hb : VRel M (b.ev fr) rb)
    (h1 : wUstr e a b fr h = some (v, h')) : WrOk p M h w v h' (Builtin.unsafeString_ ats ty #[ra, rb]) := by
  obtain ⟨hs, _⟩ := posSize_spec hn1
  unfold wUstr at h1
  split at h1
  · rename_i hn
    obtain ⟨k, rfl⟩ := nat_spec hn hb
    split at h1
    · rename_i f k off room hq
      rw [hq] at ha
      cases h1; cases ha
      exact ⟨M, .string .empty, w, (ustr_def ats ty _ _ hat w (n := 0) rfl (by omega)).trans (by simp), .str .empty, .refl r rfl rfl rfl rfl⟩
    · rename_i hq
      rw [hq] at ha
      cases h1; cases ha
      exact ⟨M, .string .empty, w, (ustr_def ats ty _ _ hat w (n := 0) rfl (by omega)).trans (by simp), .str .empty, .refl r rfl rfl rfl rfl⟩
    · cases h1
  · rename_i n hn
    obtain ⟨kk, rfl⟩ := nat_spec hn hb
    split at h1
    · rename_i f k off room hq
      rw [hq] at ha
      split at h1
      · rename_i xs ver dead md ty' hg
        split at h1
        · rename_i hbb
          simp only [Bool.and_eq_true] at hbb
          obtain ⟨⟨⟨⟨hb1, hb2⟩, hb3⟩, hb4⟩, hb5⟩ := hbb
          have hb1 := Nat.eq_of_beq_eq_true hb1
          have hb2 := Nat.le_of_ble_eq_true hb2
          have hb3 := Nat.eq_of_beq_eq_true hb3
          have hb4 := Nat.le_of_ble_eq_true hb4
          have hb5 := Nat.le_of_ble_eq_true hb5
          subst hb1 hb3
          have main : md ≠ .ro → (match range xs off (n + 1) with | some cs => (match toBytes cs with | some s => some (V.str s, h.set f (.cells xs k k .fz e)) | none => none) | none => none) = some (v, h') →
              WrOk p M h w v h' (Builtin.unsafeString_ ats ty #[ra, .int kk (n + 1 : Nat)]) := fun hro h1 => by
            split at h1
            · rename_i cs hcs
              split at h1
              · rename_i s hst
                cases h1
                cases ha with
                | ptr _ _ hM hr =>
                  rename_i l
                  obtain ⟨l0, hM0⟩ := (r.dom f k l hM).2.2.2
                  have hlim := (r.dom f k l hM).2.2.1
                  obtain ⟨l', hl', hmod, ho, hown, c, frz, hc, hsz, hcells, hzf⟩ := r.cells f xs k dead md e l0 hg hM0 k hb4 (Nat.le_refl _)
                  rw [hM] at hl'; cases hl'
                  have hlive : live h f k = some xs := by
                    unfold live; rw [hg]
                    simp only [O.live, Nat.ble_eq_true_of_le hb4, Nat.ble_eq_true_of_le (Nat.le_refl k), Bool.and_self]
                  have hro' : rangeO (live h f k) off (n + 1) = some cs := by rw [hlive]; exact hcs
                  obtain ⟨rs, hrel, hrl, hld, hleaf, hcell⟩ := load_cells r hM (by omega) hro'
                  obtain ⟨ns, e1, e2, e3⟩ := toBytes_spec hst hrel
                  subst e1 e2
                  have hsl : s.length = n + 1 := by simpa using hrl
                  have hlb := Go.Lib.run_loadBytes (P := p) w (s.map UInt8.ofNat) ⟨l.blk, l.base + off, none⟩ .empty (fun j x hx => by
                    rw [Addr.add_lit]
                    refine hcell j _ ?_
                    rw [List.getElem?_map] at hx
                    cases hsj : s[j]? with
                    | none => rw [hsj] at hx; cases hx
                    | some y =>
                      rw [hsj] at hx
                      simp at hx
                      subst hx
                      have := e3 y (List.mem_of_getElem? hsj)
                      simp [hsj]
                      omega)
                  rw [List.length_map, hsl] at hlb
                  have hva := run_variablesAt_self (p := p) hc hs (by omega) (n + 1) (o := l.base + off) (Nat.mod_one _) (by simp only [Nat.div_one]; omega)
                  obtain ⟨⟨fz', f1⟩, f2, f3, f4, f5, f6⟩ := freeze_heap w l.blk (l.base + off) (n + 1) hc (by omega)
                  refine ⟨M, .string ⟨(s.map UInt8.ofNat).toArray⟩, w.freeze ⟨l.blk, l.base + off, none⟩ (n + 1), ?_, ?_, step_cells r hg hb4 hM0 hM hro ?_ f3 f2 f4 f5 f6⟩
                  · refine (ustr_def ats ty _ _ hat w (n := n + 1) rfl hb5).trans ?_
                    have he : (elemOf t).run p w = .ok e w := by simp [elemOf, run_underlying hu]
                    simp only [if_neg (Nat.succ_ne_zero n), Sem.run_bind, he, Result.andThen_ok, hva, if_true, hlb, run_freeze, Sem.run_pure]
                    simp
                  · have : bytesN ⟨(s.map UInt8.ofNat).toArray⟩ = s := by
                      simp only [bytesN, List.map_map]
                      conv => rhs; rw [← List.map_id s]
                      apply List.map_congr_left
                      intro a ha
                      have := e3 a ha
                      simp; omega
                    conv => lhs; rw [← this]
                    exact .str _
                  · exact ⟨fun _ => hmod hro, ho, fun _ => hown (by simp), c, fz', f1, hsz, hcells, fun h => by cases h⟩
              · cases h1
            · cases h1
          split at h1
          · cases h1
          · rename_i hro
            exact main hro h1
        · cases h1
      · cases h1
    · cases h1
  · cases h1

end
end Go.Im
