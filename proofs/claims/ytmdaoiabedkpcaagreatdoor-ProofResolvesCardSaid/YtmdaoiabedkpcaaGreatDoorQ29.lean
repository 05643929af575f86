/- A part of the proof that ProofResolves holds for every input of the given program: Stq, Lw. -/
import Derived.Carry
import Derived.SizedLaws
import Derived.Test.YtmdaoiabedkpcaaGreatDoorQ28
set_option linter.unusedVariables false
set_option linter.unusedSimpArgs false
open Go
namespace Go.Im
open Go.Proofs Go.RowKit Go.Proofs.YtmdaoiabedkpcaaGreatDoor
set_option maxRecDepth 100000
noncomputable abbrev h0 : H := heapOf c34u (pOf 14)
theorem h0_get {f : P} {o : O} (e : h0.get f = some o) : (f, o) ∈ c34u := by
  rcases lay_get (l := c34u) (m := .e) e with h1 | ⟨_, h1⟩
  · exact h1
  · exfalso
    have : HT.get f (HT.e : HT O) = none := by cases f <;> rfl
    rw [this] at h1; cases h1
theorem u_mem {f : P} {o : O} (h : (f, o) ∈ c34u) : ∃ g xs ty, g < 5 ∧ f = pOf g ∧ o = .cells xs 0 0 .ro ty ∧ ∀ W : World, laidMetH pg laid W → W.ShapedOpen pg → CellsOk pg M0 xs .ro ty true ⟨g, 0, gsz g, gsz g⟩ W.heap := by
  rw [u_eq] at h
  simp only [List.mem_cons, List.not_mem_nil, or_false, Prod.mk.injEq] at h
  rcases h with ⟨rfl, rfl⟩ | ⟨rfl, rfl⟩ | ⟨rfl, rfl⟩ | ⟨rfl, rfl⟩ | ⟨rfl, rfl⟩
  · exact ⟨0, _, _, by decide, rfl, rfl, fun W a b => o0 a b⟩
  · exact ⟨1, _, _, by decide, rfl, rfl, fun W a b => o1 a b⟩
  · exact ⟨2, _, _, by decide, rfl, rfl, fun W a b => o2 a b⟩
  · exact ⟨3, _, _, by decide, rfl, rfl, fun W a b => o3 a b⟩
  · exact ⟨4, _, _, by decide, rfl, rfl, fun W a b => o4 b⟩
theorem heap_12 {W : World} (hl : laidMetH pg laid W) : 12 ≤ W.heap.size := by
  obtain ⟨⟨ps, hv, _⟩, _⟩ := laidMetH_iff.1 hl
  obtain ⟨g', t', cs, fuel, p, a, b, c, q⟩ := laid_mem hv (List.mem_filter.2 ⟨mem11, by kernel_rfl⟩)
  obtain ⟨ty, frz, hh⟩ := var_row gn11 c
  rcases Nat.lt_or_ge 11 W.heap.size with h | h
  · exact h
  · rw [Array.getElem?_eq_none h] at hh; cases hh
theorem n14 : pNat h0.next = 14 := by kernel_rfl
theorem h0_ro {f : P} {k : Nat} : ¬ h0.writable f k := fun hw => by
  have hl := hw.1
  unfold H.liveAt at hl
  cases hgf : h0.get f with
  | none => rw [hgf] at hl; exact hl
  | some o =>
    obtain ⟨g, xs, ty, _, _, rfl, _⟩ := u_mem (h0_get hgf)
    exact hw.2 _ _ _ _ hgf
theorem lies_self : lies h0 c34u = true := by kernel_rfl
theorem start_rel {W : World} (hl : laidMetH pg laid W) (hs : W.ShapedOpen pg) : Ab pg W M0 h0 := by
  have h12 := heap_12 hl
  refine ⟨⟨fun f k l e => ?_, fun f xs ver dead md ty l0 hgf hM0 k hk1 hk2 => ?_, fun f o l hgf hc hM0 => ?_, fun f k l g j m a b c d hne hw => ?_, fun f xs ver dead md ty k hgf hk => ?_, fun f o k hgf hc hk => ?_, fun f k l j m a b hb => ?_, fun f hf => ?_⟩, fun f k l _ => h0_ro⟩
  · obtain ⟨rfl, g, hg, rfl, rfl⟩ := M0_some e
    exact ⟨by show g < W.heap.size; omega, by rw [n14, pOf_nat g hg]; omega, Nat.le_refl _, _, M0_at hg⟩
  · obtain ⟨g, xs', ty', hg, rfl, e, hc⟩ := u_mem (h0_get hgf)
    cases e
    have hk : k = 0 := by omega
    subst hk
    exact ⟨_, M0_at (by omega), hc W hl hs⟩
  · obtain ⟨g, xs', ty', hg, rfl, rfl, _⟩ := u_mem (h0_get hgf)
    simp [O.isCells] at hc
  · rcases hw with hw | hw <;> exact absurd hw h0_ro
  · cases e : M0 f k with
    | none => rfl
    | some l =>
      obtain ⟨rfl, _⟩ := M0_some e
      omega
  · cases e : M0 f k with
    | none => rfl
    | some l =>
      obtain ⟨rfl, _⟩ := M0_some e
      omega
  · obtain ⟨_, g, _, _, rfl⟩ := M0_some a
    obtain ⟨_, g', _, _, rfl⟩ := M0_some b
    rfl
  · cases hgf : h0.get f with
    | none => rfl
    | some o =>
      obtain ⟨g, xs', ty', hg, rfl, rfl, _⟩ := u_mem (h0_get hgf)
      rw [n14, pOf_nat g (by omega)] at hf
      omega
theorem start_g : GOk pg M0 := fun g gl n hgl hsz => by
  have hlt : g < 12 := by
    rcases Nat.lt_or_ge g pg.globals.size with h | h
    · rw [gsize] at h; exact h
    · rw [Array.getElem?_eq_none h] at hgl; cases hgl
  refine ⟨_, M0_at hlt, rfl, rfl, ?_⟩
  show n ≤ gsz g
  unfold gsz
  rw [hgl]
  simp [hsz]
/-! the arguments -/
theorem abs54 {X : Type} {W : World} {enc : TypeId × Value → X} {held : Bool} : AbsOk pg W enc held 54 (RTwo (RInt .i64) RBool) :=
  abs_two Go.Proofs.Tryz.underlying54 rfl (by kernel_rfl) (by kernel_rfl) (RInt.stable _) (abs_int Go.Proofs.Tryz.underlying3 (by kernel_rfl)) (abs_bool Go.Proofs.Tryz.underlying4 (by kernel_rfl))
theorem abs25 {X : Type} {W : World} {enc : TypeId × Value → X} {held : Bool} (an : ∃ (b : Nat) (c : Array Value) (ty : TypeId) (frz : Nat × Nat), W.heap[b]? = some (.cells c ty frz)) : AbsOk pg W enc held 25 (RSl 2 (RTwo (RInt .i64) RBool)) :=
  abs_slice (RTwo.stable (RInt.stable _) RBool.stable) Go.Proofs.Tryz.underlying25 (by kernel_rfl) (by kernel_rfl) (by decide) abs54 an
theorem abs22 {X : Type} {W : World} {enc : TypeId × Value → X} {held : Bool} (an : ∃ (b : Nat) (c : Array Value) (ty : TypeId) (frz : Nat × Nat), W.heap[b]? = some (.cells c ty frz)) : AbsOk pg W enc held 22 (RSl 1 (RSl 2 (RTwo (RInt .i64) RBool))) :=
  abs_slice (RSl.stable (RTwo.stable (RInt.stable _) RBool.stable)) Go.Proofs.Tryz.underlying22 (by kernel_rfl) (by kernel_rfl) (by decide) (abs25 an) an
theorem abs23 {X : Type} {W : World} {enc : TypeId × Value → X} {held : Bool} (an : ∃ (b : Nat) (c : Array Value) (ty : TypeId) (frz : Nat × Nat), W.heap[b]? = some (.cells c ty frz)) : AbsOk pg W enc held 23 (RSl 1 (RInt .i64)) :=
  abs_slice (RInt.stable _) Go.Proofs.Tryz.underlying23 (by kernel_rfl) (by kernel_rfl) (by decide) (abs_int Go.Proofs.Tryz.underlying3 (by kernel_rfl)) an
theorem F2.len {α β : Type} {R : α → β → Prop} : ∀ {xs : List α} {ys : List β}, F2 R xs ys → xs.length = ys.length
  | _, _, .nil => rfl
  | _, _, .cons _ t => by simp [t.len]
theorem F2.get2 {α β : Type} {R : α → β → Prop} : ∀ {xs : List α} {ys : List β}, F2 R xs ys → ∀ {i : Nat} {a : α} {b : β}, xs[i]? = some a → ys[i]? = some b → R a b
  | _, _, .nil, i, a, b, h, _ => by simp at h
  | _, _, .cons x t, 0, a, b, h, k => by simp at h k; subst h; subst k; exact x
  | _, _, .cons x t, i + 1, a, b, h, k => t.get2 (by simpa using h) (by simpa using k)
theorem lits_of {h : H} {l : List (Int × Bool)} {vs : List V} (r : RSl 2 (RTwo (RInt .i64) RBool) h l vs) : ∃ v, vs = [v] ∧ LitsOf h v l := by
  obtain ⟨v, els, rfl, s, f⟩ := r
  refine ⟨v, rfl, ?_⟩
  have : els = l.map litC := by
    apply List.ext_getElem?
    intro i
    rcases Nat.lt_or_ge i l.length with hi | hi
    · have hi' : i < els.length := by rw [← f.len]; exact hi
      obtain ⟨us, ws, e, ⟨a, _⟩, b⟩ := f.get2 (List.getElem?_eq_getElem hi) (List.getElem?_eq_getElem hi')
      rw [List.getElem?_eq_getElem hi', List.getElem?_map, List.getElem?_eq_getElem hi, e, a, b]
      rfl
    · rw [List.getElem?_eq_none (by rw [← f.len]; exact hi), List.getElem?_eq_none (by simpa using hi)]
  rw [this] at s
  exact s
theorem clauses_of {h : H} {ls : List (List (Int × Bool))} {vs : List V} (r : RSl 1 (RSl 2 (RTwo (RInt .i64) RBool)) h ls vs) : ∃ v, vs = [v] ∧ ClausesOf h v ls := by
  obtain ⟨v, els, rfl, s, f⟩ := r
  have hel : ∀ i, i < els.length → ∃ x, els[i]? = some [x] ∧ ∀ l, ls[i]? = some l → LitsOf h x l := fun i hi => by
    have hi' : i < ls.length := by rw [f.len]; exact hi
    obtain ⟨x, hx, hl⟩ := lits_of (f.get2 (List.getElem?_eq_getElem hi') (List.getElem?_eq_getElem hi))
    exact ⟨x, by rw [List.getElem?_eq_getElem hi, hx], fun l e => by rw [List.getElem?_eq_getElem hi'] at e; cases e; exact hl⟩
  have hvs : els = (els.map fun e => e.headD .snil).map fun x => [x] := by
    apply List.ext_getElem?
    intro i
    rcases Nat.lt_or_ge i els.length with hi | hi
    · obtain ⟨x, e, _⟩ := hel i hi
      simp [e]
    · rw [List.getElem?_eq_none hi, List.getElem?_eq_none (by simpa using hi)]
  refine ⟨v, rfl, els.map fun e => e.headD .snil, by rw [← hvs]; exact s, by rw [List.length_map, f.len], fun i x l hx hl => ?_⟩
  rw [List.getElem?_map] at hx
  have hi : i < els.length := by
    rcases Nat.lt_or_ge i els.length with h | h
    · exact h
    · rw [List.getElem?_eq_none h] at hx; cases hx
  obtain ⟨y, e, q⟩ := hel i hi
  rw [e] at hx
  cases hx
  exact q l hl
theorem ints_of {h : H} {l : List Int} {vs : List V} (r : RSl 1 (RInt .i64) h l vs) : ∃ v, vs = [v] ∧ IntsOf h v l := by
  obtain ⟨v, els, rfl, s, f⟩ := r
  refine ⟨v, rfl, ?_⟩
  have : els = l.map fun n => [V.int .i64 n] := by
    apply List.ext_getElem?
    intro i
    rcases Nat.lt_or_ge i l.length with hi | hi
    · have hi' : i < els.length := by rw [← f.len]; exact hi
      obtain ⟨e, _⟩ := f.get2 (List.getElem?_eq_getElem hi) (List.getElem?_eq_getElem hi')
      rw [List.getElem?_eq_getElem hi', List.getElem?_map, List.getElem?_eq_getElem hi, e]
      rfl
    · rw [List.getElem?_eq_none (by rw [← f.len]; exact hi), List.getElem?_eq_none (by simpa using hi)]
  rw [this] at s
  exact s
end Go.Im
open Go
namespace Go.Im
open Go.Proofs Go.RowKit Go.ChangeShapes Go.WideShapes Go.ChangeAt Go.Proofs.YtmdaoiabedkpcaaGreatDoor
set_option maxRecDepth 100000
/-- the law's call, in whatever world the statement speaks of -/
theorem law_call {X : Type} {enc : TypeId × Value → X} {W : World} (hl : laidMetH pg laid W) (hs : W.ShapedOpen pg) {v w : Value} {d d' : DataW X} {p p' : List MemPlace} (hv : ∃ a len cap, v = .slice a len cap ∧ len < 4611686018427387904) (hw : ∃ a len cap, w = .slice a len cap)
    (h1 : DataW.Trod enc pg W 0 (fun _ => true) true 22 v d p) (h2 : DataW.Trod enc pg W 0 (fun _ => true) true 23 w d' p') : Calls pg 3 #[v, w] W fun e w' => e = .returned (.bool true) ∧ Below W.heap.size W w' := by
  obtain ⟨a, len, cap, rfl, hlm⟩ := hv
  obtain ⟨a', len', cap', rfl⟩ := hw
  obtain ⟨n1, t1⟩ := h1
  obtain ⟨n2, t2⟩ := h2
  have t1 : DataW.trod enc pg W 0 (fun _ => true) true n1 22 [.slice a len cap] = some (d, p) := t1
  have t2 : DataW.trod enc pg W 0 (fun _ => true) true n2 23 [.slice a' len' cap'] = some (d', p') := t2
  have an : ∃ (b : Nat) (c : Array Value) (ty : TypeId) (frz : Nat × Nat), W.heap[b]? = some (.cells c ty frz) := by
    obtain ⟨cs, e⟩ := row_at hs (g := 0) (by rw [gsize]; decide) w0
    exact ⟨0, cs, _, _, e⟩
  obtain ⟨M1, g1, vs1, ls, b1, b2, b3, b4, b5, b6, b7⟩ := abs22 an n1 _ _ M0 h0 t1 (start_rel hl hs)
  obtain ⟨M2, g2, vs2, pv, c1, c2, c3, c4, c5, c6, c7⟩ := abs23 an n2 _ _ M1 g1 t2 b1
  obtain ⟨x, rfl, s1⟩ := clauses_of b7
  obtain ⟨y, rfl, s2⟩ := ints_of c7
  have s1' := s1.grew b1.ok c3
  have hg : GOk pg M2 := start_g.mono (Mp.le_trans b2 c2)
  have hu : lies g2 c34u = true := lies_grew (b3.trans c3) (start_rel hl hs).ok lies_self
  have hlen : ls.length < 4611686018427387904 := by
    have hvl := s1.vlen
    cases b4 with
    | cons hx _ =>
      cases hx with
      | snil =>
        have : ((0 : Nat) : Int) = (ls.length : Int) := by
          have h : some (V.int .i64 (Int.ofNat 0)) = some (V.int .i64 (ls.length : Nat)) := hvl
          simpa using h
        omega
      | sl =>
        rename_i hM hl' ha hle hk hu'
        have h : some (V.int .i64 (Int.ofNat len)) = some (V.int .i64 (ls.length : Nat)) := hvl
        have : (len : Int) = (ls.length : Int) := by simpa using h
        omega
      | unk => cases hvl
  refine law_runs hg c1.rel c1.nw hu s1' s2 hlen ?_
  cases b4 with
  | cons hx hn =>
    cases hn
    cases c4 with
    | cons hy hn =>
      cases hn
      exact .cons (hx.mono c2) (.cons hy .nil)
end Go.Im
