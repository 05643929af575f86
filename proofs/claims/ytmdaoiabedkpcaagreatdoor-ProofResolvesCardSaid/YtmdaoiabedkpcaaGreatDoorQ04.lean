/- A part of the proof that ProofResolves holds for every input of the given program: DelH, SrtF, Qt, CtB, Aw, Ss, SrtC. -/
import Derived.RecoverIn
import Derived.KernelRfl
import Derived.Test.YtmdaoiabedkpcaaGreatDoorProg
import Derived.Conc.EntryLaws
import Derived.Shelf.SlSortCmp.NoneTotal
import Derived.Shelf.SlicesG.Cmp
import Derived.Shelf.Small.Bits
import Derived.Ground.SlsfProg
import Derived.Ground.SlgcProg
import Derived.Ground.NamesProg
import Derived.Test.YtmdaoiabedkpcaaGreatDoorQ03
set_option linter.unusedVariables false
set_option linter.unusedSimpArgs false
open Go
namespace Go.Im
theorem eval_slot {M : Mp} {fr : Fr} {a : Act} (hf : FrRel M 19 fr a.tmps) {n : Nat} (hn : n < 19) {v : V} (h : fr.get (sOf n) = v) : VRel M v (a.eval (.tmp n)) := by
  obtain ⟨rv, e, hv⟩ := hf.get n hn
  have : a.eval (.tmp n) = rv := by
    show a.tmps.getD n undef = rv
    rw [Array.getD_eq_getD_getElem?, e]; rfl
  rw [this, ← h]; exact hv

theorem wpOpsIn_step {F : Fence} {n : Nat} {P : Program} {ops : Array Oper} {Q : Exit → Act → World → Prop} {i : Nat} {rest : List Nat} {o : Oper} {a : Act} {w : World} (hg : o.guard = none) (ho : ops[i]? = some o) (h : o.wpIn F n P a w (wpOpsIn F n P ops Q rest) Q) : wpOpsIn F n P ops Q (i :: rest) a w := by
  rw [wpOpsIn_cons]
  unfold wpOpIn
  simp only [ho, Region.wanted, hg, if_true]
  exact h

theorem del_ok {M : Mp} {ro : Option Nat} {vs : List V} {rargs : Array Value} {h h' : H} {v : V} {w : World} (hv : VsRel M vs rargs.toList) (hg : GOk pg M) (r : Rel pg M h w.heap) (he : spDel 194 vs h = some (v, h')) :
    FnAns pg ro 193 rargs w fun rv w' => ∃ M', Step pg M h w M' h' w' ∧ VRel M' v rv := by
  unfold spDel at he
  split at he
  case h_2 => cases he
  rename_i mm g
  split at he
  case h_2 => cases he
  rename_i hgb
  have := Nat.eq_of_beq_eq_true hgb
  subst this
  split at he
  case h_2 => cases he
  rename_i es c hmm
  split at he
  case h_2 => cases he
  rename_i hok
  cases he
  obtain ⟨hform, hpair⟩ := delOk_spec hok
  obtain ⟨rm, rf, rfl, hm, hf⟩ := vs2 hv
  have hcall : (callFunc 193 #[rm, rf]).run pg w = .ok (.enter 193 #[rm, rf]) w := by
    simp [callFunc, program, Sem.run_bind, Sem.run, Result.andThen, Go.Proofs.Tryz.func193, Go.Proofs.Tryz.f193]
  refine ⟨_, _, hcall, callsIn_fn0 (callsIn_of_wp_marks Go.Proofs.Tryz.func193 dBody trivial ?_)⟩
  -- the start
  have hvs : VsRel M [V.map mm, .fn (.func 194) [] []] (#[rm, rf] : Array Value).toList := by simpa using hv
  have hinit : StRel M 19 w.heap.size ⟨initF [V.map mm, .fn (.func 194) [] []] 0 Fr.e, [], h⟩ { tmps := #[rm, rf] ++ Array.replicate (Go.Proofs.Tryz.f193.ntmps - (#[rm, rf] : Array Value).size) undef, defers := [] } w :=
    ⟨init_rel hvs (by omega) (by simp), .nil, fun r hr => by simp [dmarks] at hr, by simp [dmarks]⟩
  generalize ({ tmps := #[rm, rf] ++ Array.replicate (Go.Proofs.Tryz.f193.ntmps - (#[rm, rf] : Array Value).size) undef, defers := [] } : Act) = a0 at hinit ⊢
  have hnm : mm ≠ h.next := by rintro rfl; rw [r.hfr _ (Nat.le_refl _)] at hmm; cases hmm
  let h1 := h.new (.miter (some mm) c [] c)
  let F1 := ((initF [V.map mm, .fn (.func 194) [] []] 0 Fr.e).set (.map mm) (sOf 6)).set (.ptr h.next 0 0 0) (sOf 7)
  have hx0 : exec PrA 2 (cCode pg 19 (none : Option Nat).isSome dR0) ⟨initF [V.map mm, .fn (.func 194) [] []] 0 Fr.e, [], h⟩ = .norm ⟨F1, [], h1⟩ := by
    show exec PrA 2 (cCode pg 19 false dR0) _ = _
    rw [dC0_eq]
    unfold dC0
    rw [x_reg (n := 1), r_pu (v := .map mm) (by kernel_rfl)]
    refine r_wr ?_
    have e6 : (X.t (sOf 6)).ev (putD (some (sOf 6)) (V.map mm) (initF [V.map mm, .fn (.func 194) [] []] 0 Fr.e)) = .map mm := Fr.get_set_same _ _ _
    simp only [IW.f, wRngm, e6, hmm]
    rfl
  refine wpIn_seq (wpIn_mono (codeA 2 none 19 dR0 _ _ hx0 (by simp) M a0 w w.heap.size hg r hinit (Nat.le_refl _)) fun e a1 w1 q => ?_)
  cases e <;> simp only [OutRel] at q <;> first | exact q.elim | skip
  obtain ⟨M1, st1, hs1⟩ := q
  refine wpIn_block (wpIn_loop_fuel (fun m a w' => ∃ (M' : Mp) (hc : H) (seen : List Nat) (fr : Fr), Step pg M h w M' hc w' ∧ StRel M' 19 w.heap.size ⟨fr, [], hc⟩ a w' ∧ fr.get (sOf 0) = .map mm ∧ fr.get (sOf 1) = .fn (.func 194) [] [] ∧ fr.get (sOf 7) = .ptr h.next 0 0 0 ∧
    hc.get mm = some (.map (es.filter fun e => keepT e || unseen seen e) c) ∧ hc.get h.next = some (.miter (some mm) c seen c) ∧ (∀ f, f ≠ mm → f ≠ h.next → hc.get f = h.get f) ∧ hc.next = pSucc h.next ∧ m = (es.filter (unseen seen)).length) (k := es.length) ?_ ?_)
  · refine ⟨M1, h1, [], F1, st1, hs1, by kernel_rfl, by kernel_rfl, Fr.get_set_same _ _ _, ?_, H.get_new_same _ _, fun f _ hf => H.get_new_ne _ _ (Ne.symm hf), rfl, ?_⟩
    · have : (es.filter fun e => keepT e || unseen [] e) = es := List.filter_eq_self.2 fun e _ => by simp [unseen]
      rw [this]
      show (h.new _).get mm = _
      rw [H.get_new_ne _ _ (Ne.symm hnm)]; exact hmm
    · have : (es.filter (unseen [])) = es := List.filter_eq_self.2 fun e _ => by simp [unseen]
      rw [this]
  · intro m a w2 ⟨M2, hc, seen, fr, st2, hs2, g0, g1, g7, hcm, hci, hco, hcn, hmeas⟩
    have hgm := hg.mono st2.mono
    refine wpIn_seq ?_
    rw [dR1_eq]
    obtain ⟨o0, o1, hops, hop0, hdst0, hgd0, hios⟩ := dOps
    rw [hops]
    refine wpIn_region ?_
    show wpOpsIn _ _ _ #[o0, o1] _ [0, 1] _ _
    refine wpOpsIn_step hgd0 rfl ⟨fun _ _ => trivial, ?_⟩
    rw [Oper.semAt_eq _ _ _ (fun c e => by rw [hop0] at e; cases e)]
    have hr7 := eval_slot hs2.fr (n := 7) (by omega) g7
    obtain ⟨L, ob, hML, hrv, hbl, _⟩ := ptr_iter st2.rel hr7 hci rfl
    have hexec : execOp a.eval o0 = (do pure (.value (← Instr.next (a.eval (.tmp 7)) false o0.type))) := by
      unfold execOp; rw [hop0]
    rw [hexec, hrv]
    have hformc : ∀ e ∈ (es.filter fun e => keepT e || unseen seen e), e.2.2 < c := fun e he => by
      obtain ⟨_, _, _, _, q⟩ := hform e (List.mem_filter.1 he).1
      exact q
    -- the extraction, and what stands behind it
    have behind : ∀ {M3 : Mp} {hd : H} {w3 : World} {vt : V} {rv : Value} {t : Bool} (Q : Exit → Act → World → Prop), Step pg M2 hc w2 M3 hd w3 → VRel M3 vt rv → zdo 0 vt = some (.bool t) →
        (∀ M4 a4 w4, Step pg M2 hc w2 M4 hd w4 → StRel M4 19 w.heap.size ⟨(fr.set vt (sOf 8)).set (.bool t) (sOf 9), [], hd⟩ a4 w4 → Q .normal a4 w4) →
        wpOpsIn (fn0 none) 0 pg #[o0, o1] Q [1] (a.put o0.dst rv) w3 := fun {M3 hd w3 vt rv t} Q st3 hvt hex hQ => by
      have hs3 : StRel M3 19 w.heap.size ⟨fr.set vt (sOf 8), [], hd⟩ (a.put o0.dst rv) w3 := by
        have := (hs2.step st3).put (t := o0.dst) (d := some (sOf 8)) (by rw [hdst0]; rfl) hvt
        exact this
      have hrun : runReg PrA (fun _ _ _ => none) [⟨some (sOf 9), .pu (.extr 0 (.t (sOf 8))), none⟩] (fr.set vt (sOf 8)) hd [] = .norm ⟨(fr.set vt (sOf 8)).set (.bool t) (sOf 9), [], hd⟩ := by
        refine r_pu ?_
        show zdo 0 ((fr.set vt (sOf 8)).get (sOf 8)) = _
        rw [Fr.get_set_same]; exact hex
      exact sim_ops (p := pg) (Pr := PrA) (call := fun _ _ _ => none) (fun _ _ _ _ _ _ _ _ _ _ _ _ _ _ _ _ _ _ e => by cases e) (ro := none) 1 1 _ (ops := #[o0, o1]) rfl hios hrun (by simp) (hgm.mono st3.mono) st3.rel hs3 fun M4 a4 w4 fr4 h4 ds4 e st4 hs4 => by
        simp only [Out.norm.injEq, St.mk.injEq] at e
        obtain ⟨rfl, rfl, rfl⟩ := e
        exact hQ M4 a4 w4 (st3.trans st4) hs4
    have hMm2 : ∃ l, M2 mm 0 = some l := by
      cases hm with
      | map hMm => exact ⟨_, st2.mono _ _ _ hMm⟩
    rcases next_any st2.rel hci hcm hML hformc hformc hMm2 o0.type with ⟨w3, hrun, hnone, q1, q2, q3, q4⟩ | ⟨k, vv, b, rk, rvv, w3, hin, hun, hrun, hk, hvv, st3⟩
    · -- all are through
      have hrun' : (do pure (.value (← Instr.next (.pointer (some ⟨L.blk, 0, none⟩)) false o0.type)) : Sem Next).run pg w2 = .ok (.value (.tuple #[.bool false])) w3 := by simp [hrun]
      rw [hrun']
      refine behind (hd := hc) (vt := .tup [.bool false]) (t := false) _ (.refl st2.rel q1 q2 q3 q4) (.tup (.cons (.bool false) .nil)) rfl fun M4 a4 w4 st4 hs4 => ?_
      simp only [Exit.then]
      have hxT : exec PrA 30 (cCode pg 19 (none : Option Nat).isSome dT) ⟨(fr.set (.tup [.bool false]) (sOf 8)).set (.bool false) (sOf 9), [], hc⟩ = .exit 0 ⟨(fr.set (.tup [.bool false]) (sOf 8)).set (.bool false) (sOf 9), [], hc⟩ := by
        have := tail_end ((fr.set (.tup [.bool false]) (sOf 8)).set (.bool false) (sOf 9)) hc 0 (Fr.get_set_same _ _ _)
        rw [← dCT_eq] at this
        exact this
      refine wpIn_mono (codeA 30 none 19 dT _ _ hxT (by simp) M4 a4 w4 w.heap.size (hgm.mono st4.mono) st4.rel hs4 (Nat.le_trans st2.size st4.size)) fun e a5 w5 q => ?_
      cases e <;> simp only [OutRel] at q <;> first | exact q.elim | skip
      obtain ⟨rfl, M5, st5, hs5⟩ := q
      simp only [Exit.then, Exit.inBlock, if_true]
      have sta := st2.trans (st4.trans st5)
      have hfin : (es.filter fun e => keepT e || unseen seen e) = es.filter keepT := filter_all hnone
      show LeavesInM _ _ _ _ _ _ a5.defers _ _
      refine leaves_rel prA_ok.quiet (fn := Go.Proofs.Tryz.f193) (N := 19) (rs := []) rfl (M0 := M) (h0 := h) (w0 := w) (M := M5) (h := hc) (vs := []) rfl hs5.fr (fun rv w' st' hv' => ⟨rv, rfl, M5, ?_, hv'⟩) hs5.ds rfl sta hs5.marks hs5.nodup
      refine st'.dead (it := h.next) (Nat.le_refl _) (fun k hk => st5.rel.futo h.next _ k hci rfl hk) (fun f hf => ?_) ?_ hcn.symm (by rw [hcn, pSucc_nat]; omega)
      · by_cases hfm : f = mm
        · subst hfm; rw [H.get_set_same, hcm, hfin]
        · rw [H.get_set_ne _ _ (Ne.symm hfm), H.get_new_ne _ _ (Ne.symm hf), hco f hfm hf]
      · rw [H.get_set_ne _ _ hnm, H.get_new_same]
    · -- an entry
      have hrun' : (do pure (.value (← Instr.next (.pointer (some ⟨L.blk, 0, none⟩)) false o0.type)) : Sem Next).run pg w2 = .ok (.value (.tuple #[.bool true, rk, rvv])) w3 := by simp [hrun]
      rw [hrun']
      have hmemes : (k, vv, b) ∈ es := (List.mem_filter.1 hin).1
      obtain ⟨k', t, e1, e2, _⟩ := hform _ hmemes
      simp only at e1 e2
      subst e1 e2
      have hpairc : (es.filter fun e => keepT e || unseen seen e).Pairwise fun e f => e.2.2 ≠ f.2.2 ∧ e.1 ≠ f.1 := hpair.filter _
      refine behind (hd := hc.set h.next (.miter (some mm) c (seen ++ [b]) c)) (vt := .tup [.bool true, .int .i64 k', .bool t]) (t := true) _ st3 (.tup (.cons (.bool true) (.cons hk (.cons hvv .nil)))) rfl fun M4 a4 w4 st4 hs4 => ?_
      simp only [Exit.then]
      have hF : dF fr mm h.next = fr := by unfold dF; rw [Fr.set_same g0, Fr.set_same g1, Fr.set_same g7]
      obtain ⟨i, hfk, hat⟩ := find_key (fun e he => let ⟨k, b, x, y, _⟩ := hform e (List.mem_filter.1 he).1; ⟨k, b, x, y, trivial⟩) hpairc 0 hin
      obtain ⟨fr', hrunT, g0', g1', g7'⟩ := tail_run fr mm h.next k' t (hc.set h.next (.miter (some mm) c (seen ++ [b]) c)) (since := c) (bn := b) (seen := seen ++ [b]) (H.get_set_same _ _ _) (by simp) (by rw [H.get_set_ne _ _ (Ne.symm hnm)]; exact hcm) (find_born hpairc hin) ⟨_, by simpa using hfk⟩ 0
      rw [hF, ← dCT_eq] at hrunT
      refine wpIn_mono (codeA 30 none 19 dT _ _ hrunT (by simp) M4 a4 w4 w.heap.size (hgm.mono st4.mono) st4.rel hs4 (Nat.le_trans st2.size st4.size)) fun e a5 w5 q => ?_
      cases e <;> simp only [OutRel] at q <;> first | exact q.elim | skip
      obtain ⟨M5, st5, hs5⟩ := q
      simp only [Exit.then]
      refine ⟨(es.filter (unseen (seen ++ [b]))).length, ?_, M5, _, seen ++ [b], fr', st2.trans (st4.trans st5), hs5, g0', g1', g7', ?_, ?_, fun f hf1 hf2 => ?_, ?_, rfl⟩
      · rw [hmeas, ← List.countP_eq_length_filter, ← List.countP_eq_length_filter]
        refine countP_lt (fun x hx => ?_) hmemes hun ?_
        · rw [unseen_snoc] at hx; simp only [Bool.and_eq_true] at hx; exact hx.1
        · rw [unseen_snoc]; simp
      · cases t with
        | true =>
          show (hc.set h.next _).get mm = _
          rw [H.get_set_ne _ _ (Ne.symm hnm), hcm]
          have := seen_stays hpair (seen := seen) hmemes rfl
          simp only at this
          rw [this]
        | false =>
          show ((hc.set h.next _).set mm _).get mm = _
          rw [H.get_set_same, erase_at hpairc hat]
          have := seen_goes hpair (seen := seen) hmemes rfl
          simp only at this
          rw [this]
      · cases t with
        | true => exact H.get_set_same _ _ _
        | false =>
          show ((hc.set h.next _).set mm _).get h.next = _
          rw [H.get_set_ne _ _ hnm, H.get_set_same]
      · cases t with
        | true =>
          show (hc.set h.next _).get f = _
          rw [H.get_set_ne _ _ (Ne.symm hf2)]; exact hco f hf1 hf2
        | false =>
          show ((hc.set h.next _).set mm _).get f = _
          rw [H.get_set_ne _ _ (Ne.symm hf1), H.get_set_ne _ _ (Ne.symm hf2)]; exact hco f hf1 hf2
      · cases t with
        | true => exact hcn
        | false => exact hcn
end Go.Im
open Go
namespace Go.Im
open Go.Proofs Go.RowKit Go.Maps Go.Sort Go.Shelf Go.WideElems
/-! slices.Sorted over maps.Keys of a map of numbers to truth: by the shelf's contracts -/
theorem keysI_spec : ∀ {es : List (V × V × Nat)} {ks : List Int}, keysI es = some ks → es.map (fun e => e.1) = ks.map (fun n => V.int .i64 n) ∧ ∀ n ∈ ks, -9223372036854775808 ≤ n ∧ n ≤ 9223372036854775807
  | [], ks, h => by simp [keysI] at h; subst h; exact ⟨rfl, fun n h => by cases h⟩
  | (a, b, c) :: es, ks, h => by
    unfold keysI at h
    split at h
    · rename_i heq; cases heq
    · rename_i n v b' es' heq
      cases heq
      split at h
      · cases h
      · rename_i hr
        split at h
        · rename_i l hl
          cases h
          obtain ⟨i1, i2⟩ := keysI_spec hl
          refine ⟨by simp [i1], fun m hm => ?_⟩
          rcases List.mem_cons.1 hm with rfl | hm
          · simp only [ilt_eq, Bool.or_eq_false_iff, decide_eq_false_iff_not] at hr
            have e : Int.negSucc 9223372036854775807 = -9223372036854775808 := rfl
            rw [e] at hr
            have e2 : Int.ofNat 9223372036854775807 = 9223372036854775807 := rfl
            rw [e2] at hr
            omega
          · exact i2 m hm
        · cases h
    · cases h

theorem insI_perm (x : Int) : ∀ l, (insI x l).Perm (x :: l)
  | [] => List.Perm.refl _
  | y :: ys => by
    unfold insI
    split
    · exact ((insI_perm x ys).cons y).trans (List.Perm.swap x y ys)
    · exact List.Perm.refl _
theorem sortI_perm : ∀ l, (sortI l).Perm l
  | [] => List.Perm.refl _
  | x :: xs => (insI_perm x _).trans ((sortI_perm xs).cons x)
theorem insI_sorted (x : Int) : ∀ {l : List Int}, l.Pairwise (· ≤ ·) → (insI x l).Pairwise (· ≤ ·)
  | [], _ => List.pairwise_singleton _ _
  | y :: ys, h => by
    have h' := List.pairwise_cons.1 h
    unfold insI
    split
    · rename_i hlt
      rw [ilt_eq] at hlt
      have hlt : y < x := by simpa using hlt
      refine List.pairwise_cons.2 ⟨fun z hz => ?_, insI_sorted x h'.2⟩
      rcases List.mem_cons.1 ((insI_perm x ys).mem_iff.1 hz) with rfl | hz
      · omega
      · exact h'.1 z hz
    · rename_i hlt
      rw [ilt_eq] at hlt
      have hlt : ¬ y < x := by simpa using hlt
      refine List.pairwise_cons.2 ⟨fun z hz => ?_, h⟩
      rcases List.mem_cons.1 hz with rfl | hz
      · omega
      · have := h'.1 z hz; omega
theorem sortI_sorted : ∀ l, (sortI l).Pairwise (· ≤ ·)
  | [] => List.Pairwise.nil
  | x :: xs => insI_sorted x (sortI_sorted xs)
theorem sortI_eq {l l' : List Int} (hp : l'.Perm l) : l'.mergeSort (fun x y => decide (x ≤ y)) = sortI l := by
  have h1 : (l'.mergeSort (fun x y => decide (x ≤ y))).Pairwise (· ≤ ·) := by
    have := List.pairwise_mergeSort (le := fun (x y : Int) => decide (x ≤ y)) (fun a b c => by simp; omega) (fun a b => by simp; omega) l'
    exact this.imp fun h => by simpa using h
  have h2 := sortI_sorted l
  have h3 : (l'.mergeSort (fun x y => decide (x ≤ y))).Perm (sortI l) := (List.mergeSort_perm l' _).trans (hp.trans (sortI_perm l).symm)
  exact h3.eq_of_pairwise (fun a b _ _ h1 h2 => by omega) h1 h2

/-- a block that a call has laid, somewhere behind the heap, is a new object -/
theorem Step.newAt {p : Program} {M : Mp} {h : H} {w w' : World} (r : Rel p M h w.heap) {o : O} {ob : Obj} {l : Loc} (hl : w.heap.size ≤ l.blk) (hlt : l.blk < w'.heap.size) (hob : w'.heap[l.blk]? = some ob) (hn : NewOk p (M.add h.next 0 l) l o ob) (hB : Below w.heap.size w w') :
    Step p M h w (M.add h.next 0 l) (h.new o) w' := by
  have hnone := r.next_none
  have r' := (r.newIdeal o).addMap (hnone 0) (by rw [H.next_new]; omega) (H.get_new_same h o) (hp' := w'.heap) (l := l) (ob := ob)
    (fun g k m _ e => by have := r.lt e; omega) hB.size hlt (fun b hb _ => hB.block b hb) hob hn
  refine ⟨r', Mp.le_add (hnone 0), by rw [H.next_new]; omega, hB.size, fun f k m e e0 => ?_, fun b hb _ => hB.block b hb, fun f k m hwr e => ?_, fun f k m hwr e => ?_, fun f hf h0 => ?_, hB.os, hB.output, hB.tape, fun f k m e e0 => ?_, fun f hf e => ?_⟩
  · by_cases hf : f = h.next ∧ k = 0
    · exact .inl (by rw [hf.1]; exact Nat.le_refl _)
    · rw [Mp.add_ne M l hf, e0] at e; cases e
  · by_cases hf : f = h.next ∧ k = 0
    · rw [hf.1, hf.2, Mp.add_same] at e; cases e; exact .inl hl
    · rw [Mp.add_ne M l hf] at e
      refine .inr ⟨f, k, m, ?_, e, rfl⟩
      refine (H.writable_congr (H.get_new_ne h o ?_)).1 hwr
      rintro rfl; rw [hnone] at e; cases e
  · by_cases hf : f = h.next ∧ k = 0
    · rw [hf.1, hf.2, Mp.add_same] at e; cases e; exact .inl hl
    · rw [Mp.add_ne M l hf] at e
      refine .inr ⟨f, k, m, ?_, e, rfl⟩
      refine (H.liveAt_congr (H.get_new_ne h o ?_)).1 hwr
      rintro rfl; rw [hnone] at e; cases e
  · exact H.get_new_ne h o (by rintro rfl; omega)
  · by_cases hf : f = h.next ∧ k = 0
    · exact .inl (by rw [hf.1]; exact Nat.le_refl _)
    · rw [Mp.add_ne M l hf, e0] at e; cases e
  · rw [H.get_new_ne h o (by rintro rfl; omega)] at e; exact e
/-- .. only blocks that nothing maps to have come -/
theorem Step.below {p : Program} {M : Mp} {h : H} {w w' : World} (r : Rel p M h w.heap) (hB : Below w.heap.size w w') : Step p M h w M h w' :=
  ⟨r.congr hB.size fun f k l _ e => hB.block _ (r.lt e), Mp.le_refl M, Nat.le_refl _, hB.size, fun f k l e e0 => (by rw [e0] at e; cases e), fun b hb _ => hB.block b hb, fun f k l a e => .inr ⟨f, k, l, a, e, rfl⟩, fun f k l a e => .inr ⟨f, k, l, a, e, rfl⟩, fun _ _ _ => rfl, hB.os, hB.output, hB.tape, fun f k l e e0 => (by rw [e0] at e; cases e), fun _ _ e => e⟩


theorem foldr_insert_perm {X : Type} : ∀ (l : List (Lit × DataW X)), (l.foldr DataW.insert []).Perm l
  | [] => List.Perm.refl _
  | x :: l => by
    have ih := foldr_insert_perm l
    have : ∀ (m : List (Lit × DataW X)), (DataW.insert x m).Perm (x :: m) := fun m => by
      induction m with
      | nil => exact List.Perm.refl _
      | cons y m ihm =>
        unfold DataW.insert
        split
        · exact List.Perm.refl _
        · exact (ihm.cons y).trans (List.Perm.swap x y m)
    rw [List.foldr_cons]
    exact (this _).trans (ih.cons x)

theorem vr_int {M : Mp} {k : IntKind} {n : Int} {r : Value} (h : VRel M (.int k n) r) : r = .int k n := by cases h; rfl
theorem f2_keys {M : Mp} : ∀ {es : List (V × V × Nat)} {rs : List MapEntry} {ks : List Int}, F2 (entRel M) es rs → es.map (fun e => e.1) = ks.map (fun n => V.int .i64 n) → rs.map (·.key) = ks.map (fun n => Value.int .i64 n)
  | _, _, ks, .nil, h => by cases ks <;> simp at h ⊢
  | _, _, ks, .cons hx t, h => by
    cases ks with
    | nil => simp at h
    | cons k ks =>
      simp only [List.map_cons, List.cons.injEq] at h ⊢
      refine ⟨?_, f2_keys t h.2⟩
      have := hx.1
      rw [h.1] at this
      exact vr_int this
theorem f2_born {M : Mp} : ∀ {es : List (V × V × Nat)} {rs : List MapEntry}, F2 (entRel M) es rs → rs.map (·.born) = es.map (fun e => e.2.2)
  | _, _, .nil => rfl
  | _, _, .cons hx t => by simp only [List.map_cons, f2_born t, hx.2.2]

def Rk : Value → Option (DataW Unit × List MemPlace) := fun _ => some (.nil, [])
theorem wf64 {n : Int} (h : -9223372036854775808 ≤ n ∧ n ≤ 9223372036854775807) : (Lit.int .i64 n).wf = true := by
  simp [Lit.wf, IntKind.min, IntKind.max, IntKind.signed, IntKind.bits]
  omega
theorem rd_int {x : MapEntry} {n : Int} (hk : x.key = .int .i64 n) (h : -9223372036854775808 ≤ n ∧ n ≤ 9223372036854775807) : rd pg 3 Rk x = some (.int .i64 n, .nil) := by
  have hu : pg.underlying 3 = some (.int .i64) := Go.Proofs.Tryz.underlying3
  have : keyOf pg 3 x.key = some (.int .i64 n) := by
    rw [keyOf_int hu, hk]
    simp [mapKey, hu, wf64 h]
  unfold Go.WideElems.rd
  simp [this, Rk]
theorem rg_keys : ∀ {rs : List MapEntry} {ks : List Int}, rs.map (·.key) = ks.map (fun n => Value.int .i64 n) → (∀ n ∈ ks, -9223372036854775808 ≤ n ∧ n ≤ 9223372036854775807) → rs.map (rg pg 3 Rk) = ks.map fun n => (Lit.int .i64 n, DataW.nil)
  | [], ks, h, _ => by cases ks <;> simp at h ⊢
  | x :: rs, ks, h, hb => by
    cases ks with
    | nil => simp at h
    | cons k ks =>
      simp only [List.map_cons, List.cons.injEq] at h ⊢
      refine ⟨?_, rg_keys h.2 fun n hn => hb n (by simp [hn])⟩
      unfold rg
      rw [rd_int h.1 (hb k (by simp))]; rfl

theorem srt_ok {TM : TypeId} (hTM : isMapT pg TM = true) {M : Mp} {ro : Option Nat} {vs : List V} {rargs : Array Value} {h h' : H} {v : V} {w : World} (hv : VsRel M vs rargs.toList) (r : Rel pg M h w.heap) (he : spSorted 246 3 TM vs h = some (v, h')) :
    FnAns pg ro 143 rargs w fun rv w' => ∃ M', Step pg M h w M' h' w' ∧ VRel M' v rv := by
  unfold spSorted at he
  split at he
  case h_2 => cases he
  rename_i g b
  split at he
  case h_2 => cases he
  rename_i hgb
  have := Nat.eq_of_beq_eq_true hgb
  subst this
  split at he
  case h_2 => cases he
  rename_i mm md tb hb
  split at he
  case h_2 => cases he
  rename_i es c hmm
  split at he
  case h_2 => cases he
  rename_i hchk
  simp only [Bool.and_eq_true] at hchk
  obtain ⟨⟨⟨hmd, htb⟩, hok⟩, hlen⟩ := hchk
  have hmd : md ≠ .ro := by rintro rfl; cases hmd
  have htb := Nat.eq_of_beq_eq_true htb
  subst htb
  have hlen := Nat.le_of_ble_eq_true hlen
  split at he
  case h_2 => cases he
  rename_i ks hks
  obtain ⟨hform, hpair⟩ := delOk_spec hok
  obtain ⟨hkeys, hbnd⟩ := keysI_spec hks
  -- the arguments
  obtain ⟨rf, rfl, hf⟩ := vs1 hv
  cases hf with
  | fn ha hcap =>
  rename_i ra rb
  have hra : ra = #[] := by
    have := ha.length
    simp at this
    exact Array.eq_empty_of_size_eq_zero this.symm
  subst hra
  obtain ⟨rp, rfl, hp⟩ := vs1 hcap
  cases hp with
  | ptr _ _ hMb hroom =>
  rename_i lb
  obtain ⟨lb', hlb', hc⟩ := r.cells b _ 0 0 md tb lb hb hMb 0 (Nat.le_refl _) (Nat.le_refl _)
  rw [hMb] at hlb'; cases hlb'
  have hbase : lb.base = 0 := (hc.mod hmd).2 hTM
  have hext : lb.ext = 1 := hc.own rfl
  obtain ⟨cb, fz, hblk, _, hcells, _⟩ := hc.cells
  obtain ⟨rv, hrv, hrel, _⟩ := hcells 0 _ (by omega) rfl
  cases hrel with
  | map hMm =>
  rename_i lm
  obtain ⟨rs, hmblk, hF⟩ := map_at r hmm hMm
  have hkeysR := f2_keys hF hkeys
  have hrg := rg_keys hkeysR hbnd
  have hlR : rs.size = es.length := by
    have := congrArg List.length (f2_born hF)
    simpa using this
  have hcell : w.cell? ⟨lb.blk, 0, none⟩ = some (.map (some lm.blk)) := by
    rw [hbase] at hrv
    simp only [World.cell?, hblk]
    simpa using hrv
  have hkn : ks.length = es.length := by have := congrArg List.length hkeys; simpa using this.symm
  have hnd : (rs.toList.map (·.key)).Nodup := by
    rw [hkeysR]
    have : (es.map (fun e => e.1)).Nodup := by
      rw [List.Nodup, List.pairwise_map]
      exact hpair.imp fun h => h.2
    rw [hkeys] at this
    rw [List.Nodup, List.pairwise_map] at this ⊢
    exact this.imp fun h e => h (by cases e; rfl)
  have hown : w.ownsMap pg 3 Rk lm.blk 1048576 (.map ((rs.toList.map (rg pg 3 Rk)).foldr DataW.insert [])) := by
    refine ⟨rs, c, hmblk, ⟨?_, ⟨fun x hx => ?_, ?_, hnd⟩, fun x hx => ?_⟩, by omega, rfl⟩
    · unfold maxLen; omega
    · have : x.born ∈ rs.toList.map (·.born) := List.mem_map_of_mem hx
      rw [f2_born hF] at this
      obtain ⟨e, he', e1⟩ := List.mem_map.1 this
      obtain ⟨_, _, _, _, q⟩ := hform e he'
      omega
    · rw [f2_born hF, List.Nodup, List.pairwise_map]
      exact hpair.imp fun h => h.1
    · have : x.key ∈ rs.toList.map (·.key) := List.mem_map_of_mem hx
      rw [hkeysR] at this
      obtain ⟨n, hn, e1⟩ := List.mem_map.1 this
      exact ⟨_, rd_int e1.symm (hbnd n hn)⟩
  generalize hD : (DataW.map ((rs.toList.map (rg pg 3 Rk)).foldr DataW.insert []) : DataW Unit) = D0 at hown
  have hperm : (intKeys D0).Perm ks := by
    rw [← hD]
    show List.Perm (((rs.toList.map (rg pg 3 Rk)).foldr DataW.insert []).map fun p => intOf p.1) ks
    refine ((foldr_insert_perm _).map _).trans ?_
    rw [hrg, List.map_map]
    have : ((fun p : Lit × DataW Unit => intOf p.1) ∘ fun n => (Lit.int .i64 n, DataW.nil)) = id := by funext n; rfl
    rw [this, List.map_id]
  have hsz : Maps.size D0 = ks.length := by
    rw [← hD]
    show ((rs.toList.map (rg pg 3 Rk)).foldr DataW.insert []).length = ks.length
    rw [(foldr_insert_perm _).length_eq, hrg]; simp
  have hseq : SeqGives Fence.wide 2 pg 246 #[.pointer (some ⟨lb.blk, 0, none⟩)] encZ (fun ss => ss.Perm (intKeys D0)) (Maps.size D0) w :=
    AnyZI.keys_gives (ρ := Go.Proofs.Tryz.keysA_ren) { Go.Proofs.Tryz.keysA with } Fence.wide _ trivial rfl (by omega) lb.blk lm.blk 1048576 D0 w (r.lt hMb) hcell hown
  have cS := AnyZI.sorted_in Go.Proofs.Tryz.sortedA Fence.wide 5 trivial trivial trivial trivial rfl (by omega) (Go.Proofs.Tryz.sortsA _) (enters_of Go.Proofs.Tryz.func98 (by kernel_rfl) rfl) 246 #[.pointer (some ⟨lb.blk, 0, none⟩)] trivial (enters_of Go.Proofs.Tryz.func246 (by kernel_rfl) rfl) _ (Maps.size D0) (by rw [hsz, hkn]; unfold maxLen; omega) (by rw [hsz, hkn]; omega) w hseq
  change CallsIn _ _ pg 143 _ _ _ at cS
  have hptr : (⟨lb.blk, lb.base + 0, none⟩ : Addr) = ⟨lb.blk, 0, none⟩ := by rw [hbase]
  rw [hptr]
  refine fnAns_calls (enters_of Go.Proofs.Tryz.func143 (by kernel_rfl) rfl) ((callsIn_wide.1 cS).mono fun e w' ⟨vv, ss, e1, hS, hrow, hnil, hB⟩ => ⟨vv, e1, ?_⟩)
  have hss : ss.mergeSort (fun x y => decide (x ≤ y)) = sortI ks := sortI_eq (hS.trans hperm)
  have hssl : ss.length = (sortI ks).length := by rw [← hss]; simp
  rw [hss] at hrow
  split at he
  · rename_i hs0
    cases he
    rw [hs0] at hssl
    have : ss = [] := by simpa using hssl
    rw [hnil.2 this]
    exact ⟨M, .below r hB, .snil⟩
  · rename_i n ns hsn
    cases he
    obtain ⟨_, ⟨_, h0⟩ | ⟨gb, cap, cur, rfl, q1, q2, q3, q4, q5, q6⟩⟩ := hrow
    · rw [hssl, hsn] at h0; simp at h0
    · rw [hsn] at q6 hssl
      simp only [Nat.mul_one] at q5 q6
      have hlt : gb < w'.heap.size := by
        rcases Nat.lt_or_ge gb w'.heap.size with h | h
        · exact h
        · rw [Array.getElem?_eq_none h] at q2; cases q2
      refine ⟨M.add h.next 0 ⟨gb, 0, (n :: ns).length, cap⟩, Step.newAt r (l := ⟨gb, 0, (n :: ns).length, cap⟩) q1 hlt q2 (.cells (.zero _ _) (by simp) (by simp only; omega) (by simp only; omega) (fun i x hx => ?_) (fun i _ => by simp)) hB, ?_⟩
      · have hi : i < (n :: ns).length := by
          rcases Nat.lt_or_ge i (n :: ns).length with h | h
          · exact h
          · rw [List.getElem?_eq_none (by simpa using h)] at hx; cases hx
        rw [List.getElem?_map, List.getElem?_eq_getElem hi] at hx
        simp only [Option.map_some, Option.some.injEq] at hx
        subst hx
        refine ⟨.int .i64 (n :: ns)[i], ?_, .int _ _, rfl⟩
        have : (cur.toList.take ss.length)[i]? = ((n :: ns).map encZ)[i]? := by rw [q6]
        rw [List.getElem?_take_of_lt (by omega), List.getElem?_map, List.getElem?_eq_getElem hi] at this
        simpa [encZ] using this
      · rw [hssl]
        exact .sl (l := ⟨gb, 0, (n :: ns).length, cap⟩) (Mp.add_same _ _ _ _) (by simp) (.inr rfl) (by omega) (fun c e => by cases e) (fun _ => by simp)
end Go.Im
open Go
namespace Go.Im
theorem put_get {a : Act} {t : Nat} {v : Value} (h : t < a.tmps.size) : (a.put (some t) v).eval (.tmp t) = v := by
  simp [Act.eval, Act.put, h]
theorem wpSIn_recover1 {P : Program} {Q : Exit → Act → List Frame → World → Prop} {a : Act} {cs : List Frame} {w : World} {id : Nat} {o : Oper} (hg : o.guard = none) (ho : ∀ ρ, execOp ρ o = pure .recover) (hr : recoverD cs = none) (h : Q .normal (a.put o.dst .nilIface) cs w) :
    (Code.region id #[o] false).wpSIn (fn0 none) 0 P Q a cs w := by
  refine wpSIn_region ?_
  show wpOpsSIn _ _ _ #[o] _ [0] _ _ _
  simp only [wpOpsSIn, List.getElem?_toArray, List.getElem?_cons_zero, Region.wanted, hg, if_true, ho, Sem.run_pure, hr]
  exact ⟨fun _ _ => trivial, h⟩
theorem wpIn_region1 {P : Program} {Q : Exit → Act → World → Prop} {a : Act} {w w' : World} {id : Nat} {o : Oper} {v : Value} (hg : o.guard = none) (hnd : ∀ c, o.op ≠ .defer c) (ho : (execOp a.eval o).run P w = .ok (.value v) w') (h : Q .normal (a.put o.dst v) w') :
    (Code.region id #[o] false).wpIn (fn0 none) 0 P Q a w := by
  refine wpIn_region ?_
  show wpOpsIn _ _ _ #[o] _ [0] _ _
  simp only [wpOpsIn, List.getElem?_toArray, List.getElem?_cons_zero, Region.wanted, hg, if_true]
  refine ⟨fun _ _ => trivial, ?_⟩
  rw [Oper.semAt_eq _ _ _ hnd, ho]
  exact h
theorem quiet_read {Pr : Prog} (hP : ∀ g, Pr.quiet g = true → g = 237) : QuietOk Go.Proofs.Tryz.prog Pr := by
  intro g hg cap w
  have := hP g hg
  subst this
  refine ⟨by simp [callFunc, program, Sem.run_bind, Sem.run, Result.andThen, Go.Proofs.Tryz.func237, Go.Proofs.Tryz.f237], ?_⟩
  refine callsDIn_of_wpSIn Go.Proofs.Tryz.func237 rfl trivial fun c₀ cs hu => ?_
  have hsz : ∀ k, k < 16 → k < (cap ++ Array.replicate (Go.Proofs.Tryz.f237.ntmps - cap.size) undef).size := fun k hk => by
    show k < (cap ++ Array.replicate (16 - cap.size) undef).size
    simp; omega
  generalize (cap ++ Array.replicate (Go.Proofs.Tryz.f237.ntmps - cap.size) undef) = tm at hsz ⊢
  have hrec : recoverD (c₀ :: cs) = none := by simp [recoverD, hu]
  refine wpSIn_seq (wpSIn_recover1 rfl (fun _ => rfl) hrec ?_)
  refine wpSIn_of_wpIn rfl (wpIn_block (wpIn_seq ?_))
  have h6 : (({ tmps := tm, defers := [] } : Act).put (some 6) .nilIface).eval (.tmp 6) = .nilIface := put_get (hsz 6 (by omega))
  generalize hA : (({ tmps := tm, defers := [] } : Act).put (some 6) .nilIface) = A at h6 ⊢
  have hAs : 8 < A.tmps.size := by subst hA; simpa [Act.put] using hsz 8 (by omega)
  have hAd : A.defers = [] := by subst hA; rfl
  refine wpIn_region1 (v := .bool true) (w' := w) rfl (by intro c e; cases e) ?_ ?_
  · have hq : qOf Go.Proofs.Tryz.prog 20 = .ifc := by kernel_rfl
    have hb := r_bin (p := Go.Proofs.Tryz.prog) (M := fun _ _ => none) (op := .eql) (q := .ifcn) (t := 20) (x := .tmp 6) (y := .const .nilIface) (.inr ⟨hq, rfl, .inr ⟨_, rfl⟩⟩) VRel.inil VRel.inil (v := .bool true) rfl
    obtain ⟨rv, h1, h2⟩ := hb.value
    cases h1
    simp only [execOp, h6]
    exact h2 w
  · have h8 : (A.put (some 8) (.bool true)).eval (.tmp 8) = .bool true := put_get hAs
    refine wpIn_cond_true h8 (wpIn_region1 (v := (A.put (some 8) (.bool true)).eval (.tmp 6)) rfl (by intro c e; cases e) rfl ?_)
    simp only [Exit.inBlock]
    refine ⟨?_, .returning, hu ▸ rfl, .tuple #[], ?_, ⟨_, rfl, rfl, rfl, rfl, rfl, rfl⟩⟩
    · show (((A.put (some 8) (.bool true)).put (some 3) _)).defers = []
      exact hAd
    · show Sem.run _ (Go.results Go.Proofs.Tryz.f237 _) w = _
      simp [Go.results, Go.Proofs.Tryz.f237]
end Go.Im
open Go
namespace Go.Im
set_option maxRecDepth 20000
open Go.Proofs Go.RowKit
theorem extOk {g : FuncId} {fn : Func} {e : Array Value → Sem Value} (hf : pg.funcs[g]? = some fn) (hname : (fn.name == "runtime.NumGoroutine") = false) (hb : fn.body.isNone = true) (hn : Extern.findNext fn = none) (he : Extern.find fn = some e) : ExtOk pg g e := fun args w => by
  rw [run_callFunc_extern hf hname hb hn he]
theorem ext198 : ExtOk pg 198 Extern.AbiNoEscape.same := extOk Go.Proofs.Tryz.func198 (by kernel_rfl) rfl (by kernel_rfl) (by kernel_rfl)
theorem ext232 : ExtOk pg 232 Extern.BytealgCount.count := extOk Go.Proofs.Tryz.func232 (by kernel_rfl) rfl (by kernel_rfl) (by kernel_rfl)
theorem ext419 : ExtOk pg 419 Extern.BytealgIndexByte.indexByte := extOk Go.Proofs.Tryz.func419 (by kernel_rfl) rfl (by kernel_rfl) (by kernel_rfl)
theorem ext756 : ExtOk pg 756 Extern.BytealgCompare.compare := extOk Go.Proofs.Tryz.func756 (by kernel_rfl) rfl (by kernel_rfl) (by kernel_rfl)
theorem ext406 : ExtOk pg 406 (Extern.BytealgMakeNoZero.makeNoZero #[3] #[99]) := extOk Go.Proofs.Tryz.func406 (by kernel_rfl) rfl (by kernel_rfl) (by kernel_rfl)
theorem u99 : pg.underlying 99 = some (.slice 5) := by kernel_rfl
theorem sz5 : sz pg 5 = some 1 := by kernel_rfl
theorem map173 : isMapT pg 173 = true := by kernel_rfl
theorem idx234 : IdxOk pg 234 4 := ⟨enters_of Go.Proofs.Tryz.func234 (by kernel_rfl) rfl, fun s sub m w hs hm => Any.stringslite_Index Go.Proofs.Tryz.sl219 s sub m w hs hm⟩
theorem gl4 : ∃ gl, pg.globals[4]? = some gl ∧ sz pg gl.type = some 1 := ⟨_, rfl, by kernel_rfl⟩
theorem specK_ok {ro : Option Nat} {g : FuncId} {vs : List V} {rargs : Array Value} {h h' : H} {v : V} {M : Mp} {w : World} (hv : VsRel M vs rargs.toList) (hg : GOk pg M) (r : Rel pg M h w.heap) (he : specK ids g vs h = some (v, h')) :
    FnAns pg ro g rargs w fun rv w' => ∃ M', Step pg M h w M' h' w' ∧ VRel M' v rv := by
  unfold specK at he
  split at he
  · rename_i e; cases Nat.eq_of_beq_eq_true e; exact spNoEsc_ok hv r ext198 he
  split at he
  · rename_i e; cases Nat.eq_of_beq_eq_true e; exact spCount_ok hv r ext232 he
  split at he
  · rename_i e; cases Nat.eq_of_beq_eq_true e; exact spIdxB_ok hv r ext419 he
  split at he
  · rename_i e; cases Nat.eq_of_beq_eq_true e
    obtain ⟨gl, h1, h2⟩ := gl4
    exact spIndex_ok hv r hg (gm := 4) h1 h2 idx234 he
  split at he
  · rename_i e; cases Nat.eq_of_beq_eq_true e
    exact spMake_ok hv r u99 sz5 ext406 he
  split at he
  · rename_i e; cases Nat.eq_of_beq_eq_true e; exact spCmp_ok hv r ext756 he
  split at he
  · rename_i e; cases Nat.eq_of_beq_eq_true e; exact srt_ok map173 hv r he
  split at he
  · rename_i e; cases Nat.eq_of_beq_eq_true e; exact del_ok hv hg r he
  · cases he
theorem pr0_ok : PrOk pg Pr0 where
  funcs g F h := by
    have h : (pg.funcs[g]?).bind (cFunc pg) = some F := h
    rw [Option.bind_eq_some_iff] at h
    exact h
  ng := ng_ok
  quiet := quiet_read fun g h => Nat.eq_of_beq_eq_true h
  spec ro g vs rargs h h' v M w hv hg r he := specK_ok hv hg r he
end Go.Im
open Go
namespace Go.Im
variable {p : Program}
/-! a contract on read-only cells alone leaves all as it was -/
def plainV : V → Bool
  | .bool _ | .int _ _ | .str _ | .num _ => true
  | .fn _ [] [] => true
  | _ => false
def plainO : O → Bool
  | .cells xs _ _ .ro _ => xs.all plainV
  | _ => false
theorem VRel.plain {M M' : Mp} {v : V} {r : Value} (h : VRel M v r) (hp : plainV v = true) : VRel M' v r := by
  cases h with
  | bool b => exact .bool b
  | int k n => exact .int k n
  | str b => exact .str b
  | num k n => exact .num k n
  | fn ha hb =>
    rename_i g a b ra rb
    cases a with
    | cons x xs => simp [plainV] at hp
    | nil =>
      cases b with
      | cons x xs => simp [plainV] at hp
      | nil =>
        refine .fn ?_ ?_
        · have : ra.toList = [] := by have := ha.length; simpa using this.symm
          rw [this]; exact .nil
        · have : rb.toList = [] := by have := hb.length; simpa using this.symm
          rw [this]; exact .nil
  | _ => simp [plainV] at hp
theorem CellsOk.plain {M M' : Mp} {xs : List V} {ty : TypeId} {b : Bool} {l : Loc} {hp : Array Obj} (c : CellsOk p M xs .ro ty b l hp) (h : xs.all plainV = true) : CellsOk p M' xs .ro ty b l hp := by
  refine ⟨fun h => absurd rfl h, c.ext, c.own, ?_⟩
  obtain ⟨cs, frz, h1, h2, h3, h4⟩ := c.cells
  refine ⟨cs, frz, h1, h2, fun i v hi hv => ?_, fun h => by cases h⟩
  obtain ⟨rv, a, b, d⟩ := h3 i v hi hv
  exact ⟨rv, a, b.plain (List.all_eq_true.1 h v (List.mem_of_getElem? hv)), d⟩

theorem roSpec (hmix : p.follows .mixedOrders = true) {Pr : Prog} (hp : PrOk p Pr) (C : Ctr) {n : Nat} (hok : C.ok Pr n = true) (hro : C.pre.all (fun q => plainO q.2) = true) (hpost : C.post = C.pre) (hargs : C.args = []) {b : Bool} (hv : C.v = .bool b)
    (hgl : ∀ g, g < p.globals.size → pNat (pOf g) < pNat C.nx) (hfr : C.pre.all (fun q => Nat.blt (pNat q.1) (pNat C.nx)) = true) {ro : Option Nat} {h : H} {M : Mp} {w : World} (hg : GOk p M) (r : Rel p M h w.heap) (hl : lies h C.pre = true) :
    FnAns p ro C.g #[] w fun rv w' => ∃ M', Step p M h w M' h w' ∧ VRel M' (.bool b) rv := by
  have hpre : ∀ f o, (heapOf C.pre C.nx).get f = some o → (f, o) ∈ C.pre := fun f o e => by
    rcases lay_get (l := C.pre) (m := .e) e with h1 | ⟨_, h1⟩
    · exact h1
    · exfalso
      have : HT.get f (HT.e : HT O) = none := by cases f <;> rfl
      rw [this] at h1; cases h1
  have hsub : ∀ f o, (heapOf C.pre C.nx).get f = some o → h.get f = some o := fun f o e => lies_mem hl (hpre f o e)
  have hlt : ∀ f o, (heapOf C.pre C.nx).get f = some o → pNat f < pNat C.nx := fun f o e => by
    have := List.all_eq_true.1 hfr _ (hpre f o e)
    simpa [Nat.blt_eq] using this
  have hpl : ∀ f o, (heapOf C.pre C.nx).get f = some o → plainO o = true := fun f o e => List.all_eq_true.1 hro _ (hpre f o e)
  generalize hh0 : heapOf C.pre C.nx = h0 at hpre hsub hlt hpl
  have hnx : h0.next = C.nx := by rw [← hh0]; rfl
  let M0 : Mp := fun f k => if pNat f < pNat C.nx then M f k else none
  have m0 : ∀ {f k l}, M0 f k = some l → M f k = some l ∧ pNat f < pNat C.nx := fun {f k l} e => by
    simp only [M0] at e
    split at e
    · rename_i hlt; exact ⟨e, hlt⟩
    · cases e
  have m1 : ∀ {f k}, pNat f < pNat C.nx → M0 f k = M f k := fun {f k} e => by simp [M0, e]
  have nowr : ∀ f k, ¬ h0.writable f k := fun f k hw => by
    have hl := hw.1
    unfold H.liveAt at hl
    cases hgf : h0.get f with
    | none => rw [hgf] at hl; exact hl
    | some o =>
      have hpo := hpl f o hgf
      unfold plainO at hpo
      split at hpo
      · exact hw.2 _ _ _ _ hgf
      · cases hpo
  have r0 : Rel p M0 h0 w.heap := by
    refine ⟨fun f k l e => ?_, fun f xs ver dead md ty l0 hgf hM0 k hk1 hk2 => ?_, fun f o l hgf hc hM0 => ?_, fun f k l g j m a b c d hne hw => ?_, fun f xs ver dead md ty k hgf hk => ?_, fun f o k hgf hc hk => ?_, fun f k l j m a b hb => r.base f k l j m (m0 a).1 (m0 b).1 hb, fun f hf => ?_⟩
    · obtain ⟨a, b⟩ := m0 e
      obtain ⟨x, _, y, l0, z⟩ := r.dom f k l a
      exact ⟨x, by rw [hnx]; exact b, y, l0, by rw [m1 b]; exact z⟩
    · have hlt := hlt f _ hgf
      have hpo := hpl f _ hgf
      unfold plainO at hpo
      split at hpo
      · rename_i heq
        cases heq
        rw [m1 hlt] at hM0
        obtain ⟨l, hl', hc⟩ := r.cells f _ ver dead .ro ty l0 (hsub _ _ hgf) hM0 k hk1 hk2
        exact ⟨l, by rw [m1 hlt]; exact hl', hc.plain hpo⟩
      · cases hpo
    · have hpo := hpl f _ hgf
      unfold plainO at hpo
      split at hpo
      · simp [O.isCells] at hc
      · cases hpo
    · rcases hw with hw | hw <;> exact absurd hw (nowr _ _)
    · rw [m1 (hlt f _ hgf)]; exact r.fut f xs ver dead md ty k (hsub _ _ hgf) hk
    · rw [m1 (hlt f _ hgf)]; exact r.futo f o k (hsub _ _ hgf) hc hk
    · cases hgf : h0.get f with
      | none => rfl
      | some o => have := hlt f o hgf; rw [hnx] at hf; omega
  have hg0 : GOk p M0 := fun g gl n hgl' hsz => by
    obtain ⟨l, a, q⟩ := hg g gl n hgl' hsz
    have hlt : g < p.globals.size := by
      rcases Nat.lt_or_ge g p.globals.size with h | h
      · exact h
      · rw [Array.getElem?_eq_none h] at hgl'; cases hgl'
    exact ⟨l, by rw [m1 (hgl g hlt)]; exact a, q⟩
  unfold Ctr.ok Ctr.fits at hok
  split at hok
  · rename_i v1 hf hrun
    simp only [Bool.and_eq_true] at hok
    obtain ⟨⟨⟨o1, _⟩, _⟩, _⟩ := hok
    rw [hargs, hh0] at hrun
    have ev : v1 = .bool b := by rw [V.same_eq o1, hv]
    subst ev
    obtain ⟨nx, w1, q1, q2⟩ := callFn_ok hp (code_ok hmix hp n n (Nat.le_refl _)) (ro := ro) (rargs := #[]) .nil hg0 r0 hrun
    have fin : ∀ rv w', (∃ M', Step p M0 h0 w M' hf w' ∧ VRel M' (.bool b) rv) → ∃ M', Step p M h w M' h w' ∧ VRel M' (.bool b) rv := fun rv w' ⟨M', st, hv'⟩ => by
      have hold : ∀ b, b < w.heap.size → w'.heap[b]? = w.heap[b]? := fun b hb => st.rframe b hb fun f k l hw _ => absurd hw (nowr f k)
      refine ⟨M, ⟨r.congr st.size fun f k l _ e => hold _ (r.lt e), Mp.le_refl M, Nat.le_refl _, st.size, fun f k l e e0 => (by rw [e0] at e; cases e), fun b hb _ => hold b hb, fun f k l a e => .inr ⟨f, k, l, a, e, rfl⟩, fun f k l a e => .inr ⟨f, k, l, a, e, rfl⟩, fun _ _ _ => rfl, st.os, st.out, st.tape, fun f k l e e0 => (by rw [e0] at e; cases e), fun _ _ e => e⟩, ?_⟩
      cases hv'; exact .bool b
    refine ⟨nx, w1, q1, ?_⟩
    cases nx <;> simp only at q2 ⊢ <;> first | exact q2.elim | skip
    · exact fin _ _ q2
    · exact q2.mono fun e w' ⟨rv, a, b⟩ => ⟨rv, a, fin _ _ b⟩
  · cases hok
end Go.Im
open Go
namespace Go.Im
open Go.Proofs Go.RowKit Go.Sort Go.Shelf
variable {p : Program} {M : Mp}
/-! slices.SortFunc over literals: by the shelf's contract -/
def encL (x : Lt) : List Value := [.int .i64 x.1, .bool x.2]
theorem cellsL_rel {l : List Lt} {j : Nat} (hj : j < l.length * 2) : ∃ v, (cellsL l)[j]? = some v ∧ v.leaf = true ∧ (∀ M, VRel M v (flatK encL 2 l.toArray)[j]!) ∧ ∀ M rv, VRel M v rv → rv = (flatK encL 2 l.toArray)[j]! := by
  have hq : j / 2 < l.length := by omega
  have hx : l[j / 2]? = some l[j / 2] := List.getElem?_eq_getElem hq
  obtain ⟨h0, h1⟩ := cellsL_even hx
  have hd : (l.toArray)[j / 2]! = l[j / 2] := by simp [hq]
  rw [get_flatK encL 2 l.toArray j (by simpa using hj), hd]
  rcases Nat.mod_two_eq_zero_or_one j with e | e
  · have : j / 2 * 2 = j := by omega
    rw [this] at h0
    refine ⟨_, h0, rfl, ?_⟩
    rw [e]
    exact ⟨fun M => .int _ _, fun M rv h => by cases h; rfl⟩
  · have : j / 2 * 2 + 1 = j := by omega
    rw [this] at h1
    refine ⟨_, h1, rfl, ?_⟩
    rw [e]
    exact ⟨fun M => .bool _, fun M rv h => by cases h; rfl⟩
theorem cellsL_vs (M : Mp) (l : List Lt) : VsRel M (cellsL l) (flatK encL 2 l.toArray).toList := by
  refine VsRel.of_get (by simp [cellsL_length]) fun i x y hx hy => ?_
  have hi : i < l.length * 2 := by
    rcases Nat.lt_or_ge i (l.length * 2) with h | h
    · exact h
    · rw [List.getElem?_eq_none (by rw [cellsL_length]; exact h)] at hx; cases hx
  obtain ⟨v, h1, _, h2, _⟩ := cellsL_rel hi
  rw [h1] at hx; cases hx
  have : y = (flatK encL 2 l.toArray)[i]! := by
    have hs : i < (flatK encL 2 l.toArray).size := by simpa using hi
    rw [Array.getElem?_toList, Array.getElem?_eq_getElem hs] at hy
    cases hy
    rw [getElem!_pos _ i hs]
  rw [this]; exact h2 M
theorem cellsL_leaf (l : List Lt) : ∀ v ∈ cellsL l, v.leaf = true := fun v hv => by
  obtain ⟨j, hj, e⟩ := List.getElem_of_mem hv
  obtain ⟨v', h1, h2, _⟩ := cellsL_rel (l := l) (j := j) (by rw [cellsL_length] at hj; exact hj)
  rw [List.getElem?_eq_getElem hj, e] at h1; cases h1; exact h2

/-- how literals are compared -/
def cmpS (x y : Lt) : Int := if x.1 ≠ y.1 then Lib.compareInt x.1 y.1 else if x = y then 0 else if y.2 then -1 else 1
theorem ltOf_cmpS (x y : Lt) : ltOf cmpS x y = Law.lt x y := by
  obtain ⟨a, b⟩ := x
  obtain ⟨c, d⟩ := y
  unfold ltOf cmpS Law.lt Lib.compareInt
  by_cases h : a = c
  · subst h
    cases b <;> cases d <;> simp
  · simp only [ne_eq, h, not_false_eq_true, if_true, decide_false, Bool.false_and, Bool.or_false]
    by_cases h1 : a < c
    · simp [h1]
    · by_cases h2 : c < a <;> simp [h1, h2]
theorem swoL : SWO (ltOf cmpS) where
  irrefl x := by rw [ltOf_cmpS, Law.lt_irrefl]
  trans x y z h1 h2 := by rw [ltOf_cmpS] at *; exact Law.lt_trans h1 h2
  ntrans x y z h1 h2 := by
    rw [ltOf_cmpS] at *
    cases h3 : Law.lt x z with
    | false => rfl
    | true =>
      rcases Law.lt_tri x y with a | a | a
      · rw [a] at h1; cases h1
      · subst a; rw [h3] at h2; cases h2
      · have := Law.lt_trans a h3; rw [this] at h2; cases h2
theorem totL (x y : Lt) (h1 : ltOf cmpS x y = false) (h2 : ltOf cmpS y x = false) : x = y := by
  rw [ltOf_cmpS] at *
  rcases Law.lt_tri x y with a | a | a
  · rw [a] at h1; cases h1
  · exact a
  · rw [a] at h2; cases h2

theorem setMany_all (F G : Array Value) (h : F.size = G.size) : setMany F 0 G.toList = G := by
  refine ext_get! (by simp [h]) fun t ht => ?_
  have ht' : t < F.size := by simpa using ht
  rw [get_setMany _ _ _ t ht', if_pos ⟨Nat.zero_le _, by simp; omega⟩]
  have hg : t < G.size := by omega
  simp [hg]

theorem sortL_ok {ρ : Ren} (L : SlLaysF0.n6 p ρ) (aE : ∀ w, (isAgg (ρ.t 24)).run p w = .ok true w) (zE : ∀ w, (Go.sizeOf (ρ.t 24)).run p w = .ok 2 w) {gO : FuncId} (e6 : ∀ args w, (callFunc (ρ.f 6) args).run p w = .ok (.enter (ρ.f 6) args) w)
    (eg : ∀ args w, (callFunc gO args).run p w = .ok (.enter gO args) w) (hcmp : ∀ (x y : Lt) (W : World), Calls p gO #[.agg (encL x).toArray, .agg (encL y).toArray] W fun e w' => e = .returned (.int .i64 (cmpS x y)) ∧ ∃ q os', w' = grow (W.drewN q) os')
    {ro : Option Nat} {vs : List V} {rargs : Array Value} {h h' : H} {v : V} {w : World} (hv : VsRel M vs rargs.toList) (r : Rel p M h w.heap) (he : spSortL gO vs h = some (v, h')) :
    FnAns p ro (ρ.f 6) rargs w fun rv w' => ∃ M', Step p M h w M' h' w' ∧ VRel M' v rv := by
  have nofn : ∀ {a b : List V} {g : Fn} {rf : Value}, VRel M (.fn g a b) rf → a = [] → b = [] → rf = .func g #[] #[] := fun hf ha hb => by
    subst ha hb
    cases hf with
    | fn h1 h2 =>
      rename_i ra rb
      have e1 : ra = #[] := by have := h1.length; simp at this; exact Array.eq_empty_of_size_eq_zero this.symm
      have e2 : rb = #[] := by have := h2.length; simp at this; exact Array.eq_empty_of_size_eq_zero this.symm
      rw [e1, e2]
  have none' : ∀ (pa : Option Addr) (cap : Nat) (fv : Value), rargs = #[.slice pa 0 cap, fv] → FnAns p ro (ρ.f 6) rargs w fun rv w' => ∃ M', Step p M h w M' h w' ∧ VRel M' (.tup []) rv := fun pa cap fv e => by
    subst e
    exact fnAns_calls e6 ((AnyF.slices_SortFunc_none { L with } pa cap fv w).mono fun e w' ⟨h1, h2⟩ => ⟨_, h1, M, by rw [h2]; exact .refl r rfl rfl rfl rfl, .tup .nil⟩)
  unfold spSortL at he
  split at he
  · cases he
    obtain ⟨rs, rf, rfl, hs, hf⟩ := vs2 hv
    cases hs
    exact none' _ _ _ rfl
  · rename_i f k off len es cap g
    split at he
    case h_2 => cases he
    rename_i hc
    simp only [Bool.and_eq_true] at hc
    obtain ⟨⟨c1, c2⟩, c3⟩ := hc
    have c1 := Nat.eq_of_beq_eq_true c1
    have c2 := Nat.eq_of_beq_eq_true c2
    have c3 := Nat.le_of_ble_eq_true c3
    subst c1 c2
    obtain ⟨rs, rf, rfl, hs, hf⟩ := vs2 hv
    have := nofn hf rfl rfl
    subst this
    cases hs with
    | sl hM hl hadr hlen hk hu =>
    rename_i l rc a
    split at he
    · rename_i h0
      have h0 := Nat.eq_of_beq_eq_true h0
      subst h0
      cases he
      exact none' _ _ _ rfl
    · rename_i h0
      have h0 : len ≠ 0 := fun e => by subst e; simp at h0
      split at he
      case h_2 => cases he
      rename_i cs hcs
      split at he
      case h_2 => cases he
      rename_i ls hls
      split at he
      case h_2 => cases he
      rename_i h1 hw
      cases he
      have hce := litsOf_spec hls
      subst hce
      obtain ⟨xs, hlive, hn1, hn2⟩ := rangeO_spec hcs
      have hcl : ls.length = len := by
        have := congrArg List.length hn2
        simp [cellsL_length] at this hn1
        omega
      have hrg : range xs off (len * 2) = some (cellsL ls) := by rw [hlive] at hcs; exact hcs
      have hadr' : a = ⟨l.blk, l.base + off, none⟩ := hadr.resolve_left (by omega)
      subst hadr'
      obtain ⟨c, ty, frz, rcs, q1, q2, q3, q4, q5, _⟩ := read_range r hlive hM (by omega) hrg
      have hnf := (store_step' r (vs := cellsL (sortL ls)) (rvs := (flatK encL 2 (sortL ls).toArray).toList) hM hw (cellsL_vs M _) (cellsL_leaf _))
      obtain ⟨hst, _, hfz, _⟩ := hnf
      have hsl : (sortL ls).length = ls.length := by simp [sortL]
      have hlt : l.blk < w.heap.size := r.lt hM
      have hH : HoldsK encL 2 w l.blk (l.base + off) ls.toArray := fun j hj => by
        have hj' : j < ls.length * 2 := by simpa using hj
        obtain ⟨v, g1, _, _, g2⟩ := cellsL_rel hj'
        obtain ⟨rv, g3, g4⟩ := q2.get g1
        have g5 := g2 M rv g4
        subst g5
        refine ⟨?_, hfz j (by simp; omega)⟩
        simp only [World.cell?, q1]
        have := q4 j _ g3
        simpa using this
      have hcon := AnyQ.slices_SortFunc_total L 2 aE zE encL (fun _ => rfl) (fun x v hv => by simp [encL] at hv; rcases hv with rfl | rfl <;> rfl) cmpS swoL g #[] l.blk (l.base + off) rc ls.toArray w eg (fun m os dk _ x y => hcmp x y _) hH hlt (by simp; omega) totL
      have hsz : ls.toArray.size = len := by simpa using hcl
      rw [hsz] at hcon
      have hso : (ls.toArray.toList.mergeSort fun x y => !ltOf cmpS y x) = sortL ls := by
        unfold sortL
        simp only [ltOf_cmpS]
      rw [hso] at hcon
      refine fnAns_calls e6 (hcon.mono fun e w' ⟨e1, n, os, e2⟩ => ⟨_, e1, M, hst.trans (.below hst.rel ?_), .tup .nil⟩)
      have key : w.setCells l.blk (l.base + off) (flatK encL 2 (sortL ls).toArray).toList = putRow id w l.blk (l.base + off) (flatK encL 2 (sortL ls).toArray) := by
        have h1 := setCells_putRow w l.blk (l.base + off) (flatK encL 2 (sortL ls).toArray).toList 0 (flatK encL 2 ls.toArray) (by simp [hsl])
        rw [Nat.add_zero] at h1
        have h2 : putRow id w l.blk (l.base + off) (flatK encL 2 ls.toArray) = w := putRow_self id w l.blk (l.base + off) _ hH
        rw [h2, setMany_all _ _ (by simp [hsl])] at h1
        exact h1
      rw [key, e2]
      refine ⟨rfl, rfl, rfl, ?_, fun b hb => ?_⟩
      · show _ ≤ (grow (putRowK encL 2 (Sort.ahead w n) l.blk (l.base + off) (sortL ls).toArray) os).heap.size
        rw [size_grow]
        show (putRow id w l.blk (l.base + off) (flatK encL 2 (sortL ls).toArray)).heap.size ≤ _
        have : (putRowK encL 2 (Sort.ahead w n) l.blk (l.base + off) (sortL ls).toArray).heap.size = (putRow id w l.blk (l.base + off) (flatK encL 2 (sortL ls).toArray)).heap.size := rfl
        omega
      · show (grow (putRowK encL 2 (Sort.ahead w n) l.blk (l.base + off) (sortL ls).toArray) os).heap[b]? = _
        exact (heap_grow_old (w := putRowK encL 2 (Sort.ahead w n) l.blk (l.base + off) (sortL ls).toArray) _ (show b < (putRowK encL 2 (Sort.ahead w n) l.blk (l.base + off) (sortL ls).toArray).heap.size from hb)).trans rfl
  · cases he
end Go.Im
namespace Go.Proofs
open Go.Shelf Go.RowKit Go.Lib Go.Sort
set_option maxHeartbeats 1000000 in
theorem Tryz.order77 (x y : Int × Bool) (W : World) : Calls Tryz.prog 77 #[.agg #[.int .i64 x.1, .bool x.2], .agg #[.int .i64 y.1, .bool y.2]] W fun e w' => e = .returned (.int .i64 (Go.Im.cmpS x y)) ∧ ∃ q os', w' = grow (W.drewN q) os' := by
  obtain ⟨a, b⟩ := x
  obtain ⟨c, d⟩ := y
  have hcon := fun W' => AnyG.cmp_Compare_int Tryz.cmpInt a c W'
  change ∀ W', Calls Tryz.prog 185 _ _ _ at hcon
  by_cases h : a = c
  · subst h
    have hv : Go.Im.cmpS (a, b) (a, d) = if b = d then 0 else if d = true then -1 else 1 := by
      unfold Go.Im.cmpS; cases b <;> cases d <;> simp
    rw [hv]
    cases b <;> cases d <;> simp only [if_true, reduceIte, reduceCtorEq]
    all_goals
      go_enter Tryz.func77, Tryz.ntmps77
      go_wp2
      go_ret
      exact ⟨rfl, 0, _, by rw [alloc_eq_grow, alloc_eq_grow, grow_grow]; rfl⟩
  · have hv : Go.Im.cmpS (a, b) (c, d) = Lib.compareInt a c := by
      unfold Go.Im.cmpS; simp [h]
    rw [hv]
    generalize Lib.compareInt a c = r at hcon ⊢
    go_enter Tryz.func77, Tryz.ntmps77
    go_wp2_with (go_at_call 185; refine (hcon _).mono ?_; rintro e w' ⟨rfl, rfl⟩)
    go_ret
    exact ⟨rfl, 0, _, by rw [alloc_eq_grow, alloc_eq_grow, grow_grow]; rfl⟩
end Go.Proofs
