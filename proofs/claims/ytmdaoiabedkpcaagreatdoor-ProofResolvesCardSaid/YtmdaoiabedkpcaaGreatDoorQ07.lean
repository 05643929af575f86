/- A part of the proof that ProofResolves holds for every input of the given program: C6, C7, C8, C9, C10, C11, C12, C13. -/
import Derived.Test.YtmdaoiabedkpcaaGreatDoorQ06
set_option linter.unusedVariables false
set_option linter.unusedSimpArgs false
open Go
set_option maxRecDepth 20000
namespace Go.Im
/-- a predicate that does not heed what lies in the slice -/
def PredV (Pr : Prog) (v fv : V) (p : Lt → Bool) (h : H) : Prop := ∀ h1, h1.ok → pNat h.next ≤ pNat h1.next → (∀ g, pNat g < pNat h.next → ¬ rootIs v g → h1.get g = h.get g) → ∀ x, ∃ h2, VTo Pr fv [lv x] h1 (.bool (p x)) h2 ∧ Grew h1 h2
theorem PredV.ok {Pr : Prog} {v fv : V} {p : Lt → Bool} {h : H} (a : PredV Pr v fv p h) : PredOk Pr fv p h := fun h1 g x => a h1 g.ok g.next (fun f hf _ => g.get f hf) x
theorem idxI_first {p : Lt → Bool} {l : List Lt} (h : idxI p l ≠ -1) : ∃ (i : Nat) (x : Lt), idxI p l = (i : Int) ∧ l[i]? = some x ∧ p x = true ∧ ∀ j y, j < i → l[j]? = some y → p y = false := by
  unfold idxI at h ⊢
  cases hf : l.findIdx? p with
  | none => rw [hf] at h; exact absurd rfl h
  | some i =>
    rw [List.findIdx?_eq_some_iff_getElem] at hf
    obtain ⟨hi, hp, hno⟩ := hf
    refine ⟨i, l[i], rfl, List.getElem?_eq_getElem hi, hp, fun j y hj hy => ?_⟩
    have hj' : j < l.length := by omega
    rw [List.getElem?_eq_getElem hj'] at hy
    cases hy
    have := hno j hj
    simpa using this
theorem idxI_neg {p : Lt → Bool} {l : List Lt} (h : idxI p l = -1) : l.filter (fun x => !p x) = l := by
  unfold idxI at h
  cases hf : l.findIdx? p with
  | some i => rw [hf] at h; simp only at h; omega
  | none =>
    rw [List.findIdx?_eq_none_iff] at hf
    rw [List.filter_eq_self]
    intro x hx; simp [hf x hx]
theorem filter_take_first {p : Lt → Bool} {l : List Lt} {i : Nat} {x : Lt} (hx : l[i]? = some x) (hp : p x = true) (hno : ∀ j y, j < i → l[j]? = some y → p y = false) : (l.take (i + 1)).filter (fun x => !p x) = l.take i := by
  rw [take_snoc hx, List.filter_append]
  have h1 : (l.take i).filter (fun x => !p x) = l.take i := by
    rw [List.filter_eq_self]
    intro y hy
    obtain ⟨j, hj, e⟩ := List.getElem_of_mem hy
    rw [List.length_take] at hj
    have hj' : j < l.length := by omega
    have : l[j]? = some y := by rw [List.getElem?_eq_getElem hj', ← e, List.getElem_take]
    simp [hno j y (by omega) this]
  rw [h1]; simp [hp]
variable (u : Ob)
/-- slices.DeleteFunc -/
theorem f80 {bd : Nat} {v fv : V} {p : Lt → Bool} {l : List Lt} {h0 h : H} (g0 : Grew h0 h) (hb0 : pNat h0.next ≤ bd) (s : OwnL bd h v l) (hp : PredV (PrL u) v fv p h) (hn : l.length ≤ 536870912) :
    ∃ v' h', FnTo (PrL u) 80 [v, fv] h v' h' ∧ OwnL bd h' v' (l.filter fun x => !p x) ∧ Grew h0 h' ∧ (∀ g, pNat g < pNat h.next → ¬ rootIs v g → h'.get g = h.get g) ∧ pNat h.next ≤ pNat h'.next ∧ ∀ g, rootIs v' g → rootIs v g := by
  have hk := g0.ok
  obtain ⟨h1, hc, g1⟩ := f76 u hk s.lits hp.ok (by omega)
  by_cases hi : idxI p l = -1
  · refine ⟨v, h1, (wFn_run rfl F80_eq rfl ?_).is, ?_, g0.trans g1, fun g hg _ => g1.get g hg, g1.next, fun g h => h⟩
    · have e : Int.negSucc 0 = -1 := rfl
      simp only [F80, zaa, zab, zac, zad, zae, zaf, zag, zah, zai, zaj, zak, zal, zam, zan, zao, zap, zaq, zar, zas, zat, zau, zav, zaw, zax, zay, zaz, zba, zbb, zbc, zbd, zbe, zbf, zbg, zbh, zbi, zbj, zbk, zbl, zbm, zbn, zbo, zbp, zbq, zbr, zbs, zbt, zbu, X.ev_t, X.ev_c, Fr.gs, zbv, zbw, zbx, zby, zbz, zca, zcb, zcc, zcd, zce, zcf, zcg, zch, zci, zcj, zck, zcl, zcm, zcn, zco, zcp, zcq, zcr, zcs, zct, zcu, zcv, zcw, zcx, zcy, zcz, zda, zdb, zdc, zdd, zde, zdf, zdg, zdh, zdi, zdj, zdk, zdl, zdm, zdn, one_tt, one_ff, zdo, nthD, zdp, zdq, zdr, zds, zdt, zdu, zdv, zdw, ne_eq, not_false_eq_true, zdx, zdy, zdz, bsl0, zea, zeb, zec, zed, zee, zef, List.length_cons, List.length_nil, Nat.zero_add, Nat.le_refl, Nat.reduceLeDiff, Nat.add_zero, Option.map_some, Option.map_none, Int.ofNat_lt, Int.ofNat_le, Prod.mk.injEq, and_false, false_and, decide_true, decide_false, Bool.not_true, Bool.not_false, Nat.reduceLT, Nat.reduceEqDiff, Nat.reduceAdd, Nat.reduceSub, if_true, if_false, reduceIte, Int.cast_ofNat_Int, Nat.reduceBEq, Nat.reduceMul, Nat.reduceDiv, Nat.reduceMod, and_true, true_and, and_self, reduceCtorEq, eq_self, zeg, zeh, zei, zej, zek, zel, zem, zen, hc.cl, hi, e]
    · rw [idxI_neg hi]; exact s.grew hk g1
  · obtain ⟨i0, x0, e0, hx0, hpx, hno⟩ := idxI_first hi
    rcases id s with ⟨rfl, rfl⟩ | ⟨f, ver, off, cap, rfl, hbf, o⟩
    · rw [List.getElem?_nil] at hx0; cases hx0
    have hl0 : i0 < l.length := by
      rcases Nat.lt_or_ge i0 l.length with h | h
      · exact h
      · rw [List.getElem?_eq_none h] at hx0; cases hx0
    have hlt := o.lt hk
    have o1 := o.grew hk g1
    have key : wFn (PrL u) 80 [.sl f ver off l.length 2 cap, fv] h fun v' h' => OwnL bd h' v' (l.filter fun x => !p x) ∧ Upto f h1 h' ∧ ∀ g, rootIs v' g → g = f := by
      refine wFn_run rfl F80_eq rfl ?_
      have e1 : Int.negSucc 0 = -1 := rfl
      have e2 : ¬ ((i0 : Int) = -1) := by omega
      simp only [F80, zaa, zab, zac, zad, zae, zaf, zag, zah, zai, zaj, zak, zal, zam, zan, zao, zap, zaq, zar, zas, zat, zau, zav, zaw, zax, zay, zaz, zba, zbb, zbc, zbd, zbe, zbf, zbg, zbh, zbi, zbj, zbk, zbl, zbm, zbn, zbo, zbp, zbq, zbr, zbs, zbt, zbu, X.ev_t, X.ev_c, Fr.gs, zbv, zbw, zbx, zby, zbz, zca, zcb, zcc, zcd, zce, zcf, zcg, zch, zci, zcj, zck, zcl, zcm, zcn, zco, zcp, zcq, zcr, zcs, zct, zcu, zcv, zcw, zcx, zcy, zcz, zda, zdb, zdc, zdd, zde, zdf, zdg, zdh, zdi, zdj, zdk, zdl, zdm, zdn, one_tt, one_ff, zdo, nthD, zdp, zdq, zdr, zds, zdt, zdu, zdv, zdw, ne_eq, not_false_eq_true, zdx, zdy, zdz, bsl0, zea, zeb, zec, zed, zee, zef, List.length_cons, List.length_nil, Nat.zero_add, Nat.le_refl, Nat.reduceLeDiff, Nat.add_zero, Option.map_some, Option.map_none, Int.ofNat_lt, Int.ofNat_le, Prod.mk.injEq, and_false, false_and, decide_true, decide_false, Bool.not_true, Bool.not_false, Nat.reduceLT, Nat.reduceEqDiff, Nat.reduceAdd, Nat.reduceSub, if_true, if_false, reduceIte, Int.cast_ofNat_Int, Nat.reduceBEq, Nat.reduceMul, Nat.reduceDiv, Nat.reduceMod, and_true, true_and, and_self, reduceCtorEq, eq_self, zeg, zeh, zei, zej, zek, zel, zem, zen, hc.cl, e0, e1, e2, wrap_succ (show i0 < 9223372036854775807 by omega)]
      refine wk_loop (fun m t => ∃ (i j : Nat) (fr : Fr) (h2 : H) (l' : List Lt), t = ⟨fr, [], h2⟩ ∧ Upto f h1 h2 ∧ i < j ∧ j ≤ l.length ∧ m = l.length - j ∧ OwnS h2 f ver off cap l' ∧ l'.length = l.length ∧ l'.take i = (l.take j).filter (fun x => !p x) ∧ l'.drop j = l.drop j ∧
        fr.get (sOf 0) = .sl f ver off l.length 2 cap ∧ fr.get (sOf 1) = fv ∧ fr.get (sOf 5) = .int .i64 (i : Nat) ∧ fr.get (sOf 6) = .int .i64 (j : Nat)) ?_ ⟨i0, i0 + 1, _, h1, l, rfl, .refl g1.ok, by omega, by omega, rfl, o1, rfl, (filter_take_first hx0 hpx hno).symm, rfl, ?_, ?_, ?_, ?_⟩
      · rintro m t ⟨i, j, fr, h2, l', rfl, gU, hij, hj, rfl, o2, hl', ht, hd, e0, e1, e5, e6⟩
        have s2 := o2.lits cap
        rw [hl'] at s2
        by_cases hlj : j < l.length
        · obtain ⟨y, hy⟩ := lits_get hlj
          have hy' : l'[j]? = some y := by
            have := congrArg (fun l => l[0]?) hd
            simpa [List.getElem?_drop, hy] using this
          have gN : Upto f h2 (h2.new (.cells [.int .i64 y.1, .bool y.2] 0 0 .rw 54)) := (((Grew.refl gU.ok).new _).upto)
          have gA := gU.trans gN
          obtain ⟨h3, hv, g3⟩ := hp _ gA.ok (Nat.le_trans g1.next gA.next) (fun g hg hr => by
            rw [gA.get g (Nat.lt_of_lt_of_le hg g1.next) (by rintro rfl; exact hr ⟨_, _, _, _, _, rfl⟩), g1.get g hg]) y
          have hbx : ldV h3 true 2 (.ptr h2.next 0 0 2) = some (lv y) := by
            have := g3.keep gN.ok (H.get_new_same h2 _)
            rw [ld_at this (Nat.le_refl _) (Nat.le_refl _) true (Nat.le_refl _)]; rfl
          have o3 := (o2.grew gU.ok ((Grew.refl gU.ok).new _)).grew gN.ok g3
          have g23 := gA.trans g3.upto
          have hs3 := o3.lits cap
          rw [hl'] at hs3
          cases hpy : p y with
          | true =>
            rw [hpy] at hv
            simp only [zaa, zab, zac, zad, zae, zaf, zag, zah, zai, zaj, zak, zal, zam, zan, zao, zap, zaq, zar, zas, zat, zau, zav, zaw, zax, zay, zaz, zba, zbb, zbc, zbd, zbe, zbf, zbg, zbh, zbi, zbj, zbk, zbl, zbm, zbn, zbo, zbp, zbq, zbr, zbs, zbt, zbu, X.ev_t, X.ev_c, Fr.gs, zbv, zbw, zbx, zby, zbz, zca, zcb, zcc, zcd, zce, zcf, zcg, zch, zci, zcj, zck, zcl, zcm, zcn, zco, zcp, zcq, zcr, zcs, zct, zcu, zcv, zcw, zcx, zcy, zcz, zda, zdb, zdc, zdd, zde, zdf, zdg, zdh, zdi, zdj, zdk, zdl, zdm, zdn, one_tt, one_ff, zdo, nthD, zdp, zdq, zdr, zds, zdt, zdu, zdv, zdw, ne_eq, not_false_eq_true, zdx, zdy, zdz, bsl0, zea, zeb, zec, zed, zee, zef, List.length_cons, List.length_nil, Nat.zero_add, Nat.le_refl, Nat.reduceLeDiff, Nat.add_zero, Option.map_some, Option.map_none, Int.ofNat_lt, Int.ofNat_le, Prod.mk.injEq, and_false, false_and, decide_true, decide_false, Bool.not_true, Bool.not_false, Nat.reduceLT, Nat.reduceEqDiff, Nat.reduceAdd, Nat.reduceSub, if_true, if_false, reduceIte, Int.cast_ofNat_Int, Nat.reduceBEq, Nat.reduceMul, Nat.reduceDiv, Nat.reduceMod, and_true, true_and, and_self, reduceCtorEq, eq_self, zeg, zeh, zei, zej, zek, zel, zem, zen, e0, e1, e5, e6, s2.vlen, hl', hlj, s2.addr (show j < l'.length by omega), s2.load hy', hbx, hv.cl, wrap_succ (show j < 9223372036854775807 by omega)]
            refine ⟨l.length - (j + 1), by omega, i, j + 1, _, _, l', rfl, g23, by omega, by omega, rfl, o3, hl', ?_, ?_, ?_, ?_, ?_, ?_⟩
            · rw [ht, take_snoc hy, List.filter_append]; simp [hpy]
            · rw [← List.drop_drop, hd, List.drop_drop]
            all_goals simp only [zaa, zab, zac, zad, zae, zaf, zag, zah, zai, zaj, zak, zal, zam, zan, zao, zap, zaq, zar, zas, zat, zau, zav, zaw, zax, zay, zaz, zba, zbb, zbc, zbd, zbe, zbf, zbg, zbh, zbi, zbj, zbk, zbl, zbm, zbn, zbo, zbp, zbq, zbr, zbs, zbt, zbu, X.ev_t, X.ev_c, Fr.gs, zbv, zbw, zbx, zby, zbz, zca, zcb, zcc, zcd, zce, zcf, zcg, zch, zci, zcj, zck, zcl, zcm, zcn, zco, zcp, zcq, zcr, zcs, zct, zcu, zcv, zcw, zcx, zcy, zcz, zda, zdb, zdc, zdd, zde, zdf, zdg, zdh, zdi, zdj, zdk, zdl, zdm, zdn, one_tt, one_ff, zdo, nthD, zdp, zdq, zdr, zds, zdt, zdu, zdv, zdw, ne_eq, not_false_eq_true, zdx, zdy, zdz, bsl0, zea, zeb, zec, zed, zee, zef, List.length_cons, List.length_nil, Nat.zero_add, Nat.le_refl, Nat.reduceLeDiff, Nat.add_zero, Option.map_some, Option.map_none, Int.ofNat_lt, Int.ofNat_le, Prod.mk.injEq, and_false, false_and, decide_true, decide_false, Bool.not_true, Bool.not_false, Nat.reduceLT, Nat.reduceEqDiff, Nat.reduceAdd, Nat.reduceSub, if_true, if_false, reduceIte, Int.cast_ofNat_Int, Nat.reduceBEq, Nat.reduceMul, Nat.reduceDiv, Nat.reduceMod, and_true, true_and, and_self, reduceCtorEq, eq_self, zeg, zeh, zei, zej, zek, zel, zem, zen, e0, e1, e5]
          | false =>
            rw [hpy] at hv
            obtain ⟨h4, hst, o4, g4⟩ := own_store (i := i) o3 g3.ok y (by omega)
            have hel : elP (.sl f ver off l.length 2 cap) 2 i = .ptr f ver (off + i * 2) 2 := rfl
            simp only [zaa, zab, zac, zad, zae, zaf, zag, zah, zai, zaj, zak, zal, zam, zan, zao, zap, zaq, zar, zas, zat, zau, zav, zaw, zax, zay, zaz, zba, zbb, zbc, zbd, zbe, zbf, zbg, zbh, zbi, zbj, zbk, zbl, zbm, zbn, zbo, zbp, zbq, zbr, zbs, zbt, zbu, X.ev_t, X.ev_c, Fr.gs, zbv, zbw, zbx, zby, zbz, zca, zcb, zcc, zcd, zce, zcf, zcg, zch, zci, zcj, zck, zcl, zcm, zcn, zco, zcp, zcq, zcr, zcs, zct, zcu, zcv, zcw, zcx, zcy, zcz, zda, zdb, zdc, zdd, zde, zdf, zdg, zdh, zdi, zdj, zdk, zdl, zdm, zdn, one_tt, one_ff, zdo, nthD, zdp, zdq, zdr, zds, zdt, zdu, zdv, zdw, ne_eq, not_false_eq_true, zdx, zdy, zdz, bsl0, zea, zeb, zec, zed, zee, zef, List.length_cons, List.length_nil, Nat.zero_add, Nat.le_refl, Nat.reduceLeDiff, Nat.add_zero, Option.map_some, Option.map_none, Int.ofNat_lt, Int.ofNat_le, Prod.mk.injEq, and_false, false_and, decide_true, decide_false, Bool.not_true, Bool.not_false, Nat.reduceLT, Nat.reduceEqDiff, Nat.reduceAdd, Nat.reduceSub, if_true, if_false, reduceIte, Int.cast_ofNat_Int, Nat.reduceBEq, Nat.reduceMul, Nat.reduceDiv, Nat.reduceMod, and_true, true_and, and_self, reduceCtorEq, eq_self, zeg, zeh, zei, zej, zek, zel, zem, zen, e0, e1, e5, e6, s2.vlen, hl', hlj, s2.addr (show j < l'.length by omega), s2.load hy', hbx, hv.cl, hs3.addr (show i < l'.length by omega), hel, hst, wrap_succ (show j < 9223372036854775807 by omega), wrap_succ (show i < 9223372036854775807 by omega)]
            refine ⟨l.length - (j + 1), by omega, i + 1, j + 1, _, _, l'.set i y, rfl, g23.trans g4, by omega, by omega, rfl, o4, by simp [hl'], ?_, ?_, ?_, ?_, ?_, ?_⟩
            · have : (l'.set i y)[i]? = some y := by rw [List.getElem?_set_self (by omega)]
              rw [take_snoc this, take_snoc hy, List.filter_append, ← ht, List.take_set_of_le (Nat.le_refl _)]
              simp [hpy]
            · rw [List.drop_set_of_lt (by omega), ← List.drop_drop, hd, List.drop_drop]
            all_goals simp only [zaa, zab, zac, zad, zae, zaf, zag, zah, zai, zaj, zak, zal, zam, zan, zao, zap, zaq, zar, zas, zat, zau, zav, zaw, zax, zay, zaz, zba, zbb, zbc, zbd, zbe, zbf, zbg, zbh, zbi, zbj, zbk, zbl, zbm, zbn, zbo, zbp, zbq, zbr, zbs, zbt, zbu, X.ev_t, X.ev_c, Fr.gs, zbv, zbw, zbx, zby, zbz, zca, zcb, zcc, zcd, zce, zcf, zcg, zch, zci, zcj, zck, zcl, zcm, zcn, zco, zcp, zcq, zcr, zcs, zct, zcu, zcv, zcw, zcx, zcy, zcz, zda, zdb, zdc, zdd, zde, zdf, zdg, zdh, zdi, zdj, zdk, zdl, zdm, zdn, one_tt, one_ff, zdo, nthD, zdp, zdq, zdr, zds, zdt, zdu, zdv, zdw, ne_eq, not_false_eq_true, zdx, zdy, zdz, bsl0, zea, zeb, zec, zed, zee, zef, List.length_cons, List.length_nil, Nat.zero_add, Nat.le_refl, Nat.reduceLeDiff, Nat.add_zero, Option.map_some, Option.map_none, Int.ofNat_lt, Int.ofNat_le, Prod.mk.injEq, and_false, false_and, decide_true, decide_false, Bool.not_true, Bool.not_false, Nat.reduceLT, Nat.reduceEqDiff, Nat.reduceAdd, Nat.reduceSub, if_true, if_false, reduceIte, Int.cast_ofNat_Int, Nat.reduceBEq, Nat.reduceMul, Nat.reduceDiv, Nat.reduceMod, and_true, true_and, and_self, reduceCtorEq, eq_self, zeg, zeh, zei, zej, zek, zel, zem, zen, e0, e1]
        · have hjl : j = l.length := by omega
          subst hjl
          obtain ⟨c', hsf⟩ := sls_from (f := f) (ver := ver) (off := off) (n := l.length) (cap := cap) (i := i) (by omega) (by rw [← hl']; exact o2.capLe)
          obtain ⟨h3, l3, hcl, o3, hl3, ht3, g3⟩ := own_clear (c := c') (i := i) o2 gU.ok (by omega)
          rw [hl'] at hcl
          have hst := sls_to (f := f) (ver := ver) (off := off) (n := l.length) (cap := cap) (i := i) (by omega) (by rw [← hl']; exact o2.capLe)
          simp only [zaa, zab, zac, zad, zae, zaf, zag, zah, zai, zaj, zak, zal, zam, zan, zao, zap, zaq, zar, zas, zat, zau, zav, zaw, zax, zay, zaz, zba, zbb, zbc, zbd, zbe, zbf, zbg, zbh, zbi, zbj, zbk, zbl, zbm, zbn, zbo, zbp, zbq, zbr, zbs, zbt, zbu, X.ev_t, X.ev_c, Fr.gs, zbv, zbw, zbx, zby, zbz, zca, zcb, zcc, zcd, zce, zcf, zcg, zch, zci, zcj, zck, zcl, zcm, zcn, zco, zcp, zcq, zcr, zcs, zct, zcu, zcv, zcw, zcx, zcy, zcz, zda, zdb, zdc, zdd, zde, zdf, zdg, zdh, zdi, zdj, zdk, zdl, zdm, zdn, one_tt, one_ff, zdo, nthD, zdp, zdq, zdr, zds, zdt, zdu, zdv, zdw, ne_eq, not_false_eq_true, zdx, zdy, zdz, bsl0, zea, zeb, zec, zed, zee, zef, List.length_cons, List.length_nil, Nat.zero_add, Nat.le_refl, Nat.reduceLeDiff, Nat.add_zero, Option.map_some, Option.map_none, Int.ofNat_lt, Int.ofNat_le, Prod.mk.injEq, and_false, false_and, decide_true, decide_false, Bool.not_true, Bool.not_false, Nat.reduceLT, Nat.reduceEqDiff, Nat.reduceAdd, Nat.reduceSub, if_true, if_false, reduceIte, Int.cast_ofNat_Int, Nat.reduceBEq, Nat.reduceMul, Nat.reduceDiv, Nat.reduceMod, and_true, true_and, and_self, reduceCtorEq, eq_self, zeg, zeh, zei, zej, zek, zel, zem, zen, e0, e1, e5, e6, s2.vlen, hl', Nat.lt_irrefl, hsf, hcl, hst]
          rw [List.take_length] at ht
          have hlen : (l.filter fun x => !p x).length = i := by rw [← ht, List.length_take]; omega
          refine ⟨.inr ⟨f, ver, off, cap, by rw [hlen], hbf, ?_⟩, gU.trans g3, fun g ⟨_, _, _, _, _, e⟩ => by cases e; rfl⟩
          rw [← ht, ← ht3]
          exact o3.to (by omega)
      all_goals simp only [zaa, zab, zac, zad, zae, zaf, zag, zah, zai, zaj, zak, zal, zam, zan, zao, zap, zaq, zar, zas, zat, zau, zav, zaw, zax, zay, zaz, zba, zbb, zbc, zbd, zbe, zbf, zbg, zbh, zbi, zbj, zbk, zbl, zbm, zbn, zbo, zbp, zbq, zbr, zbs, zbt, zbu, X.ev_t, X.ev_c, Fr.gs, zbv, zbw, zbx, zby, zbz, zca, zcb, zcc, zcd, zce, zcf, zcg, zch, zci, zcj, zck, zcl, zcm, zcn, zco, zcp, zcq, zcr, zcs, zct, zcu, zcv, zcw, zcx, zcy, zcz, zda, zdb, zdc, zdd, zde, zdf, zdg, zdh, zdi, zdj, zdk, zdl, zdm, zdn, one_tt, one_ff, zdo, nthD, zdp, zdq, zdr, zds, zdt, zdu, zdv, zdw, ne_eq, not_false_eq_true, zdx, zdy, zdz, bsl0, zea, zeb, zec, zed, zee, zef, List.length_cons, List.length_nil, Nat.zero_add, Nat.le_refl, Nat.reduceLeDiff, Nat.add_zero, Option.map_some, Option.map_none, Int.ofNat_lt, Int.ofNat_le, Prod.mk.injEq, and_false, false_and, decide_true, decide_false, Bool.not_true, Bool.not_false, Nat.reduceLT, Nat.reduceEqDiff, Nat.reduceAdd, Nat.reduceSub, if_true, if_false, reduceIte, Int.cast_ofNat_Int, Nat.reduceBEq, Nat.reduceMul, Nat.reduceDiv, Nat.reduceMod, and_true, true_and, and_self, reduceCtorEq, eq_self, zeg, zeh, zei, zej, zek, zel, zem, zen]
    obtain ⟨v', h', a, ow, gu, hr⟩ := key.to
    have hgu : Upto f h h' := g1.upto.trans gu
    exact ⟨v', h', a, ow, hgu.grew g0 (Nat.le_trans hb0 hbf), fun g hg hr => hgu.get g hg (by rintro rfl; exact hr ⟨_, _, _, _, _, rfl⟩), hgu.next, fun g h => by have := hr g h; subst this; exact ⟨_, _, _, _, _, rfl⟩⟩
end Go.Im
open Go
set_option maxRecDepth 20000
namespace Go.Im
theorem compact_snoc : ∀ (a : List Lt) (x y : Lt), Law.compact (a ++ [x, y]) = if y = x then Law.compact (a ++ [x]) else Law.compact (a ++ [x]) ++ [y]
  | [], x, y => by
    by_cases h : y = x
    · subst h; simp [Law.compact]
    · simp [Law.compact, h]
  | [b], x, y => by
    by_cases h : y = x
    · subst h; by_cases h2 : y = b <;> simp [Law.compact, h2]
    · by_cases h2 : x = b
      · subst h2; simp [Law.compact, h]
      · simp [Law.compact, h, h2]
  | b :: c :: a, x, y => by
    have ih := compact_snoc (c :: a) x y
    simp only [List.cons_append] at ih ⊢
    by_cases h2 : c = b
    · subst h2
      simp only [Law.compact, if_true]
      exact ih
    · simp only [Law.compact, if_neg h2]
      rw [ih]
      split <;> rfl
theorem compact_step {l : List Lt} {j : Nat} {x y : Lt} (hj : 1 ≤ j) (hx : l[j - 1]? = some x) (hy : l[j]? = some y) : Law.compact (l.take (j + 1)) = if y = x then Law.compact (l.take j) else Law.compact (l.take j) ++ [y] := by
  obtain ⟨k, rfl⟩ : ∃ k, j = k + 1 := ⟨j - 1, by omega⟩
  rw [Nat.add_sub_cancel] at hx
  rw [take_snoc hy, take_snoc hx, List.append_assoc]
  exact compact_snoc _ _ _
theorem compact_short {l : List Lt} (h : l.length < 2) : Law.compact l = l := by
  match l, h with
  | [], _ => rfl
  | [x], _ => rfl
  | _ :: _ :: _, h => simp at h; omega
variable (u : Ob)
/-- slices.Compact -/
theorem f188 {bd : Nat} {v : V} {l : List Lt} {h0 h : H} (g0 : Grew h0 h) (hb0 : pNat h0.next ≤ bd) (s : OwnL bd h v l) (hn : l.length ≤ 536870912) :
    ∃ v' h', FnTo (PrL u) 188 [v] h v' h' ∧ OwnL bd h' v' (Law.compact l) ∧ Grew h0 h' := by
  have hk := g0.ok
  by_cases hs : l.length < 2
  · refine ⟨v, h, (wFn_run rfl F188_eq rfl ?_).is, by rw [compact_short hs]; exact s, g0⟩
    have : ((l.length : Nat) : Int) < 2 := by omega
    simp only [F188, zaa, zab, zac, zad, zae, zaf, zag, zah, zai, zaj, zak, zal, zam, zan, zao, zap, zaq, zar, zas, zat, zau, zav, zaw, zax, zay, zaz, zba, zbb, zbc, zbd, zbe, zbf, zbg, zbh, zbi, zbj, zbk, zbl, zbm, zbn, zbo, zbp, zbq, zbr, zbs, zbt, zbu, X.ev_t, X.ev_c, Fr.gs, zbv, zbw, zbx, zby, zbz, zca, zcb, zcc, zcd, zce, zcf, zcg, zch, zci, zcj, zck, zcl, zcm, zcn, zco, zcp, zcq, zcr, zcs, zct, zcu, zcv, zcw, zcx, zcy, zcz, zda, zdb, zdc, zdd, zde, zdf, zdg, zdh, zdi, zdj, zdk, zdl, zdm, zdn, one_tt, one_ff, zdo, nthD, zdp, zdq, zdr, zds, zdt, zdu, zdv, zdw, ne_eq, not_false_eq_true, zdx, zdy, zdz, bsl0, zea, zeb, zec, zed, zee, zef, List.length_cons, List.length_nil, Nat.zero_add, Nat.le_refl, Nat.reduceLeDiff, Nat.add_zero, Option.map_some, Option.map_none, Int.ofNat_lt, Int.ofNat_le, Prod.mk.injEq, and_false, false_and, decide_true, decide_false, Bool.not_true, Bool.not_false, Nat.reduceLT, Nat.reduceEqDiff, Nat.reduceAdd, Nat.reduceSub, if_true, if_false, reduceIte, Int.cast_ofNat_Int, Nat.reduceBEq, Nat.reduceMul, Nat.reduceDiv, Nat.reduceMod, and_true, true_and, and_self, reduceCtorEq, eq_self, zeg, zeh, zei, zej, zek, zel, zem, zen, s.lits.vlen, this]
  rcases id s with ⟨rfl, rfl⟩ | ⟨f, ver, off, cap, rfl, hbf, o⟩
  · simp at hs
  have sl := s.lits
  have key : wFn (PrL u) 188 [.sl f ver off l.length 2 cap] h fun v' h' => OwnL bd h' v' (Law.compact l) ∧ Upto f h h' := by
    refine wFn_run rfl F188_eq rfl ?_
    have : ¬ ((l.length : Nat) : Int) < 2 := by omega
    simp only [F188, zaa, zab, zac, zad, zae, zaf, zag, zah, zai, zaj, zak, zal, zam, zan, zao, zap, zaq, zar, zas, zat, zau, zav, zaw, zax, zay, zaz, zba, zbb, zbc, zbd, zbe, zbf, zbg, zbh, zbi, zbj, zbk, zbl, zbm, zbn, zbo, zbp, zbq, zbr, zbs, zbt, zbu, X.ev_t, X.ev_c, Fr.gs, zbv, zbw, zbx, zby, zbz, zca, zcb, zcc, zcd, zce, zcf, zcg, zch, zci, zcj, zck, zcl, zcm, zcn, zco, zcp, zcq, zcr, zcs, zct, zcu, zcv, zcw, zcx, zcy, zcz, zda, zdb, zdc, zdd, zde, zdf, zdg, zdh, zdi, zdj, zdk, zdl, zdm, zdn, one_tt, one_ff, zdo, nthD, zdp, zdq, zdr, zds, zdt, zdu, zdv, zdw, ne_eq, not_false_eq_true, zdx, zdy, zdz, bsl0, zea, zeb, zec, zed, zee, zef, List.length_cons, List.length_nil, Nat.zero_add, Nat.le_refl, Nat.reduceLeDiff, Nat.add_zero, Option.map_some, Option.map_none, Int.ofNat_lt, Int.ofNat_le, Prod.mk.injEq, and_false, false_and, decide_true, decide_false, Bool.not_true, Bool.not_false, Nat.reduceLT, Nat.reduceEqDiff, Nat.reduceAdd, Nat.reduceSub, if_true, if_false, reduceIte, Int.cast_ofNat_Int, Nat.reduceBEq, Nat.reduceMul, Nat.reduceDiv, Nat.reduceMod, and_true, true_and, and_self, reduceCtorEq, eq_self, zeg, zeh, zei, zej, zek, zel, zem, zen, sl.vlen, this]
    refine wk_loop (fun m t => ∃ (k : Nat) (fr : Fr), t = ⟨fr, [], h⟩ ∧ 1 ≤ k ∧ k ≤ l.length ∧ m = l.length - k ∧ Law.compact (l.take k) = l.take k ∧
      fr.get (sOf 0) = .sl f ver off l.length 2 cap ∧ fr.get (sOf 3) = .int .i64 (k : Nat)) ?_ ⟨1, _, rfl, Nat.le_refl _, by omega, rfl, compact_short (by simp; omega), ?_, ?_⟩
    · rintro m t ⟨k, fr, rfl, hk1, hkl, rfl, hcm, e0, e3⟩
      by_cases hlt : k < l.length
      · obtain ⟨y, hy⟩ := lits_get hlt
        obtain ⟨x, hx⟩ := lits_get (show k - 1 < l.length by omega)
        have hst := compact_step hk1 hx hy
        by_cases hxy : y = x
        · rw [if_pos hxy] at hst
          subst hxy
          obtain ⟨c', hsf⟩ := sls_from (f := f) (ver := ver) (off := off) (n := l.length) (cap := cap) (i := k) (by omega) o.capLe
          simp only [zaa, zab, zac, zad, zae, zaf, zag, zah, zai, zaj, zak, zal, zam, zan, zao, zap, zaq, zar, zas, zat, zau, zav, zaw, zax, zay, zaz, zba, zbb, zbc, zbd, zbe, zbf, zbg, zbh, zbi, zbj, zbk, zbl, zbm, zbn, zbo, zbp, zbq, zbr, zbs, zbt, zbu, X.ev_t, X.ev_c, Fr.gs, zbv, zbw, zbx, zby, zbz, zca, zcb, zcc, zcd, zce, zcf, zcg, zch, zci, zcj, zck, zcl, zcm, zcn, zco, zcp, zcq, zcr, zcs, zct, zcu, zcv, zcw, zcx, zcy, zcz, zda, zdb, zdc, zdd, zde, zdf, zdg, zdh, zdi, zdj, zdk, zdl, zdm, zdn, one_tt, one_ff, zdo, nthD, zdp, zdq, zdr, zds, zdt, zdu, zdv, zdw, ne_eq, not_false_eq_true, zdx, zdy, zdz, bsl0, zea, zeb, zec, zed, zee, zef, List.length_cons, List.length_nil, Nat.zero_add, Nat.le_refl, Nat.reduceLeDiff, Nat.add_zero, Option.map_some, Option.map_none, Int.ofNat_lt, Int.ofNat_le, Prod.mk.injEq, and_false, false_and, decide_true, decide_false, Bool.not_true, Bool.not_false, Nat.reduceLT, Nat.reduceEqDiff, Nat.reduceAdd, Nat.reduceSub, if_true, if_false, reduceIte, Int.cast_ofNat_Int, Nat.reduceBEq, Nat.reduceMul, Nat.reduceDiv, Nat.reduceMod, and_true, true_and, and_self, reduceCtorEq, eq_self, zeg, zeh, zei, zej, zek, zel, zem, zen, e0, e3, sl.vlen, hlt, sl.addr hlt, sl.load hy, sl.addr (show k - 1 < l.length by omega), sl.load hx, wrap_pred hk1 (show k < 9223372036854775807 by omega), zdk, hsf]
          refine wk_loop (fun m t => ∃ (j i : Nat) (fr : Fr) (h2 : H) (l' : List Lt), t = ⟨fr, [], h2⟩ ∧ Upto f h h2 ∧ 1 ≤ j ∧ k + j ≤ l.length ∧ m = l.length - j ∧ i ≤ k + j - 1 ∧ OwnS h2 f ver off cap l' ∧ l'.length = l.length ∧ l'.take i = Law.compact (l.take (k + j)) ∧ l'.drop (k + j - 1) = l.drop (k + j - 1) ∧
            fr.get (sOf 0) = .sl f ver off l.length 2 cap ∧ fr.get (sOf 4) = .sl f ver (off + k * 2) (l.length - k) 2 c' ∧ fr.get (sOf 3) = .int .i64 (i : Nat) ∧ fr.get (sOf 5) = .int .i64 (j : Nat)) ?_ ⟨1, k, _, h, l, rfl, .refl hk, Nat.le_refl _, by omega, rfl, by omega, o, rfl, by rw [hst, hcm], rfl, ?_, ?_, ?_, ?_⟩
          · rintro m t ⟨j, i, fr, h2, l', rfl, gU, hj1, hjl, rfl, hi, o2, hl', ht, hd, e0, e4, e3, e5⟩
            have s2 := o2.litsFrom (i := k) (by omega) c'
            have s0 := o2.lits cap
            rw [hl'] at s2 s0
            have hld : (l'.drop k).length = l.length - k := by simp [hl']
            by_cases hlj : k + j < l.length
            · obtain ⟨b, hb⟩ := lits_get hlj
              obtain ⟨a, ha⟩ := lits_get (show k + j - 1 < l.length by omega)
              have hb' : (l'.drop k)[j]? = some b := by
                have := congrArg (fun l => l[1]?) hd
                simp only [List.getElem?_drop] at this
                rw [show k + j - 1 + 1 = k + j by omega, hb] at this
                rw [List.getElem?_drop]; exact this
              have ha' : (l'.drop k)[j - 1]? = some a := by
                have := congrArg (fun l => l[0]?) hd
                simp only [List.getElem?_drop, Nat.add_zero] at this
                rw [ha] at this
                rw [List.getElem?_drop, show k + (j - 1) = k + j - 1 by omega]; exact this
              have hst2 := compact_step (j := k + j) (by omega) ha hb
              have vl2 := s2.vlen
              rw [hld] at vl2
              have hjk : j < l.length - k := by omega
              have hld' : j < (l'.drop k).length := by omega
              have hld'' : j - 1 < (l'.drop k).length := by omega
              by_cases hba : b = a
              · rw [if_pos hba] at hst2
                subst hba
                simp only [zaa, zab, zac, zad, zae, zaf, zag, zah, zai, zaj, zak, zal, zam, zan, zao, zap, zaq, zar, zas, zat, zau, zav, zaw, zax, zay, zaz, zba, zbb, zbc, zbd, zbe, zbf, zbg, zbh, zbi, zbj, zbk, zbl, zbm, zbn, zbo, zbp, zbq, zbr, zbs, zbt, zbu, X.ev_t, X.ev_c, Fr.gs, zbv, zbw, zbx, zby, zbz, zca, zcb, zcc, zcd, zce, zcf, zcg, zch, zci, zcj, zck, zcl, zcm, zcn, zco, zcp, zcq, zcr, zcs, zct, zcu, zcv, zcw, zcx, zcy, zcz, zda, zdb, zdc, zdd, zde, zdf, zdg, zdh, zdi, zdj, zdk, zdl, zdm, zdn, one_tt, one_ff, zdo, nthD, zdp, zdq, zdr, zds, zdt, zdu, zdv, zdw, ne_eq, not_false_eq_true, zdx, zdy, zdz, bsl0, zea, zeb, zec, zed, zee, zef, List.length_cons, List.length_nil, Nat.zero_add, Nat.le_refl, Nat.reduceLeDiff, Nat.add_zero, Option.map_some, Option.map_none, Int.ofNat_lt, Int.ofNat_le, Prod.mk.injEq, and_false, false_and, decide_true, decide_false, Bool.not_true, Bool.not_false, Nat.reduceLT, Nat.reduceEqDiff, Nat.reduceAdd, Nat.reduceSub, if_true, if_false, reduceIte, Int.cast_ofNat_Int, Nat.reduceBEq, Nat.reduceMul, Nat.reduceDiv, Nat.reduceMod, and_true, true_and, and_self, reduceCtorEq, eq_self, zeg, zeh, zei, zej, zek, zel, zem, zen, e0, e3, e4, e5, vl2, hjk, s2.addr hld', s2.load hb', s2.addr hld'', s2.load ha', wrap_pred hj1 (show j < 9223372036854775807 by omega), zdl, wrap_succ (show j < 9223372036854775807 by omega)]
                refine ⟨l.length - (j + 1), by omega, j + 1, i, _, _, l', rfl, gU, by omega, by omega, rfl, by omega, o2, hl', by rw [ht, ← Nat.add_assoc, hst2], ?_, ?_, ?_, ?_, ?_⟩
                · rw [show k + (j + 1) - 1 = k + j - 1 + 1 by omega, ← List.drop_drop, hd, List.drop_drop]
                all_goals simp only [zaa, zab, zac, zad, zae, zaf, zag, zah, zai, zaj, zak, zal, zam, zan, zao, zap, zaq, zar, zas, zat, zau, zav, zaw, zax, zay, zaz, zba, zbb, zbc, zbd, zbe, zbf, zbg, zbh, zbi, zbj, zbk, zbl, zbm, zbn, zbo, zbp, zbq, zbr, zbs, zbt, zbu, X.ev_t, X.ev_c, Fr.gs, zbv, zbw, zbx, zby, zbz, zca, zcb, zcc, zcd, zce, zcf, zcg, zch, zci, zcj, zck, zcl, zcm, zcn, zco, zcp, zcq, zcr, zcs, zct, zcu, zcv, zcw, zcx, zcy, zcz, zda, zdb, zdc, zdd, zde, zdf, zdg, zdh, zdi, zdj, zdk, zdl, zdm, zdn, one_tt, one_ff, zdo, nthD, zdp, zdq, zdr, zds, zdt, zdu, zdv, zdw, ne_eq, not_false_eq_true, zdx, zdy, zdz, bsl0, zea, zeb, zec, zed, zee, zef, List.length_cons, List.length_nil, Nat.zero_add, Nat.le_refl, Nat.reduceLeDiff, Nat.add_zero, Option.map_some, Option.map_none, Int.ofNat_lt, Int.ofNat_le, Prod.mk.injEq, and_false, false_and, decide_true, decide_false, Bool.not_true, Bool.not_false, Nat.reduceLT, Nat.reduceEqDiff, Nat.reduceAdd, Nat.reduceSub, if_true, if_false, reduceIte, Int.cast_ofNat_Int, Nat.reduceBEq, Nat.reduceMul, Nat.reduceDiv, Nat.reduceMod, and_true, true_and, and_self, reduceCtorEq, eq_self, zeg, zeh, zei, zej, zek, zel, zem, zen, e0, e3, e4]
              · rw [if_neg hba] at hst2
                obtain ⟨h4, hstr, o4, g4⟩ := own_store (i := i) o2 gU.ok b (by omega)
                have hel : elP (.sl f ver off l.length 2 cap) 2 i = .ptr f ver (off + i * 2) 2 := rfl
                simp only [zaa, zab, zac, zad, zae, zaf, zag, zah, zai, zaj, zak, zal, zam, zan, zao, zap, zaq, zar, zas, zat, zau, zav, zaw, zax, zay, zaz, zba, zbb, zbc, zbd, zbe, zbf, zbg, zbh, zbi, zbj, zbk, zbl, zbm, zbn, zbo, zbp, zbq, zbr, zbs, zbt, zbu, X.ev_t, X.ev_c, Fr.gs, zbv, zbw, zbx, zby, zbz, zca, zcb, zcc, zcd, zce, zcf, zcg, zch, zci, zcj, zck, zcl, zcm, zcn, zco, zcp, zcq, zcr, zcs, zct, zcu, zcv, zcw, zcx, zcy, zcz, zda, zdb, zdc, zdd, zde, zdf, zdg, zdh, zdi, zdj, zdk, zdl, zdm, zdn, one_tt, one_ff, zdo, nthD, zdp, zdq, zdr, zds, zdt, zdu, zdv, zdw, ne_eq, not_false_eq_true, zdx, zdy, zdz, bsl0, zea, zeb, zec, zed, zee, zef, List.length_cons, List.length_nil, Nat.zero_add, Nat.le_refl, Nat.reduceLeDiff, Nat.add_zero, Option.map_some, Option.map_none, Int.ofNat_lt, Int.ofNat_le, Prod.mk.injEq, and_false, false_and, decide_true, decide_false, Bool.not_true, Bool.not_false, Nat.reduceLT, Nat.reduceEqDiff, Nat.reduceAdd, Nat.reduceSub, if_true, if_false, reduceIte, Int.cast_ofNat_Int, Nat.reduceBEq, Nat.reduceMul, Nat.reduceDiv, Nat.reduceMod, and_true, true_and, and_self, reduceCtorEq, eq_self, zeg, zeh, zei, zej, zek, zel, zem, zen, e0, e3, e4, e5, vl2, hjk, s2.addr hld', s2.load hb', s2.addr hld'', s2.load ha', wrap_pred hj1 (show j < 9223372036854775807 by omega), zdl, hba, s0.addr (show i < l'.length by omega), hel, hstr, wrap_succ (show j < 9223372036854775807 by omega), wrap_succ (show i < 9223372036854775807 by omega)]
                refine ⟨l.length - (j + 1), by omega, j + 1, i + 1, _, _, l'.set i b, rfl, gU.trans g4, by omega, by omega, rfl, by omega, o4, by simp [hl'], ?_, ?_, ?_, ?_, ?_, ?_⟩
                · have : (l'.set i b)[i]? = some b := by rw [List.getElem?_set_self (by omega)]
                  rw [take_snoc this, List.take_set_of_le (Nat.le_refl _), ht, ← Nat.add_assoc, hst2]
                · rw [List.drop_set_of_lt (by omega), show k + (j + 1) - 1 = k + j - 1 + 1 by omega, ← List.drop_drop, hd, List.drop_drop]
                all_goals simp only [zaa, zab, zac, zad, zae, zaf, zag, zah, zai, zaj, zak, zal, zam, zan, zao, zap, zaq, zar, zas, zat, zau, zav, zaw, zax, zay, zaz, zba, zbb, zbc, zbd, zbe, zbf, zbg, zbh, zbi, zbj, zbk, zbl, zbm, zbn, zbo, zbp, zbq, zbr, zbs, zbt, zbu, X.ev_t, X.ev_c, Fr.gs, zbv, zbw, zbx, zby, zbz, zca, zcb, zcc, zcd, zce, zcf, zcg, zch, zci, zcj, zck, zcl, zcm, zcn, zco, zcp, zcq, zcr, zcs, zct, zcu, zcv, zcw, zcx, zcy, zcz, zda, zdb, zdc, zdd, zde, zdf, zdg, zdh, zdi, zdj, zdk, zdl, zdm, zdn, one_tt, one_ff, zdo, nthD, zdp, zdq, zdr, zds, zdt, zdu, zdv, zdw, ne_eq, not_false_eq_true, zdx, zdy, zdz, bsl0, zea, zeb, zec, zed, zee, zef, List.length_cons, List.length_nil, Nat.zero_add, Nat.le_refl, Nat.reduceLeDiff, Nat.add_zero, Option.map_some, Option.map_none, Int.ofNat_lt, Int.ofNat_le, Prod.mk.injEq, and_false, false_and, decide_true, decide_false, Bool.not_true, Bool.not_false, Nat.reduceLT, Nat.reduceEqDiff, Nat.reduceAdd, Nat.reduceSub, if_true, if_false, reduceIte, Int.cast_ofNat_Int, Nat.reduceBEq, Nat.reduceMul, Nat.reduceDiv, Nat.reduceMod, and_true, true_and, and_self, reduceCtorEq, eq_self, zeg, zeh, zei, zej, zek, zel, zem, zen, e0, e3, e4]
            · have hkl' : k + j = l.length := by omega
              have vl2 := s2.vlen
              rw [hld] at vl2
              have hjk : ¬ (j < l.length - k) := by omega
              obtain ⟨c2, hsf2⟩ := sls_from (f := f) (ver := ver) (off := off) (n := l.length) (cap := cap) (i := i) (by omega) (by rw [← hl']; exact o2.capLe)
              obtain ⟨h3, l3, hcl, o3, hl3, ht3, g3⟩ := own_clear (c := c2) (i := i) o2 gU.ok (by omega)
              rw [hl'] at hcl
              have hstt := sls_to (f := f) (ver := ver) (off := off) (n := l.length) (cap := cap) (i := i) (by omega) (by rw [← hl']; exact o2.capLe)
              simp only [zaa, zab, zac, zad, zae, zaf, zag, zah, zai, zaj, zak, zal, zam, zan, zao, zap, zaq, zar, zas, zat, zau, zav, zaw, zax, zay, zaz, zba, zbb, zbc, zbd, zbe, zbf, zbg, zbh, zbi, zbj, zbk, zbl, zbm, zbn, zbo, zbp, zbq, zbr, zbs, zbt, zbu, X.ev_t, X.ev_c, Fr.gs, zbv, zbw, zbx, zby, zbz, zca, zcb, zcc, zcd, zce, zcf, zcg, zch, zci, zcj, zck, zcl, zcm, zcn, zco, zcp, zcq, zcr, zcs, zct, zcu, zcv, zcw, zcx, zcy, zcz, zda, zdb, zdc, zdd, zde, zdf, zdg, zdh, zdi, zdj, zdk, zdl, zdm, zdn, one_tt, one_ff, zdo, nthD, zdp, zdq, zdr, zds, zdt, zdu, zdv, zdw, ne_eq, not_false_eq_true, zdx, zdy, zdz, bsl0, zea, zeb, zec, zed, zee, zef, List.length_cons, List.length_nil, Nat.zero_add, Nat.le_refl, Nat.reduceLeDiff, Nat.add_zero, Option.map_some, Option.map_none, Int.ofNat_lt, Int.ofNat_le, Prod.mk.injEq, and_false, false_and, decide_true, decide_false, Bool.not_true, Bool.not_false, Nat.reduceLT, Nat.reduceEqDiff, Nat.reduceAdd, Nat.reduceSub, if_true, if_false, reduceIte, Int.cast_ofNat_Int, Nat.reduceBEq, Nat.reduceMul, Nat.reduceDiv, Nat.reduceMod, and_true, true_and, and_self, reduceCtorEq, eq_self, zeg, zeh, zei, zej, zek, zel, zem, zen, e0, e3, e4, e5, vl2, hjk, hsf2, hcl, hstt]
              rw [hkl', List.take_length] at ht
              have hlen : (Law.compact l).length = i := by rw [← ht, List.length_take]; omega
              refine ⟨.inr ⟨f, ver, off, cap, by rw [hlen], hbf, ?_⟩, gU.trans g3⟩
              rw [← ht, ← ht3]
              exact o3.to (by omega)
          all_goals simp only [zaa, zab, zac, zad, zae, zaf, zag, zah, zai, zaj, zak, zal, zam, zan, zao, zap, zaq, zar, zas, zat, zau, zav, zaw, zax, zay, zaz, zba, zbb, zbc, zbd, zbe, zbf, zbg, zbh, zbi, zbj, zbk, zbl, zbm, zbn, zbo, zbp, zbq, zbr, zbs, zbt, zbu, X.ev_t, X.ev_c, Fr.gs, zbv, zbw, zbx, zby, zbz, zca, zcb, zcc, zcd, zce, zcf, zcg, zch, zci, zcj, zck, zcl, zcm, zcn, zco, zcp, zcq, zcr, zcs, zct, zcu, zcv, zcw, zcx, zcy, zcz, zda, zdb, zdc, zdd, zde, zdf, zdg, zdh, zdi, zdj, zdk, zdl, zdm, zdn, one_tt, one_ff, zdo, nthD, zdp, zdq, zdr, zds, zdt, zdu, zdv, zdw, ne_eq, not_false_eq_true, zdx, zdy, zdz, bsl0, zea, zeb, zec, zed, zee, zef, List.length_cons, List.length_nil, Nat.zero_add, Nat.le_refl, Nat.reduceLeDiff, Nat.add_zero, Option.map_some, Option.map_none, Int.ofNat_lt, Int.ofNat_le, Prod.mk.injEq, and_false, false_and, decide_true, decide_false, Bool.not_true, Bool.not_false, Nat.reduceLT, Nat.reduceEqDiff, Nat.reduceAdd, Nat.reduceSub, if_true, if_false, reduceIte, Int.cast_ofNat_Int, Nat.reduceBEq, Nat.reduceMul, Nat.reduceDiv, Nat.reduceMod, and_true, true_and, and_self, reduceCtorEq, eq_self, zeg, zeh, zei, zej, zek, zel, zem, zen, e0, e3]
        · rw [if_neg hxy] at hst
          simp only [zaa, zab, zac, zad, zae, zaf, zag, zah, zai, zaj, zak, zal, zam, zan, zao, zap, zaq, zar, zas, zat, zau, zav, zaw, zax, zay, zaz, zba, zbb, zbc, zbd, zbe, zbf, zbg, zbh, zbi, zbj, zbk, zbl, zbm, zbn, zbo, zbp, zbq, zbr, zbs, zbt, zbu, X.ev_t, X.ev_c, Fr.gs, zbv, zbw, zbx, zby, zbz, zca, zcb, zcc, zcd, zce, zcf, zcg, zch, zci, zcj, zck, zcl, zcm, zcn, zco, zcp, zcq, zcr, zcs, zct, zcu, zcv, zcw, zcx, zcy, zcz, zda, zdb, zdc, zdd, zde, zdf, zdg, zdh, zdi, zdj, zdk, zdl, zdm, zdn, one_tt, one_ff, zdo, nthD, zdp, zdq, zdr, zds, zdt, zdu, zdv, zdw, ne_eq, not_false_eq_true, zdx, zdy, zdz, bsl0, zea, zeb, zec, zed, zee, zef, List.length_cons, List.length_nil, Nat.zero_add, Nat.le_refl, Nat.reduceLeDiff, Nat.add_zero, Option.map_some, Option.map_none, Int.ofNat_lt, Int.ofNat_le, Prod.mk.injEq, and_false, false_and, decide_true, decide_false, Bool.not_true, Bool.not_false, Nat.reduceLT, Nat.reduceEqDiff, Nat.reduceAdd, Nat.reduceSub, if_true, if_false, reduceIte, Int.cast_ofNat_Int, Nat.reduceBEq, Nat.reduceMul, Nat.reduceDiv, Nat.reduceMod, and_true, true_and, and_self, reduceCtorEq, eq_self, zeg, zeh, zei, zej, zek, zel, zem, zen, e0, e3, sl.vlen, hlt, sl.addr hlt, sl.load hy, sl.addr (show k - 1 < l.length by omega), sl.load hx, wrap_pred hk1 (show k < 9223372036854775807 by omega), zdk, hxy, wrap_succ (show k < 9223372036854775807 by omega)]
          refine ⟨l.length - (k + 1), by omega, k + 1, _, rfl, by omega, by omega, rfl, by rw [hst, hcm, take_snoc hy], ?_, ?_⟩
          all_goals simp only [zaa, zab, zac, zad, zae, zaf, zag, zah, zai, zaj, zak, zal, zam, zan, zao, zap, zaq, zar, zas, zat, zau, zav, zaw, zax, zay, zaz, zba, zbb, zbc, zbd, zbe, zbf, zbg, zbh, zbi, zbj, zbk, zbl, zbm, zbn, zbo, zbp, zbq, zbr, zbs, zbt, zbu, X.ev_t, X.ev_c, Fr.gs, zbv, zbw, zbx, zby, zbz, zca, zcb, zcc, zcd, zce, zcf, zcg, zch, zci, zcj, zck, zcl, zcm, zcn, zco, zcp, zcq, zcr, zcs, zct, zcu, zcv, zcw, zcx, zcy, zcz, zda, zdb, zdc, zdd, zde, zdf, zdg, zdh, zdi, zdj, zdk, zdl, zdm, zdn, one_tt, one_ff, zdo, nthD, zdp, zdq, zdr, zds, zdt, zdu, zdv, zdw, ne_eq, not_false_eq_true, zdx, zdy, zdz, bsl0, zea, zeb, zec, zed, zee, zef, List.length_cons, List.length_nil, Nat.zero_add, Nat.le_refl, Nat.reduceLeDiff, Nat.add_zero, Option.map_some, Option.map_none, Int.ofNat_lt, Int.ofNat_le, Prod.mk.injEq, and_false, false_and, decide_true, decide_false, Bool.not_true, Bool.not_false, Nat.reduceLT, Nat.reduceEqDiff, Nat.reduceAdd, Nat.reduceSub, if_true, if_false, reduceIte, Int.cast_ofNat_Int, Nat.reduceBEq, Nat.reduceMul, Nat.reduceDiv, Nat.reduceMod, and_true, true_and, and_self, reduceCtorEq, eq_self, zeg, zeh, zei, zej, zek, zel, zem, zen, e0]
      · have : k = l.length := by omega
        subst this
        rw [List.take_length] at hcm
        simp only [zaa, zab, zac, zad, zae, zaf, zag, zah, zai, zaj, zak, zal, zam, zan, zao, zap, zaq, zar, zas, zat, zau, zav, zaw, zax, zay, zaz, zba, zbb, zbc, zbd, zbe, zbf, zbg, zbh, zbi, zbj, zbk, zbl, zbm, zbn, zbo, zbp, zbq, zbr, zbs, zbt, zbu, X.ev_t, X.ev_c, Fr.gs, zbv, zbw, zbx, zby, zbz, zca, zcb, zcc, zcd, zce, zcf, zcg, zch, zci, zcj, zck, zcl, zcm, zcn, zco, zcp, zcq, zcr, zcs, zct, zcu, zcv, zcw, zcx, zcy, zcz, zda, zdb, zdc, zdd, zde, zdf, zdg, zdh, zdi, zdj, zdk, zdl, zdm, zdn, one_tt, one_ff, zdo, nthD, zdp, zdq, zdr, zds, zdt, zdu, zdv, zdw, ne_eq, not_false_eq_true, zdx, zdy, zdz, bsl0, zea, zeb, zec, zed, zee, zef, List.length_cons, List.length_nil, Nat.zero_add, Nat.le_refl, Nat.reduceLeDiff, Nat.add_zero, Option.map_some, Option.map_none, Int.ofNat_lt, Int.ofNat_le, Prod.mk.injEq, and_false, false_and, decide_true, decide_false, Bool.not_true, Bool.not_false, Nat.reduceLT, Nat.reduceEqDiff, Nat.reduceAdd, Nat.reduceSub, if_true, if_false, reduceIte, Int.cast_ofNat_Int, Nat.reduceBEq, Nat.reduceMul, Nat.reduceDiv, Nat.reduceMod, and_true, true_and, and_self, reduceCtorEq, eq_self, zeg, zeh, zei, zej, zek, zel, zem, zen, e0, e3, sl.vlen, Nat.lt_irrefl]
        rw [hcm]
        exact ⟨s, .refl hk⟩
    all_goals simp only [zaa, zab, zac, zad, zae, zaf, zag, zah, zai, zaj, zak, zal, zam, zan, zao, zap, zaq, zar, zas, zat, zau, zav, zaw, zax, zay, zaz, zba, zbb, zbc, zbd, zbe, zbf, zbg, zbh, zbi, zbj, zbk, zbl, zbm, zbn, zbo, zbp, zbq, zbr, zbs, zbt, zbu, X.ev_t, X.ev_c, Fr.gs, zbv, zbw, zbx, zby, zbz, zca, zcb, zcc, zcd, zce, zcf, zcg, zch, zci, zcj, zck, zcl, zcm, zcn, zco, zcp, zcq, zcr, zcs, zct, zcu, zcv, zcw, zcx, zcy, zcz, zda, zdb, zdc, zdd, zde, zdf, zdg, zdh, zdi, zdj, zdk, zdl, zdm, zdn, one_tt, one_ff, zdo, nthD, zdp, zdq, zdr, zds, zdt, zdu, zdv, zdw, ne_eq, not_false_eq_true, zdx, zdy, zdz, bsl0, zea, zeb, zec, zed, zee, zef, List.length_cons, List.length_nil, Nat.zero_add, Nat.le_refl, Nat.reduceLeDiff, Nat.add_zero, Option.map_some, Option.map_none, Int.ofNat_lt, Int.ofNat_le, Prod.mk.injEq, and_false, false_and, decide_true, decide_false, Bool.not_true, Bool.not_false, Nat.reduceLT, Nat.reduceEqDiff, Nat.reduceAdd, Nat.reduceSub, if_true, if_false, reduceIte, Int.cast_ofNat_Int, Nat.reduceBEq, Nat.reduceMul, Nat.reduceDiv, Nat.reduceMod, and_true, true_and, and_self, reduceCtorEq, eq_self, zeg, zeh, zei, zej, zek, zel, zem, zen]
  obtain ⟨v', h', a, ow, gu⟩ := key.to
  exact ⟨v', h', a, ow, gu.grew g0 (Nat.le_trans hb0 hbf)⟩
end Go.Im
open Go
set_option maxRecDepth 20000
namespace Go.Im
theorem mksl_eq {n : Nat} (hn : n ≤ 536870912) : mkslV 54 2 16 [.int .i64 0, .bool false] (.int .i64 (n : Nat)) (.int .i64 (n : Nat)) = some (.cells (cellsL (List.replicate n (0, false))) 0 0 .rw 54, fun f => .sl f 0 0 n 2 (some n)) := by
  have e1 : n ≤ 1099511627776 := by omega
  have e2 : 16 * n ≤ 140737488355328 := by omega
  simp only [mkslV, zdm, ble_dec, Nat.le_refl, decide_true, e1, e2, Bool.and_self, rep_cells]
theorem lits_src {h : H} {b : V} {m : List Lt} (hb : LitsOf h b m) : srcLen b = some m.length ∧ srcCells h 2 m.length b = some (cellsL m) := by
  obtain ⟨hl, ⟨rfl, e⟩ | ⟨f, k, off, cap, rfl, c⟩⟩ := hb
  · have : m = [] := by simpa using e
    subst this
    exact ⟨rfl, rfl⟩
  · rw [List.length_map]
    refine ⟨rfl, ?_⟩
    have := c.all (n := m.length * 2) (by rw [flat_cells, cellsL_length])
    rw [flat_cells] at this
    simp only [srcCells, beq_dec, ble_dec, Nat.le_refl, decide_true, Bool.and_self, this]
theorem copy_eq {h : H} {f : P} {ver off : Nat} {cap : Option Nat} {l m : List Lt} {b : V} (o : OwnS h f ver off cap l) (hk : h.ok) (hb : LitsOf h b m) (hl : m.length = l.length) :
    ∃ h', copyV h 2 (.sl f ver off l.length 2 cap) b = some (.int .i64 (m.length : Nat), h') ∧ OwnS h' f ver off cap m ∧ Upto f h h' := by
  obtain ⟨s1, s2⟩ := lits_src hb
  by_cases h0 : m.length = 0
  · refine ⟨h, ?_, ?_, .refl hk⟩
    · simp only [copyV, s1, hl.symm, h0, beq_dec]; rfl
    · have e1 : m = [] := List.eq_nil_of_length_eq_zero h0
      have e2 : l = [] := List.eq_nil_of_length_eq_zero (by omega)
      subst e1; subst e2; exact o
  · obtain ⟨h', e, o', g⟩ := own_over (m := m) (i := 0) o hk (by omega)
    refine ⟨h', ?_, ?_, g⟩
    · have hmin : Nat.min m.length l.length = m.length := Nat.min_eq_left (by omega)
      simp only [copyV, s1, hmin, beq_dec, h0, decide_false, decide_true, s2]
      rw [Nat.zero_mul, Nat.add_zero] at e
      simp only [e]; rfl
    · simpa [hl] using o'
theorem sortL_perm (l : List Lt) : (sortL l).Perm l := List.mergeSort_perm l _
theorem sortL_sorted (l : List Lt) : (sortL l).Pairwise fun a b => Law.lt b a = false := by
  have := List.pairwise_mergeSort (le := fun (x y : Lt) => !Law.lt y x) (fun a b c h1 h2 => ?_) (fun a b => ?_) l
  · exact this.imp fun h => by simpa using h
  · simp only [Bool.not_eq_true'] at h1 h2 ⊢
    cases h : Law.lt c a with
    | false => rfl
    | true =>
      rcases Law.lt_tri b c with e | e | e
      · rw [Law.lt_trans e h] at h1; cases h1
      · subst e; rw [h] at h1; cases h1
      · rw [e] at h2; cases h2
  · rcases Law.lt_tri a b with e | e | e
    · simp [Law.lt_asymm e]
    · subst e; simp [Law.lt_irrefl]
    · simp [Law.lt_asymm e]
variable (u : Ob)
theorem f187 {f : P} {ver off : Nat} {cap : Option Nat} {l : List Lt} {h : H} (hk : h.ok) (o : OwnS h f ver off cap l) (hn : l.length ≤ 536870912) :
    ∃ h', FnTo (PrL u) 187 [.sl f ver off l.length 2 cap, .fn (.func 77) [] []] h (.tup []) h' ∧ OwnS h' f ver off cap (sortL l) ∧ Upto f h h' := by
  have hs : (PrL u).spec 187 [.sl f ver off l.length 2 cap, .fn (.func 77) [] []] h = spSortL 77 [.sl f ver off l.length 2 cap, .fn (.func 77) [] []] h := rfl
  have e0 : Nat.beq 77 77 = true := rfl
  have e1 : Nat.beq 2 2 = true := rfl
  have e2 : Nat.ble l.length 1099511627776 = true := by rw [ble_dec]; simp; omega
  by_cases h0 : l.length = 0
  · have e : l = [] := List.eq_nil_of_length_eq_zero h0
    subst e
    refine ⟨h, (wFn_spec (v := .tup []) (h' := h) ?_ ⟨rfl, rfl⟩).is, by simpa [sortL] using o, .refl hk⟩
    rw [hs]; rfl
  · have hp := sortL_perm l
    obtain ⟨h', e, o', g⟩ := own_over (m := sortL l) (i := 0) o hk (by rw [hp.length_eq]; omega)
    refine ⟨h', (wFn_spec (v := .tup []) (h' := h') ?_ ⟨rfl, rfl⟩).is, ?_, g⟩
    · rw [hs]
      have hc := (OwnS.cells o).all (n := l.length * 2) (by rw [flat_cells, cellsL_length])
      rw [flat_cells] at hc
      rw [Nat.zero_mul, Nat.add_zero] at e
      have e3 : Nat.beq l.length 0 = false := by rw [beq_dec]; simp [h0]
      simp only [spSortL, e0, e1, e2, Bool.and_self, e3, hc, litsOf_cells, e]
    · have : l.drop ((sortL l).length) = [] := by rw [hp.length_eq]; simp
      simpa [this] using o'
/-- clause -/
theorem f82 {v : V} {l : List Lt} {h : H} (hk : h.ok) (s : LitsOf h v l) (hn : l.length ≤ 536870912) : ∃ v' h', FnTo (PrL u) 82 [v] h v' h' ∧ OwnL (pNat h.next) h' v' (Law.clauseR l) ∧ Grew h h' := by
  have g1 : Grew h (h.new (.cells (cellsL (List.replicate l.length (0, false))) 0 0 .rw 54)) := (Grew.refl hk).new _
  have o1 := own_new (l := List.replicate l.length (0, false)) hk (some l.length) (fun n e => by cases e; simp)
  obtain ⟨h2, hc, o2, g2⟩ := copy_eq o1 g1.ok (s.grew hk g1) (by simp)
  rw [List.length_replicate] at hc
  obtain ⟨h3, hs, o3, g3⟩ := f187 u g2.ok o2 hn
  have gh3 : Grew h h3 := (g2.trans g3).grew g1 (Nat.le_refl _)
  have hp := sortL_perm l
  have ol : OwnL (pNat h.next) h3 (.sl h.next 0 0 l.length 2 (some l.length)) (sortL l) := .inr ⟨h.next, 0, 0, _, by rw [hp.length_eq], Nat.le_refl _, o3⟩
  obtain ⟨v', h4, hf, o4, g4⟩ := f188 u gh3 (Nat.le_refl _) ol (by rw [hp.length_eq]; exact hn)
  have he : Law.compact (sortL l) = Law.clauseR l := Law.compact_eq (fun z => hp.mem_iff) (sortL_sorted l)
  rw [he] at o4
  refine ⟨v', h4, (wFn_run rfl F82_eq rfl ?_).is, o4, g4⟩
  simp only [F82, zaa, zab, zac, zad, zae, zaf, zag, zah, zai, zaj, zak, zal, zam, zan, zao, zap, zaq, zar, zas, zat, zau, zav, zaw, zax, zay, zaz, zba, zbb, zbc, zbd, zbe, zbf, zbg, zbh, zbi, zbj, zbk, zbl, zbm, zbn, zbo, zbp, zbq, zbr, zbs, zbt, zbu, X.ev_t, X.ev_c, Fr.gs, zbv, zbw, zbx, zby, zbz, zca, zcb, zcc, zcd, zce, zcf, zcg, zch, zci, zcj, zck, zcl, zcm, zcn, zco, zcp, zcq, zcr, zcs, zct, zcu, zcv, zcw, zcx, zcy, zcz, zda, zdb, zdc, zdd, zde, zdf, zdg, zdh, zdi, zdj, zdk, zdl, zdm, zdn, one_tt, one_ff, zdo, nthD, zdp, zdq, zdr, zds, zdt, zdu, zdv, zdw, ne_eq, not_false_eq_true, zdx, zdy, zdz, bsl0, zea, zeb, zec, zed, zee, zef, List.length_cons, List.length_nil, Nat.zero_add, Nat.le_refl, Nat.reduceLeDiff, Nat.add_zero, Option.map_some, Option.map_none, Int.ofNat_lt, Int.ofNat_le, Prod.mk.injEq, and_false, false_and, decide_true, decide_false, Bool.not_true, Bool.not_false, Nat.reduceLT, Nat.reduceEqDiff, Nat.reduceAdd, Nat.reduceSub, if_true, if_false, reduceIte, Int.cast_ofNat_Int, Nat.reduceBEq, Nat.reduceMul, Nat.reduceDiv, Nat.reduceMod, and_true, true_and, and_self, reduceCtorEq, eq_self, zeg, zeh, zei, zej, zek, zel, zem, zen, s.vlen, mksl_eq hn, hc, hs.cl, hf.cl]
end Go.Im
open Go
set_option maxRecDepth 20000
namespace Go.Im
theorem checks_cons (h : H) (i : Nat) (is : List Nat) (rs : List Rec) : checks h (i :: is) rs = check h (i :: is) rs := rfl
theorem dWr_eq {Pr : Prog} {ds : DS} {k : Ks} (v : V) (h : H) (d : Option S) (b : List Nat) (os : List (Iop × List Nat)) (i : Nat) (rs : List Rec) (fr : Fr) : dWr Pr (some (v, h)) d b os i rs fr ds k = (checks h b rs = true ∧ wd Pr os (i + 1) rs (putD d v fr) h ds k) := id rfl
theorem check_none (h : H) (is : List Nat) : check h is [] = true := rfl
theorem check_load (h : H) (is : List Nat) (i : Nat) (g : Bool) (n : Nat) (x : X) (fr : Fr) (v : V) (rs : List Rec) : check h is (⟨i, .load g n x, fr, v⟩ :: rs) = (match is.any (Nat.beq i) with
    | true => (match ldV h g n (x.ev fr) with
      | some v' => (match V.same v' v with
        | true => check h is rs
        | false => false)
      | none => false)
    | false => check h is rs) := by
  show (match is.any (Nat.beq i) with
    | true => (match check1 h ⟨i, .load g n x, fr, v⟩ with
      | true => check h is rs
      | false => false)
    | false => check h is rs) = _
  cases is.any (Nat.beq i) with
  | false => rfl
  | true =>
    have : check1 h ⟨i, .load g n x, fr, v⟩ = (match ldV h g n (x.ev fr) with
      | some v' => V.same v' v
      | none => false) := rfl
    rw [this]
    cases ldV h g n (x.ev fr) <;> rfl
theorem same_lit (x : Lt) : V.same (lv x) (lv x) = true := by
  obtain ⟨a, b⟩ := x
  have : V.same (lv (a, b)) (lv (a, b)) = ((kindEq .i64 .i64 && ieq a a) && ((b == b) && true)) := rfl
  rw [this, ieq_dec]
  simp [kindEq]
theorem same_int (a : Int) : V.same (.int .i64 a) (.int .i64 a) = true := by
  have : V.same (.int .i64 a) (.int .i64 a) = (kindEq .i64 .i64 && ieq a a) := rfl
  rw [this, ieq_dec]; simp [kindEq]
theorem same_sl (f : P) (k off n es : Nat) (cap : Option Nat) : V.same (.sl f k off n es cap) (.sl f k off n es cap) = true := by
  have e : V.same (.sl f k off n es cap) (.sl f k off n es cap) = (pEq f f && Nat.beq k k && Nat.beq off off && Nat.beq n n && Nat.beq es es && (match cap, cap with | none, none => true | some x, some y => Nat.beq x y | _, _ => false)) := rfl
  rw [e]
  have hp : pEq f f = true := pEq_iff.2 rfl
  cases cap <;> simp [hp, beq_dec]
theorem same_lits {h : H} {v : V} {l : List Lt} (s : LitsOf h v l) : V.same v v = true := by
  rcases s.2 with ⟨rfl, _⟩ | ⟨f, k, off, cap, rfl, _⟩
  · rfl
  · exact same_sl _ _ _ _ _ _
theorem LitsOf.keep {h h' : H} {v : V} {l : List Lt} (s : LitsOf h v l) (g : ∀ f, rootIs v f → h'.get f = h.get f) : LitsOf h' v l := by
  refine ⟨s.1, ?_⟩
  rcases s.2 with a | ⟨k, ver, off, cap, a, c⟩
  · exact .inl a
  · refine .inr ⟨k, ver, off, cap, a, ?_⟩
    obtain ⟨xs, h1, q⟩ := c
    refine ⟨xs, ?_, q⟩
    unfold live at h1 ⊢
    rw [g k ⟨_, _, _, _, _, a⟩]; exact h1
theorem own_slices {bd : Nat} {h : H} {o : V} {l : List Lt} (s : OwnL bd h o l) {j : Nat} (hj : j ≤ l.length) : ∃ a b, slslV 2 o none (some (.int .i64 (j : Nat))) none = some a ∧ slslV 2 o (some (.int .i64 (j : Nat))) none none = some b ∧ LitsOf h a (l.take j) ∧ LitsOf h b (l.drop j) := by
  rcases id s with ⟨rfl, rfl⟩ | ⟨f, ver, off, cap, rfl, hb, o⟩
  · have : j = 0 := by simpa using hj
    subst this
    exact ⟨.snil, .snil, rfl, rfl, s.lits, s.lits⟩
  · obtain ⟨c', e⟩ := sls_from (f := f) (ver := ver) (off := off) hj o.capLe
    exact ⟨_, _, sls_to hj o.capLe, e, o.litsTo hj _, o.litsFrom hj _⟩
theorem ins_at : ∀ {out : List Lt} {j : Nat} {x : Lt}, (∀ k y, k < j → out[k]? = some y → Law.lt y x = true) → j ≤ out.length → Law.ins x out = out.take j ++ Law.ins x (out.drop j)
  | [], j, x, _, hj => by have : j = 0 := by simpa using hj
                          subst this; simp
  | y :: out, 0, x, _, _ => by simp
  | y :: out, j + 1, x, h, hj => by
    have h0 := h 0 y (by omega) rfl
    have := ins_at (out := out) (j := j) (x := x) (fun k z hk hz => h (k + 1) z (by omega) (by simpa using hz)) (by simpa using hj)
    simp only [Law.ins, h0, if_true, this, List.take_succ_cons, List.drop_succ_cons, List.cons_append]
theorem ins_stop {out : List Lt} {j : Nat} {x y : Lt} (h : ∀ k y, k < j → out[k]? = some y → Law.lt y x = true) (hy : out[j]? = some y) (hn : Law.lt y x = false) : Law.ins x out = if y = x then out else out.take j ++ [x] ++ out.drop j := by
  have hj : j < out.length := by
    rcases Nat.lt_or_ge j out.length with h | h
    · exact h
    · rw [List.getElem?_eq_none h] at hy; cases hy
  have hd : out.drop j = y :: out.drop (j + 1) := by
    rw [List.drop_eq_getElem_cons hj]
    rw [List.getElem?_eq_getElem hj] at hy
    cases hy; rfl
  rw [ins_at h (by omega), hd]
  simp only [Law.ins, hn]
  by_cases e : y = x
  · simp only [e, if_true]
    have := List.take_append_drop j out
    rw [hd, e] at this
    simpa using this
  · simp [e]
theorem ins_end {out : List Lt} {x : Lt} (h : ∀ k y, k < out.length → out[k]? = some y → Law.lt y x = true) : Law.ins x out = out.take out.length ++ [x] ++ out.drop out.length := by
  rw [ins_at h (Nat.le_refl _)]; simp [Law.ins]
theorem clauseR_snoc {l : List Lt} {i : Nat} {x : Lt} (hx : l[i]? = some x) : Law.clauseR (l.take (i + 1)) = Law.ins x (Law.clauseR (l.take i)) := by
  rw [take_snoc hx]; simp [Law.clauseR, List.foldl_append]
/-- a new slice of the one, one literal more, and the other -/
theorem app3 {h : H} {a b : V} {l m : List Lt} {x : Lt} (hk : h.ok) (ha : LitsOf h a l) (hb : LitsOf h b m) (hsz : l.length + m.length ≤ 536870912) : ∃ v1 h1 v2 h2 v3 h3,
    appV ((h.new (.cells [] 0 0 .rw 54)).new (.cells [.int .i64 x.1, .bool x.2] 0 0 .rw 54)) 54 2 16 (.sl h.next 0 0 0 2 (some 0)) a = some (v1, h1) ∧ appV h1 54 2 16 v1 (.sl (pSucc h.next) 0 0 1 2 (some 1)) = some (v2, h2) ∧ appV h2 54 2 16 v2 b = some (v3, h3) ∧
    Grew h h1 ∧ Grew h h3 ∧ OwnL (pNat h.next) h3 v3 (l ++ [x] ++ m) := by
  have r := Grew.refl hk
  have g1 := r.new (.cells [] 0 0 .rw 54)
  have g2 := g1.new (.cells [.int .i64 x.1, .bool x.2] 0 0 .rw 54)
  have o1 := (own_empty hk).grew g1.ok ((Grew.refl g1.ok).new (.cells [.int .i64 x.1, .bool x.2] 0 0 .rw 54))
  obtain ⟨v1, h1, e1, ow1, k1, n1, q1⟩ := app_own o1 (ha.grew hk g2) g2.ok g2.next (by simp; omega)
  have G1 : Grew h h1 := ⟨k1, Nat.le_trans g2.next n1, fun f hf => by
    rw [q1 f (Nat.lt_of_lt_of_le hf g2.next) (by rintro ⟨_, _, _, _, _, e⟩; rw [V.sl.injEq] at e; obtain ⟨e, _⟩ := e; subst e; exact absurd hf (Nat.lt_irrefl _)), g2.get f hf]⟩
  have lx : LitsOf h1 (.sl (pSucc h.next) 0 0 1 2 (some 1)) [x] := (lits_one g1.ok x).keep fun f ⟨_, _, _, _, _, e⟩ => by
    rw [V.sl.injEq] at e
    obtain ⟨e, _⟩ := e
    subst e
    refine q1 _ ?_ ?_
    · simp only [zdu, pSucc_nat]; omega
    · rintro ⟨_, _, _, _, _, e⟩
      rw [V.sl.injEq] at e
      exact zdw _ e.1
  obtain ⟨v2, h2, e2, ow2, G2⟩ := app_grew ow1 lx G1 (Nat.le_refl _) G1.next (by simp; omega)
  obtain ⟨v3, h3, e3, ow3, G3⟩ := app_grew ow2 (hb.grew hk G2) G2 (Nat.le_refl _) G2.next (by simp; omega)
  exact ⟨v1, h1, v2, h2, v3, h3, e1, e2, e3, G1, G3, by simpa using ow3⟩
end Go.Im
open Go
set_option maxRecDepth 20000
namespace Go.Im
variable (u : Ob)
/-- ref.Clause -/
theorem f88 {v : V} {l : List Lt} {h : H} (hk : h.ok) (s : LitsOf h v l) (hn : l.length ≤ 268435456) : ∃ v' h', FnTo (PrL u) 88 [v] h v' h' ∧ OwnL (pNat h.next) h' v' (Law.clauseR l) ∧ Grew h h' := by
  have key : wFn (PrL u) 88 [v] h fun v' h' => OwnL (pNat h.next) h' v' (Law.clauseR l) ∧ Grew h h' := by
    refine wFn_run rfl F88_eq rfl ?_
    simp only [F88, zaa, zab, zac, zad, zae, zaf, zag, zah, zai, zaj, zak, zal, zam, zan, zao, zap, zaq, zar, zas, zat, zau, zav, zaw, zax, zay, zaz, zba, zbb, zbc, zbd, zbe, zbf, zbg, zbh, zbi, zbj, zbk, zbl, zbm, zbn, zbo, zbp, zbq, zbr, zbs, zbt, zbu, X.ev_t, X.ev_c, Fr.gs, zbv, zbw, zbx, zby, zbz, zca, zcb, zcc, zcd, zce, zcf, zcg, zch, zci, zcj, zck, zcl, zcm, zcn, zco, zcp, zcq, zcr, zcs, zct, zcu, zcv, zcw, zcx, zcy, zcz, zda, zdb, zdc, zdd, zde, zdf, zdg, zdh, zdi, zdj, zdk, zdl, zdm, zdn, one_tt, one_ff, zdo, nthD, zdp, zdq, zdr, zds, zdt, zdu, zdv, zdw, ne_eq, not_false_eq_true, zdx, zdy, zdz, bsl0, zea, zeb, zec, zed, zee, zef, List.length_cons, List.length_nil, Nat.zero_add, Nat.le_refl, Nat.reduceLeDiff, Nat.add_zero, Option.map_some, Option.map_none, Int.ofNat_lt, Int.ofNat_le, Prod.mk.injEq, and_false, false_and, decide_true, decide_false, Bool.not_true, Bool.not_false, Nat.reduceLT, Nat.reduceEqDiff, Nat.reduceAdd, Nat.reduceSub, if_true, if_false, reduceIte, Int.cast_ofNat_Int, Nat.reduceBEq, Nat.reduceMul, Nat.reduceDiv, Nat.reduceMod, and_true, true_and, and_self, reduceCtorEq, eq_self, zeg, zeh, zei, zej, zek, zel, zem, zen]
    refine wk_loop (fun m t => ∃ (i : Nat) (fr : Fr) (h1 : H) (o : V), t = ⟨fr, [], h1⟩ ∧ Grew h h1 ∧ i ≤ l.length ∧ m = l.length - i ∧ OwnL (pNat h.next) h1 o (Law.clauseR (l.take i)) ∧
      fr.get (sOf 0) = v ∧ fr.get (sOf 3) = o ∧ fr.get (sOf 4) = .int .i64 (i : Nat)) ?_ ⟨0, _, h, .snil, rfl, .refl hk, Nat.zero_le _, rfl, own_nil _ _, ?_, ?_, ?_⟩
    · rintro m t ⟨i, fr, h1, o, rfl, g1, hi, rfl, ho, e0, e3, e4⟩
      have s1 := s.grew hk g1
      by_cases hlt : i < l.length
      · obtain ⟨x, hx⟩ := lits_get hlt
        have hcs := clauseR_snoc hx
        have hcl := Law.clauseR_length (l.take i)
        rw [List.length_take] at hcl
        generalize Law.clauseR (l.take i) = out at ho hcs hcl
        simp only [zaa, zab, zac, zad, zae, zaf, zag, zah, zai, zaj, zak, zal, zam, zan, zao, zap, zaq, zar, zas, zat, zau, zav, zaw, zax, zay, zaz, zba, zbb, zbc, zbd, zbe, zbf, zbg, zbh, zbi, zbj, zbk, zbl, zbm, zbn, zbo, zbp, zbq, zbr, zbs, zbt, zbu, X.ev_t, X.ev_c, Fr.gs, zbv, zbw, zbx, zby, zbz, zca, zcb, zcc, zcd, zce, zcf, zcg, zch, zci, zcj, zck, zcl, zcm, zcn, zco, zcp, zcq, zcr, zcs, zct, zcu, zcv, zcw, zcx, zcy, zcz, zda, zdb, zdc, zdd, zde, zdf, zdg, zdh, zdi, zdj, zdk, zdl, zdm, zdn, one_tt, one_ff, zdo, nthD, zdp, zdq, zdr, zds, zdt, zdu, zdv, zdw, ne_eq, not_false_eq_true, zdx, zdy, zdz, bsl0, zea, zeb, zec, zed, zee, zef, List.length_cons, List.length_nil, Nat.zero_add, Nat.le_refl, Nat.reduceLeDiff, Nat.add_zero, Option.map_some, Option.map_none, Int.ofNat_lt, Int.ofNat_le, Prod.mk.injEq, and_false, false_and, decide_true, decide_false, Bool.not_true, Bool.not_false, Nat.reduceLT, Nat.reduceEqDiff, Nat.reduceAdd, Nat.reduceSub, if_true, if_false, reduceIte, Int.cast_ofNat_Int, Nat.reduceBEq, Nat.reduceMul, Nat.reduceDiv, Nat.reduceMod, and_true, true_and, and_self, reduceCtorEq, eq_self, zeg, zeh, zei, zej, zek, zel, zem, zen, e0, e3, e4, s1.vlen, hlt]
        refine wk_loop (fun m t => ∃ (j : Nat) (fr : Fr) (h2 : H), t = ⟨fr, [], h2⟩ ∧ Grew h1 h2 ∧ j ≤ out.length ∧ m = out.length - j ∧ (∀ k y, k < j → out[k]? = some y → Law.lt y x = true) ∧
          fr.get (sOf 0) = v ∧ fr.get (sOf 3) = o ∧ fr.get (sOf 4) = .int .i64 (i : Nat) ∧ fr.get (sOf 5) = .int .i64 (j : Nat)) ?_ ⟨0, _, h1, rfl, .refl g1.ok, Nat.zero_le _, rfl, fun k y hk => absurd hk (Nat.not_lt_zero _), ?_, ?_, ?_, ?_⟩
        · rintro m t ⟨j, fr, h2, rfl, g2, hj, rfl, hno, e0, e3, e4, e5⟩
          have o2 := ho.grew g1.ok g2
          have ol := o2.lits
          have s2 := s1.grew g1.ok g2
          obtain ⟨a, b, ea, eb, la, lb⟩ := own_slices o2 hj
          obtain ⟨v1, h3, v2, h4, v3, h5, p1, p2, p3, G1, G3, ow⟩ := app3 (x := x) g2.ok la lb (by simp; omega)
          have sx := (s2.grew g2.ok G1).load hx
          by_cases hjl : j < out.length
          · obtain ⟨y, hy⟩ := lits_get hjl
            cases hyx : Law.lt y x with
            | true =>
              simp only [zaa, zab, zac, zad, zae, zaf, zag, zah, zai, zaj, zak, zal, zam, zan, zao, zap, zaq, zar, zas, zat, zau, zav, zaw, zax, zay, zaz, zba, zbb, zbc, zbd, zbe, zbf, zbg, zbh, zbi, zbj, zbk, zbl, zbm, zbn, zbo, zbp, zbq, zbr, zbs, zbt, zbu, X.ev_t, X.ev_c, Fr.gs, zbv, zbw, zbx, zby, zbz, zca, zcb, zcc, zcd, zce, zcf, zcg, zch, zci, zcj, zck, zcl, zcm, zcn, zco, zcp, zcq, zcr, zcs, zct, zcu, zcv, zcw, zcx, zcy, zcz, zda, zdb, zdc, zdd, zde, zdf, zdg, zdh, zdi, zdj, zdk, zdl, zdm, zdn, one_tt, one_ff, zdo, nthD, zdp, zdq, zdr, zds, zdt, zdu, zdv, zdw, ne_eq, not_false_eq_true, zdx, zdy, zdz, bsl0, zea, zeb, zec, zed, zee, zef, List.length_cons, List.length_nil, Nat.zero_add, Nat.le_refl, Nat.reduceLeDiff, Nat.add_zero, Option.map_some, Option.map_none, Int.ofNat_lt, Int.ofNat_le, Prod.mk.injEq, and_false, false_and, decide_true, decide_false, Bool.not_true, Bool.not_false, Nat.reduceLT, Nat.reduceEqDiff, Nat.reduceAdd, Nat.reduceSub, if_true, if_false, reduceIte, Int.cast_ofNat_Int, Nat.reduceBEq, Nat.reduceMul, Nat.reduceDiv, Nat.reduceMod, and_true, true_and, and_self, reduceCtorEq, eq_self, zeg, zeh, zei, zej, zek, zel, zem, zen, e0, e3, e4, e5, ol.vlen, hjl, ol.addr hjl, ol.load hy, s2.addr hlt, s2.load hx, (f84 u y x _).dcl, hyx, wrap_succ (show j < 9223372036854775807 by omega)]
              refine ⟨out.length - (j + 1), by omega, j + 1, _, _, rfl, (g2.new _).new _, by omega, rfl, fun k z hk hz => ?_, ?_, ?_, ?_, ?_⟩
              · rcases Nat.lt_or_ge k j with h | h
                · exact hno k z h hz
                · have : k = j := by omega
                  subst this; rw [hy] at hz; cases hz; exact hyx
              all_goals simp only [zaa, zab, zac, zad, zae, zaf, zag, zah, zai, zaj, zak, zal, zam, zan, zao, zap, zaq, zar, zas, zat, zau, zav, zaw, zax, zay, zaz, zba, zbb, zbc, zbd, zbe, zbf, zbg, zbh, zbi, zbj, zbk, zbl, zbm, zbn, zbo, zbp, zbq, zbr, zbs, zbt, zbu, X.ev_t, X.ev_c, Fr.gs, zbv, zbw, zbx, zby, zbz, zca, zcb, zcc, zcd, zce, zcf, zcg, zch, zci, zcj, zck, zcl, zcm, zcn, zco, zcp, zcq, zcr, zcs, zct, zcu, zcv, zcw, zcx, zcy, zcz, zda, zdb, zdc, zdd, zde, zdf, zdg, zdh, zdi, zdj, zdk, zdl, zdm, zdn, one_tt, one_ff, zdo, nthD, zdp, zdq, zdr, zds, zdt, zdu, zdv, zdw, ne_eq, not_false_eq_true, zdx, zdy, zdz, bsl0, zea, zeb, zec, zed, zee, zef, List.length_cons, List.length_nil, Nat.zero_add, Nat.le_refl, Nat.reduceLeDiff, Nat.add_zero, Option.map_some, Option.map_none, Int.ofNat_lt, Int.ofNat_le, Prod.mk.injEq, and_false, false_and, decide_true, decide_false, Bool.not_true, Bool.not_false, Nat.reduceLT, Nat.reduceEqDiff, Nat.reduceAdd, Nat.reduceSub, if_true, if_false, reduceIte, Int.cast_ofNat_Int, Nat.reduceBEq, Nat.reduceMul, Nat.reduceDiv, Nat.reduceMod, and_true, true_and, and_self, reduceCtorEq, eq_self, zeg, zeh, zei, zej, zek, zel, zem, zen, e0, e3, e4]
            | false =>
              have hstop := ins_stop hno hy hyx
              have gg := (((Grew.refl g2.ok).new (bx y)).new (bx x))
              have o2' := o2.grew g2.ok gg
              have ol' := o2'.lits
              have s2' := s2.grew g2.ok gg
              by_cases hxy : y = x
              · rw [if_pos hxy] at hstop
                subst hxy
                simp only [zaa, zab, zac, zad, zae, zaf, zag, zah, zai, zaj, zak, zal, zam, zan, zao, zap, zaq, zar, zas, zat, zau, zav, zaw, zax, zay, zaz, zba, zbb, zbc, zbd, zbe, zbf, zbg, zbh, zbi, zbj, zbk, zbl, zbm, zbn, zbo, zbp, zbq, zbr, zbs, zbt, zbu, X.ev_t, X.ev_c, Fr.gs, zbv, zbw, zbx, zby, zbz, zca, zcb, zcc, zcd, zce, zcf, zcg, zch, zci, zcj, zck, zcl, zcm, zcn, zco, zcp, zcq, zcr, zcs, zct, zcu, zcv, zcw, zcx, zcy, zcz, zda, zdb, zdc, zdd, zde, zdf, zdg, zdh, zdi, zdj, zdk, zdl, zdm, zdn, one_tt, one_ff, zdo, nthD, zdp, zdq, zdr, zds, zdt, zdu, zdv, zdw, ne_eq, not_false_eq_true, zdx, zdy, zdz, bsl0, zea, zeb, zec, zed, zee, zef, List.length_cons, List.length_nil, Nat.zero_add, Nat.le_refl, Nat.reduceLeDiff, Nat.add_zero, Option.map_some, Option.map_none, Int.ofNat_lt, Int.ofNat_le, Prod.mk.injEq, and_false, false_and, decide_true, decide_false, Bool.not_true, Bool.not_false, Nat.reduceLT, Nat.reduceEqDiff, Nat.reduceAdd, Nat.reduceSub, if_true, if_false, reduceIte, Int.cast_ofNat_Int, Nat.reduceBEq, Nat.reduceMul, Nat.reduceDiv, Nat.reduceMod, and_true, true_and, and_self, reduceCtorEq, eq_self, zeg, zeh, zei, zej, zek, zel, zem, zen, e0, e3, e4, e5, ol.vlen, hjl, ol.addr hjl, ol.load hy, s2.addr hlt, s2.load hx, (f84 u y y _).dcl, hyx, ol'.vlen, ol'.addr hjl, ol'.load hy, s2'.addr hlt, s2'.load hx, zdk, wrap_succ (show i < 9223372036854775807 by omega)]
                refine ⟨l.length - (i + 1), by omega, i + 1, _, _, o, rfl, g1.trans (g2.trans gg), by omega, rfl, by rw [hcs, hstop]; exact o2', ?_, ?_, ?_⟩
                all_goals simp only [zaa, zab, zac, zad, zae, zaf, zag, zah, zai, zaj, zak, zal, zam, zan, zao, zap, zaq, zar, zas, zat, zau, zav, zaw, zax, zay, zaz, zba, zbb, zbc, zbd, zbe, zbf, zbg, zbh, zbi, zbj, zbk, zbl, zbm, zbn, zbo, zbp, zbq, zbr, zbs, zbt, zbu, X.ev_t, X.ev_c, Fr.gs, zbv, zbw, zbx, zby, zbz, zca, zcb, zcc, zcd, zce, zcf, zcg, zch, zci, zcj, zck, zcl, zcm, zcn, zco, zcp, zcq, zcr, zcs, zct, zcu, zcv, zcw, zcx, zcy, zcz, zda, zdb, zdc, zdd, zde, zdf, zdg, zdh, zdi, zdj, zdk, zdl, zdm, zdn, one_tt, one_ff, zdo, nthD, zdp, zdq, zdr, zds, zdt, zdu, zdv, zdw, ne_eq, not_false_eq_true, zdx, zdy, zdz, bsl0, zea, zeb, zec, zed, zee, zef, List.length_cons, List.length_nil, Nat.zero_add, Nat.le_refl, Nat.reduceLeDiff, Nat.add_zero, Option.map_some, Option.map_none, Int.ofNat_lt, Int.ofNat_le, Prod.mk.injEq, and_false, false_and, decide_true, decide_false, Bool.not_true, Bool.not_false, Nat.reduceLT, Nat.reduceEqDiff, Nat.reduceAdd, Nat.reduceSub, if_true, if_false, reduceIte, Int.cast_ofNat_Int, Nat.reduceBEq, Nat.reduceMul, Nat.reduceDiv, Nat.reduceMod, and_true, true_and, and_self, reduceCtorEq, eq_self, zeg, zeh, zei, zej, zek, zel, zem, zen, e0, e3]
              · rw [if_neg hxy] at hstop
                obtain ⟨a, b, ea, eb, la, lb⟩ := own_slices o2' hj
                obtain ⟨v1, h3, v2, h4, v3, h5, p1, p2, p3, G1, G3, ow⟩ := app3 (x := x) gg.ok la lb (by simp; omega)
                have sx := (s2'.grew gg.ok G1).load hx
                simp only [zdu] at p1 p2
                have sN := s2'.grew gg.ok ((Grew.refl gg.ok).new (.cells [] 0 0 .rw 54))
                simp only [zaa, zab, zac, zad, zae, zaf, zag, zah, zai, zaj, zak, zal, zam, zan, zao, zap, zaq, zar, zas, zat, zau, zav, zaw, zax, zay, zaz, zba, zbb, zbc, zbd, zbe, zbf, zbg, zbh, zbi, zbj, zbk, zbl, zbm, zbn, zbo, zbp, zbq, zbr, zbs, zbt, zbu, X.ev_t, X.ev_c, Fr.gs, zbv, zbw, zbx, zby, zbz, zca, zcb, zcc, zcd, zce, zcf, zcg, zch, zci, zcj, zck, zcl, zcm, zcn, zco, zcp, zcq, zcr, zcs, zct, zcu, zcv, zcw, zcx, zcy, zcz, zda, zdb, zdc, zdd, zde, zdf, zdg, zdh, zdi, zdj, zdk, zdl, zdm, zdn, one_tt, one_ff, zdo, nthD, zdp, zdq, zdr, zds, zdt, zdu, zdv, zdw, ne_eq, not_false_eq_true, zdx, zdy, zdz, bsl0, zea, zeb, zec, zed, zee, zef, List.length_cons, List.length_nil, Nat.zero_add, Nat.le_refl, Nat.reduceLeDiff, Nat.add_zero, Option.map_some, Option.map_none, Int.ofNat_lt, Int.ofNat_le, Prod.mk.injEq, and_false, false_and, decide_true, decide_false, Bool.not_true, Bool.not_false, Nat.reduceLT, Nat.reduceEqDiff, Nat.reduceAdd, Nat.reduceSub, if_true, if_false, reduceIte, Int.cast_ofNat_Int, Nat.reduceBEq, Nat.reduceMul, Nat.reduceDiv, Nat.reduceMod, and_true, true_and, and_self, reduceCtorEq, eq_self, zeg, zeh, zei, zej, zek, zel, zem, zen, e0, e3, e4, e5, ol.vlen, hjl, ol.addr hjl, ol.load hy, s2.addr hlt, s2.load hx, (f84 u y x _).dcl, hyx, ol'.vlen, ol'.addr hjl, ol'.load hy, s2'.addr hlt, s2'.load hx, zdk, hxy, ea, eb, dMa_some gg.ok, dMa_some (gg.ok.new _), sN.load hx, checks_cons, check_load, check_none, same_lit, List.any_cons, List.any_nil, beq_dec, Bool.or_false, Bool.or_self, Bool.or_true, sx, p1, p2, p3, dWr_eq, wrap_succ (show i < 9223372036854775807 by omega)]
                refine ⟨l.length - (i + 1), by omega, i + 1, _, _, v3, rfl, g1.trans (g2.trans (gg.trans G3)), by omega, rfl, by rw [hcs, hstop]; exact ow.mono (g1.trans (g2.trans gg)).next, ?_, ?_, ?_⟩
                all_goals simp only [zaa, zab, zac, zad, zae, zaf, zag, zah, zai, zaj, zak, zal, zam, zan, zao, zap, zaq, zar, zas, zat, zau, zav, zaw, zax, zay, zaz, zba, zbb, zbc, zbd, zbe, zbf, zbg, zbh, zbi, zbj, zbk, zbl, zbm, zbn, zbo, zbp, zbq, zbr, zbs, zbt, zbu, X.ev_t, X.ev_c, Fr.gs, zbv, zbw, zbx, zby, zbz, zca, zcb, zcc, zcd, zce, zcf, zcg, zch, zci, zcj, zck, zcl, zcm, zcn, zco, zcp, zcq, zcr, zcs, zct, zcu, zcv, zcw, zcx, zcy, zcz, zda, zdb, zdc, zdd, zde, zdf, zdg, zdh, zdi, zdj, zdk, zdl, zdm, zdn, one_tt, one_ff, zdo, nthD, zdp, zdq, zdr, zds, zdt, zdu, zdv, zdw, ne_eq, not_false_eq_true, zdx, zdy, zdz, bsl0, zea, zeb, zec, zed, zee, zef, List.length_cons, List.length_nil, Nat.zero_add, Nat.le_refl, Nat.reduceLeDiff, Nat.add_zero, Option.map_some, Option.map_none, Int.ofNat_lt, Int.ofNat_le, Prod.mk.injEq, and_false, false_and, decide_true, decide_false, Bool.not_true, Bool.not_false, Nat.reduceLT, Nat.reduceEqDiff, Nat.reduceAdd, Nat.reduceSub, if_true, if_false, reduceIte, Int.cast_ofNat_Int, Nat.reduceBEq, Nat.reduceMul, Nat.reduceDiv, Nat.reduceMod, and_true, true_and, and_self, reduceCtorEq, eq_self, zeg, zeh, zei, zej, zek, zel, zem, zen, e0, e3]
          · have : j = out.length := by omega
            subst this
            have hstop := ins_end hno
            have sN := s2.grew g2.ok ((Grew.refl g2.ok).new (.cells [] 0 0 .rw 54))
            simp only [zaa, zab, zac, zad, zae, zaf, zag, zah, zai, zaj, zak, zal, zam, zan, zao, zap, zaq, zar, zas, zat, zau, zav, zaw, zax, zay, zaz, zba, zbb, zbc, zbd, zbe, zbf, zbg, zbh, zbi, zbj, zbk, zbl, zbm, zbn, zbo, zbp, zbq, zbr, zbs, zbt, zbu, X.ev_t, X.ev_c, Fr.gs, zbv, zbw, zbx, zby, zbz, zca, zcb, zcc, zcd, zce, zcf, zcg, zch, zci, zcj, zck, zcl, zcm, zcn, zco, zcp, zcq, zcr, zcs, zct, zcu, zcv, zcw, zcx, zcy, zcz, zda, zdb, zdc, zdd, zde, zdf, zdg, zdh, zdi, zdj, zdk, zdl, zdm, zdn, one_tt, one_ff, zdo, nthD, zdp, zdq, zdr, zds, zdt, zdu, zdv, zdw, ne_eq, not_false_eq_true, zdx, zdy, zdz, bsl0, zea, zeb, zec, zed, zee, zef, List.length_cons, List.length_nil, Nat.zero_add, Nat.le_refl, Nat.reduceLeDiff, Nat.add_zero, Option.map_some, Option.map_none, Int.ofNat_lt, Int.ofNat_le, Prod.mk.injEq, and_false, false_and, decide_true, decide_false, Bool.not_true, Bool.not_false, Nat.reduceLT, Nat.reduceEqDiff, Nat.reduceAdd, Nat.reduceSub, if_true, if_false, reduceIte, Int.cast_ofNat_Int, Nat.reduceBEq, Nat.reduceMul, Nat.reduceDiv, Nat.reduceMod, and_true, true_and, and_self, reduceCtorEq, eq_self, zeg, zeh, zei, zej, zek, zel, zem, zen, e0, e3, e4, e5, ol.vlen, Nat.lt_irrefl, s2.addr hlt, s2.load hx, ea, eb, dMa_some g2.ok, dMa_some (g2.ok.new _), sN.load hx, checks_cons, check_load, check_none, same_lit, List.any_cons, List.any_nil, beq_dec, Bool.or_false, Bool.or_self, Bool.or_true, sx, p1, p2, p3, dWr_eq, wrap_succ (show i < 9223372036854775807 by omega)]
            refine ⟨l.length - (i + 1), by omega, i + 1, _, _, v3, rfl, g1.trans (g2.trans G3), by omega, rfl, by rw [hcs, hstop]; exact ow.mono (g1.trans g2).next, ?_, ?_, ?_⟩
            all_goals simp only [zaa, zab, zac, zad, zae, zaf, zag, zah, zai, zaj, zak, zal, zam, zan, zao, zap, zaq, zar, zas, zat, zau, zav, zaw, zax, zay, zaz, zba, zbb, zbc, zbd, zbe, zbf, zbg, zbh, zbi, zbj, zbk, zbl, zbm, zbn, zbo, zbp, zbq, zbr, zbs, zbt, zbu, X.ev_t, X.ev_c, Fr.gs, zbv, zbw, zbx, zby, zbz, zca, zcb, zcc, zcd, zce, zcf, zcg, zch, zci, zcj, zck, zcl, zcm, zcn, zco, zcp, zcq, zcr, zcs, zct, zcu, zcv, zcw, zcx, zcy, zcz, zda, zdb, zdc, zdd, zde, zdf, zdg, zdh, zdi, zdj, zdk, zdl, zdm, zdn, one_tt, one_ff, zdo, nthD, zdp, zdq, zdr, zds, zdt, zdu, zdv, zdw, ne_eq, not_false_eq_true, zdx, zdy, zdz, bsl0, zea, zeb, zec, zed, zee, zef, List.length_cons, List.length_nil, Nat.zero_add, Nat.le_refl, Nat.reduceLeDiff, Nat.add_zero, Option.map_some, Option.map_none, Int.ofNat_lt, Int.ofNat_le, Prod.mk.injEq, and_false, false_and, decide_true, decide_false, Bool.not_true, Bool.not_false, Nat.reduceLT, Nat.reduceEqDiff, Nat.reduceAdd, Nat.reduceSub, if_true, if_false, reduceIte, Int.cast_ofNat_Int, Nat.reduceBEq, Nat.reduceMul, Nat.reduceDiv, Nat.reduceMod, and_true, true_and, and_self, reduceCtorEq, eq_self, zeg, zeh, zei, zej, zek, zel, zem, zen, e0, e3]
        all_goals simp only [zaa, zab, zac, zad, zae, zaf, zag, zah, zai, zaj, zak, zal, zam, zan, zao, zap, zaq, zar, zas, zat, zau, zav, zaw, zax, zay, zaz, zba, zbb, zbc, zbd, zbe, zbf, zbg, zbh, zbi, zbj, zbk, zbl, zbm, zbn, zbo, zbp, zbq, zbr, zbs, zbt, zbu, X.ev_t, X.ev_c, Fr.gs, zbv, zbw, zbx, zby, zbz, zca, zcb, zcc, zcd, zce, zcf, zcg, zch, zci, zcj, zck, zcl, zcm, zcn, zco, zcp, zcq, zcr, zcs, zct, zcu, zcv, zcw, zcx, zcy, zcz, zda, zdb, zdc, zdd, zde, zdf, zdg, zdh, zdi, zdj, zdk, zdl, zdm, zdn, one_tt, one_ff, zdo, nthD, zdp, zdq, zdr, zds, zdt, zdu, zdv, zdw, ne_eq, not_false_eq_true, zdx, zdy, zdz, bsl0, zea, zeb, zec, zed, zee, zef, List.length_cons, List.length_nil, Nat.zero_add, Nat.le_refl, Nat.reduceLeDiff, Nat.add_zero, Option.map_some, Option.map_none, Int.ofNat_lt, Int.ofNat_le, Prod.mk.injEq, and_false, false_and, decide_true, decide_false, Bool.not_true, Bool.not_false, Nat.reduceLT, Nat.reduceEqDiff, Nat.reduceAdd, Nat.reduceSub, if_true, if_false, reduceIte, Int.cast_ofNat_Int, Nat.reduceBEq, Nat.reduceMul, Nat.reduceDiv, Nat.reduceMod, and_true, true_and, and_self, reduceCtorEq, eq_self, zeg, zeh, zei, zej, zek, zel, zem, zen, e0, e3, e4]
      · simp only [zaa, zab, zac, zad, zae, zaf, zag, zah, zai, zaj, zak, zal, zam, zan, zao, zap, zaq, zar, zas, zat, zau, zav, zaw, zax, zay, zaz, zba, zbb, zbc, zbd, zbe, zbf, zbg, zbh, zbi, zbj, zbk, zbl, zbm, zbn, zbo, zbp, zbq, zbr, zbs, zbt, zbu, X.ev_t, X.ev_c, Fr.gs, zbv, zbw, zbx, zby, zbz, zca, zcb, zcc, zcd, zce, zcf, zcg, zch, zci, zcj, zck, zcl, zcm, zcn, zco, zcp, zcq, zcr, zcs, zct, zcu, zcv, zcw, zcx, zcy, zcz, zda, zdb, zdc, zdd, zde, zdf, zdg, zdh, zdi, zdj, zdk, zdl, zdm, zdn, one_tt, one_ff, zdo, nthD, zdp, zdq, zdr, zds, zdt, zdu, zdv, zdw, ne_eq, not_false_eq_true, zdx, zdy, zdz, bsl0, zea, zeb, zec, zed, zee, zef, List.length_cons, List.length_nil, Nat.zero_add, Nat.le_refl, Nat.reduceLeDiff, Nat.add_zero, Option.map_some, Option.map_none, Int.ofNat_lt, Int.ofNat_le, Prod.mk.injEq, and_false, false_and, decide_true, decide_false, Bool.not_true, Bool.not_false, Nat.reduceLT, Nat.reduceEqDiff, Nat.reduceAdd, Nat.reduceSub, if_true, if_false, reduceIte, Int.cast_ofNat_Int, Nat.reduceBEq, Nat.reduceMul, Nat.reduceDiv, Nat.reduceMod, and_true, true_and, and_self, reduceCtorEq, eq_self, zeg, zeh, zei, zej, zek, zel, zem, zen, e0, e3, e4, s1.vlen, hlt]
        rw [List.take_of_length_le (by omega)] at ho
        exact ⟨ho, g1⟩
    all_goals simp only [zaa, zab, zac, zad, zae, zaf, zag, zah, zai, zaj, zak, zal, zam, zan, zao, zap, zaq, zar, zas, zat, zau, zav, zaw, zax, zay, zaz, zba, zbb, zbc, zbd, zbe, zbf, zbg, zbh, zbi, zbj, zbk, zbl, zbm, zbn, zbo, zbp, zbq, zbr, zbs, zbt, zbu, X.ev_t, X.ev_c, Fr.gs, zbv, zbw, zbx, zby, zbz, zca, zcb, zcc, zcd, zce, zcf, zcg, zch, zci, zcj, zck, zcl, zcm, zcn, zco, zcp, zcq, zcr, zcs, zct, zcu, zcv, zcw, zcx, zcy, zcz, zda, zdb, zdc, zdd, zde, zdf, zdg, zdh, zdi, zdj, zdk, zdl, zdm, zdn, one_tt, one_ff, zdo, nthD, zdp, zdq, zdr, zds, zdt, zdu, zdv, zdw, ne_eq, not_false_eq_true, zdx, zdy, zdz, bsl0, zea, zeb, zec, zed, zee, zef, List.length_cons, List.length_nil, Nat.zero_add, Nat.le_refl, Nat.reduceLeDiff, Nat.add_zero, Option.map_some, Option.map_none, Int.ofNat_lt, Int.ofNat_le, Prod.mk.injEq, and_false, false_and, decide_true, decide_false, Bool.not_true, Bool.not_false, Nat.reduceLT, Nat.reduceEqDiff, Nat.reduceAdd, Nat.reduceSub, if_true, if_false, reduceIte, Int.cast_ofNat_Int, Nat.reduceBEq, Nat.reduceMul, Nat.reduceDiv, Nat.reduceMod, and_true, true_and, and_self, reduceCtorEq, eq_self, zeg, zeh, zei, zej, zek, zel, zem, zen]
  obtain ⟨v', h', a, o, g⟩ := key.to
  exact ⟨v', h', a, o, g⟩
end Go.Im
open Go
set_option maxRecDepth 20000
namespace Go.Im
/-- a variable of its own that holds a literal -/
def Box (h : H) (b : P) (x : Lt) : Prop := h.get b = some (bx x)
theorem Box.lt {h : H} {b : P} {x : Lt} (a : Box h b x) (hk : h.ok) : pNat b < pNat h.next := hk.lt a
theorem Box.ld {h : H} {b : P} {x : Lt} (a : Box h b x) : ldV h true 2 (.ptr b 0 0 2) = some (lv x) := by
  rw [ld_at a (Nat.le_refl _) (Nat.le_refl _) true (Nat.le_refl _)]; rfl
theorem Box.grew {h h' : H} {b : P} {x : Lt} (a : Box h b x) (hk : h.ok) (g : Grew h h') : Box h' b x := g.keep hk a
theorem Box.st {h : H} {b : P} {x : Lt} (a : Box h b x) (y : Lt) : stV h 2 (.ptr b 0 0 2) (lv y) = some (.tup [], h.set b (bx y)) := by
  have e : wcells h b 0 0 [.int .i64 y.1, .bool y.2] = some (h.set b (bx y)) := by
    unfold wcells
    rw [a]; rfl
  show (match Nat.beq 2 2 && Nat.ble 2 2 with
      | true => match wcells h b 0 0 [.int .i64 y.1, .bool y.2] with
        | some h => some (V.tup [], h)
        | none => none
      | false => none) = _
  rw [e]; rfl
theorem Box.same {h : H} {b : P} (y : Lt) : Box (h.set b (bx y)) b y := H.get_set_same _ _ _
theorem Box.other {h : H} {b c : P} {x : Lt} {o : O} (a : Box h b x) (e : b ≠ c) : Box (h.set c o) b x := by
  unfold Box; rw [H.get_set_ne _ _ fun q => e q.symm]; exact a
theorem box_new (h : H) (x : Lt) : Box (h.new (bx x)) h.next x := H.get_new_same _ _
variable (u : Ob)
theorem pred81 {v : V} {b : P} {z : Lt} {h : H} (hk : h.ok) (hb : Box h b z) (hr : ¬ rootIs v b) : PredV (PrL u) v (.fn (.func 81) [] [.ptr b 0 0 2]) (fun x => decide (x = z)) h := fun h1 k1 n1 g1 x => by
  have hb1 : h1.get b = some (bx z) := by rw [g1 b (hb.lt hk) hr]; exact hb
  exact ⟨_, (f81 u x z k1 hb1 rfl).clo (args := [lv x]), (Grew.refl k1).new _⟩
theorem pred83 {v : V} {b : P} {z : Lt} {h : H} (hk : h.ok) (hb : Box h b z) (hr : ¬ rootIs v b) : PredV (PrL u) v (.fn (.func 83) [] [.ptr b 0 0 2]) (fun x => decide (x = z)) h := fun h1 k1 n1 g1 x => by
  have hb1 : h1.get b = some (bx z) := by rw [g1 b (hb.lt hk) hr]; exact hb
  exact ⟨_, (f83 u x z k1 hb1 rfl).clo (args := [lv x]), (Grew.refl k1).new _⟩
theorem OwnL.root {bd : Nat} {h : H} {v : V} {l : List Lt} (o : OwnL bd h v l) (hk : h.ok) {f : P} (hr : rootIs v f) : bd ≤ pNat f ∧ pNat f < pNat h.next := by
  obtain ⟨a, b, c, d, e, rfl⟩ := hr
  rcases o with ⟨q, _⟩ | ⟨f', ver, off, cap, q, hb, o⟩
  · cases q
  · rw [V.sl.injEq] at q
    obtain ⟨q, _⟩ := q
    subst q
    exact ⟨hb, o.lt hk⟩
theorem app_grew2 {h0 h : H} {bd : Nat} {a b : V} {l m : List Lt} (ha : OwnL bd h a l) (hb : LitsOf h b m) (g : Grew h0 h) (h0b : pNat h0.next ≤ bd) (hbd : bd ≤ pNat h.next) (hsz : l.length + m.length ≤ 1073741824) :
    ∃ v h', appV h 54 2 16 a b = some (v, h') ∧ OwnL bd h' v (l ++ m) ∧ Grew h0 h' ∧ pNat h.next ≤ pNat h'.next := by
  obtain ⟨v, h', e, o, k, n, q⟩ := app_own ha hb g.ok hbd hsz
  refine ⟨v, h', e, o, ⟨k, Nat.le_trans g.next n, fun f hf => ?_⟩, n⟩
  rw [q f (Nat.lt_of_lt_of_le hf g.next) ?_, g.get f hf]
  intro hr
  have := (ha.root g.ok hr).1
  omega
/-- the clause with the pivot taken from each -/
def joined (out next : List Lt) (p n : Lt) : List Lt := Law.clauseR (out.filter (fun x => decide (x ≠ p)) ++ next.filter fun x => decide (x ≠ n))
theorem filter_ne (l : List Lt) (p : Lt) : l.filter (fun x => !decide (x = p)) = l.filter fun x => decide (x ≠ p) := by
  congr 1; funext x; by_cases h : x = p <;> simp [h]
theorem wk_T28 {bd : Nat} {h0 h : H} {o nx : V} {out next : List Lt} {b10 b11 : P} {p n : Lt} {fr : Fr} {k : Ks} (g0 : Grew h0 h) (hbd : pNat h0.next ≤ bd) (hbn : bd ≤ pNat h.next) (ho : OwnL bd h o out) (hx : LitsOf h nx next) (B10 : Box h b10 p) (B11 : Box h b11 n) (hr : ¬ rootIs o b10)
    (hl : out.length ≤ 67108864) (hm : next.length ≤ 67108864) (e6 : fr.get (sOf 6) = o) (e9 : fr.get (sOf 9) = nx) (e10 : fr.get (sOf 10) = .ptr b10 0 0 2) (e11 : fr.get (sOf 11) = .ptr b11 0 0 2)
    (hR : ∀ fr' v' h', Grew h0 h' → OwnL bd h' v' (joined out next p n) → fr'.get (sOf 0) = fr.get (sOf 0) → fr'.get (sOf 17) = fr.get (sOf 17) → fr'.get (sOf 18) = fr.get (sOf 18) → fr'.get (sOf 19) = fr.get (sOf 19) → fr'.get (sOf 6) = v' → k.run (PrL u) (.norm ⟨fr', [], h'⟩)) : wk (PrL u) T28 ⟨fr, [], h⟩ k := by
  have hk := g0.ok
  obtain ⟨v56, h1, c1, o56, g1⟩ := f78 u hk hx (by omega)
  have hrt : ∀ f, rootIs v56 f → pNat h.next ≤ pNat f := fun f hf => (o56.root g1.ok hf).1
  obtain ⟨v58, h2, c2, o58, g2, q2, n2, _⟩ := f80 u g1 (Nat.le_refl _) o56 (pred81 u g1.ok (B11.grew hk g1) fun hf => by have := hrt _ hf; have := B11.lt hk; omega) (by omega)
  have gh2 : Grew h h2 := g2
  have oo2 := ho.grew hk gh2
  obtain ⟨v61, h3, c3, o61, g3, q3, n3, _⟩ := f80 u (g0.trans gh2) hbd oo2 (pred83 u g2.ok (B10.grew hk gh2) hr) (by omega)
  rw [filter_ne] at o58 o61
  have l58 : LitsOf h3 v58 (next.filter fun x => decide (x ≠ n)) := o58.lits.keep fun f hf => q3 f (o58.root g2.ok hf).2 fun hf' => by
    have h1 := (o58.root g2.ok hf).1
    have h2 := (ho.root hk hf').2
    omega
  have f1 := List.length_filter_le (fun x => decide (x ≠ p)) out
  have f2 := List.length_filter_le (fun x => decide (x ≠ n)) next
  obtain ⟨v63, h4, c4, o63, g4, n4⟩ := app_grew2 o61 l58 g3 hbd (Nat.le_trans hbn (Nat.le_trans gh2.next n3)) (by omega)
  have hbd4 : bd ≤ pNat h4.next := Nat.le_trans hbn (Nat.le_trans gh2.next (Nat.le_trans n3 n4))
  obtain ⟨v64, h5, c5, o64, g5⟩ := f82 u g4.ok o63.lits (by rw [List.length_append]; omega)
  simp only [T28, zaa, zab, zac, zad, zae, zaf, zag, zah, zai, zaj, zak, zal, zam, zan, zao, zap, zaq, zar, zas, zat, zau, zav, zaw, zax, zay, zaz, zba, zbb, zbc, zbd, zbe, zbf, zbg, zbh, zbi, zbj, zbk, zbl, zbm, zbn, zbo, zbp, zbq, zbr, zbs, zbt, zbu, X.ev_t, X.ev_c, Fr.gs, zbv, zbw, zbx, zby, zbz, zca, zcb, zcc, zcd, zce, zcf, zcg, zch, zci, zcj, zck, zcl, zcm, zcn, zco, zcp, zcq, zcr, zcs, zct, zcu, zcv, zcw, zcx, zcy, zcz, zda, zdb, zdc, zdd, zde, zdf, zdg, zdh, zdi, zdj, zdk, zdl, zdm, zdn, one_tt, one_ff, zdo, nthD, zdp, zdq, zdr, zds, zdt, zdu, zdv, zdw, ne_eq, not_false_eq_true, zdx, zdy, zdz, bsl0, zea, zeb, zec, zed, zee, zef, List.length_cons, List.length_nil, Nat.zero_add, Nat.le_refl, Nat.reduceLeDiff, Nat.add_zero, Option.map_some, Option.map_none, Int.ofNat_lt, Int.ofNat_le, Prod.mk.injEq, and_false, false_and, decide_true, decide_false, Bool.not_true, Bool.not_false, Nat.reduceLT, Nat.reduceEqDiff, Nat.reduceAdd, Nat.reduceSub, if_true, if_false, reduceIte, Int.cast_ofNat_Int, Nat.reduceBEq, Nat.reduceMul, Nat.reduceDiv, Nat.reduceMod, and_true, true_and, and_self, reduceCtorEq, eq_self, zeg, zeh, zei, zej, zek, zel, zem, zen, e6, e9, e10, e11, c1.cl, c2.cl, c3.cl, c4, c5.cl]
  refine hR _ v64 h5 (g4.trans g5) (o64.mono hbd4) ?_ ?_ ?_ ?_ ?_
  all_goals simp only [zaa, zab, zac, zad, zae, zaf, zag, zah, zai, zaj, zak, zal, zam, zan, zao, zap, zaq, zar, zas, zat, zau, zav, zaw, zax, zay, zaz, zba, zbb, zbc, zbd, zbe, zbf, zbg, zbh, zbi, zbj, zbk, zbl, zbm, zbn, zbo, zbp, zbq, zbr, zbs, zbt, zbu, X.ev_t, X.ev_c, Fr.gs, zbv, zbw, zbx, zby, zbz, zca, zcb, zcc, zcd, zce, zcf, zcg, zch, zci, zcj, zck, zcl, zcm, zcn, zco, zcp, zcq, zcr, zcs, zct, zcu, zcv, zcw, zcx, zcy, zcz, zda, zdb, zdc, zdd, zde, zdf, zdg, zdh, zdi, zdj, zdk, zdl, zdm, zdn, one_tt, one_ff, zdo, nthD, zdp, zdq, zdr, zds, zdt, zdu, zdv, zdw, ne_eq, not_false_eq_true, zdx, zdy, zdz, bsl0, zea, zeb, zec, zed, zee, zef, List.length_cons, List.length_nil, Nat.zero_add, Nat.le_refl, Nat.reduceLeDiff, Nat.add_zero, Option.map_some, Option.map_none, Int.ofNat_lt, Int.ofNat_le, Prod.mk.injEq, and_false, false_and, decide_true, decide_false, Bool.not_true, Bool.not_false, Nat.reduceLT, Nat.reduceEqDiff, Nat.reduceAdd, Nat.reduceSub, if_true, if_false, reduceIte, Int.cast_ofNat_Int, Nat.reduceBEq, Nat.reduceMul, Nat.reduceDiv, Nat.reduceMod, and_true, true_and, and_self, reduceCtorEq, eq_self, zeg, zeh, zei, zej, zek, zel, zem, zen]

/-- the pivots changed over where they do not fit -/
theorem wk_A28 {h0 h : H} {o nx : V} {out next : List Lt} {b10 b11 : P} {p n : Lt} {fr : Fr} {k : Ks} (g0 : Grew h0 h) (ho : LitsOf h0 o out) (hx : LitsOf h0 nx next) (hk0 : h0.ok) (B10 : Box h b10 p) (B11 : Box h b11 n) (hne : b10 ≠ b11) (hb10 : pNat h0.next ≤ pNat b10) (hb11 : pNat h0.next ≤ pNat b11)
    (hl : out.length ≤ 67108864) (hm : next.length ≤ 67108864) (e6 : fr.get (sOf 6) = o) (e9 : fr.get (sOf 9) = nx) (e10 : fr.get (sOf 10) = .ptr b10 0 0 2) (e11 : fr.get (sOf 11) = .ptr b11 0 0 2)
    (hR : ∀ fr' h', Grew h0 h' → Box h' b10 (if p ∈ out ∧ n ∈ next then p else n) → Box h' b11 (if p ∈ out ∧ n ∈ next then n else p) → fr'.get (sOf 0) = fr.get (sOf 0) → fr'.get (sOf 17) = fr.get (sOf 17) → fr'.get (sOf 18) = fr.get (sOf 18) → fr'.get (sOf 19) = fr.get (sOf 19) → fr'.get (sOf 6) = o → fr'.get (sOf 9) = nx → fr'.get (sOf 10) = .ptr b10 0 0 2 → fr'.get (sOf 11) = .ptr b11 0 0 2 → k.run (PrL u) (.norm ⟨fr', [], h'⟩)) : wk (PrL u) A28 ⟨fr, [], h⟩ k := by
  have swap : ∀ h1, Grew h h1 → ∃ h2 h3, stV h1 2 (.ptr b10 0 0 2) (lv n) = some (.tup [], h2) ∧ stV h2 2 (.ptr b11 0 0 2) (lv p) = some (.tup [], h3) ∧ Grew h0 h3 ∧ Box h3 b10 n ∧ Box h3 b11 p := fun h1 g1 => by
    have a1 := B10.grew g0.ok g1
    have a2 := B11.grew g0.ok g1
    have G1 := g0.trans g1
    have s2 : Grew h0 (h1.set b10 (bx n)) := G1.set hb10 (a1.lt g1.ok) _
    exact ⟨_, _, a1.st n, (a2.other fun e => hne e.symm).st p, s2.set hb11 (a2.lt g1.ok) _, (Box.same n).other hne, Box.same p⟩
  obtain ⟨h1, c1, g1⟩ := f79 u p g0.ok (ho.grew hk0 g0) (show out.length < 4611686018427387904 by omega)
  obtain ⟨h2, c2, g2⟩ := f79 u n g1.ok (hx.grew hk0 (g0.trans g1)) (show next.length < 4611686018427387904 by omega)
  have l10 := B10.ld
  have l11 := B11.ld
  have l101 := (B10.grew g0.ok g1).ld
  have l111 := (B11.grew g0.ok g1).ld
  have l102 := (B10.grew g0.ok (g1.trans g2)).ld
  have l112 := (B11.grew g0.ok (g1.trans g2)).ld
  by_cases hp : p ∈ out
  · by_cases hn : n ∈ next
    · simp only [hp, hn, decide_true] at c1 c2
      rw [if_pos ⟨hp, hn⟩, if_pos ⟨hp, hn⟩] at hR
      simp only [A28, zaa, zab, zac, zad, zae, zaf, zag, zah, zai, zaj, zak, zal, zam, zan, zao, zap, zaq, zar, zas, zat, zau, zav, zaw, zax, zay, zaz, zba, zbb, zbc, zbd, zbe, zbf, zbg, zbh, zbi, zbj, zbk, zbl, zbm, zbn, zbo, zbp, zbq, zbr, zbs, zbt, zbu, X.ev_t, X.ev_c, Fr.gs, zbv, zbw, zbx, zby, zbz, zca, zcb, zcc, zcd, zce, zcf, zcg, zch, zci, zcj, zck, zcl, zcm, zcn, zco, zcp, zcq, zcr, zcs, zct, zcu, zcv, zcw, zcx, zcy, zcz, zda, zdb, zdc, zdd, zde, zdf, zdg, zdh, zdi, zdj, zdk, zdl, zdm, zdn, one_tt, one_ff, zdo, nthD, zdp, zdq, zdr, zds, zdt, zdu, zdv, zdw, ne_eq, not_false_eq_true, zdx, zdy, zdz, bsl0, zea, zeb, zec, zed, zee, zef, List.length_cons, List.length_nil, Nat.zero_add, Nat.le_refl, Nat.reduceLeDiff, Nat.add_zero, Option.map_some, Option.map_none, Int.ofNat_lt, Int.ofNat_le, Prod.mk.injEq, and_false, false_and, decide_true, decide_false, Bool.not_true, Bool.not_false, Nat.reduceLT, Nat.reduceEqDiff, Nat.reduceAdd, Nat.reduceSub, if_true, if_false, reduceIte, Int.cast_ofNat_Int, Nat.reduceBEq, Nat.reduceMul, Nat.reduceDiv, Nat.reduceMod, and_true, true_and, and_self, reduceCtorEq, eq_self, zeg, zeh, zei, zej, zek, zel, zem, zen, e6, e9, e10, e11, l10, l111, c1.cl, c2.cl]
      refine hR _ h2 (g0.trans (g1.trans g2)) (B10.grew g0.ok (g1.trans g2)) (B11.grew g0.ok (g1.trans g2)) ?_ ?_ ?_ ?_ ?_ ?_ ?_ ?_
      all_goals simp only [zaa, zab, zac, zad, zae, zaf, zag, zah, zai, zaj, zak, zal, zam, zan, zao, zap, zaq, zar, zas, zat, zau, zav, zaw, zax, zay, zaz, zba, zbb, zbc, zbd, zbe, zbf, zbg, zbh, zbi, zbj, zbk, zbl, zbm, zbn, zbo, zbp, zbq, zbr, zbs, zbt, zbu, X.ev_t, X.ev_c, Fr.gs, zbv, zbw, zbx, zby, zbz, zca, zcb, zcc, zcd, zce, zcf, zcg, zch, zci, zcj, zck, zcl, zcm, zcn, zco, zcp, zcq, zcr, zcs, zct, zcu, zcv, zcw, zcx, zcy, zcz, zda, zdb, zdc, zdd, zde, zdf, zdg, zdh, zdi, zdj, zdk, zdl, zdm, zdn, one_tt, one_ff, zdo, nthD, zdp, zdq, zdr, zds, zdt, zdu, zdv, zdw, ne_eq, not_false_eq_true, zdx, zdy, zdz, bsl0, zea, zeb, zec, zed, zee, zef, List.length_cons, List.length_nil, Nat.zero_add, Nat.le_refl, Nat.reduceLeDiff, Nat.add_zero, Option.map_some, Option.map_none, Int.ofNat_lt, Int.ofNat_le, Prod.mk.injEq, and_false, false_and, decide_true, decide_false, Bool.not_true, Bool.not_false, Nat.reduceLT, Nat.reduceEqDiff, Nat.reduceAdd, Nat.reduceSub, if_true, if_false, reduceIte, Int.cast_ofNat_Int, Nat.reduceBEq, Nat.reduceMul, Nat.reduceDiv, Nat.reduceMod, and_true, true_and, and_self, reduceCtorEq, eq_self, zeg, zeh, zei, zej, zek, zel, zem, zen, e6, e9, e10, e11]
    · simp only [hp, hn, decide_true, decide_false] at c1 c2
      rw [if_neg fun q => hn q.2, if_neg fun q => hn q.2] at hR
      obtain ⟨h3, h4, w1, w2, g4, D10, D11⟩ := swap _ (g1.trans g2)
      simp only [A28, zaa, zab, zac, zad, zae, zaf, zag, zah, zai, zaj, zak, zal, zam, zan, zao, zap, zaq, zar, zas, zat, zau, zav, zaw, zax, zay, zaz, zba, zbb, zbc, zbd, zbe, zbf, zbg, zbh, zbi, zbj, zbk, zbl, zbm, zbn, zbo, zbp, zbq, zbr, zbs, zbt, zbu, X.ev_t, X.ev_c, Fr.gs, zbv, zbw, zbx, zby, zbz, zca, zcb, zcc, zcd, zce, zcf, zcg, zch, zci, zcj, zck, zcl, zcm, zcn, zco, zcp, zcq, zcr, zcs, zct, zcu, zcv, zcw, zcx, zcy, zcz, zda, zdb, zdc, zdd, zde, zdf, zdg, zdh, zdi, zdj, zdk, zdl, zdm, zdn, one_tt, one_ff, zdo, nthD, zdp, zdq, zdr, zds, zdt, zdu, zdv, zdw, ne_eq, not_false_eq_true, zdx, zdy, zdz, bsl0, zea, zeb, zec, zed, zee, zef, List.length_cons, List.length_nil, Nat.zero_add, Nat.le_refl, Nat.reduceLeDiff, Nat.add_zero, Option.map_some, Option.map_none, Int.ofNat_lt, Int.ofNat_le, Prod.mk.injEq, and_false, false_and, decide_true, decide_false, Bool.not_true, Bool.not_false, Nat.reduceLT, Nat.reduceEqDiff, Nat.reduceAdd, Nat.reduceSub, if_true, if_false, reduceIte, Int.cast_ofNat_Int, Nat.reduceBEq, Nat.reduceMul, Nat.reduceDiv, Nat.reduceMod, and_true, true_and, and_self, reduceCtorEq, eq_self, zeg, zeh, zei, zej, zek, zel, zem, zen, e6, e9, e10, e11, l10, l111, c1.cl, c2.cl, l102, l112, w1, w2]
      refine hR _ h4 g4 D10 D11 ?_ ?_ ?_ ?_ ?_ ?_ ?_ ?_
      all_goals simp only [zaa, zab, zac, zad, zae, zaf, zag, zah, zai, zaj, zak, zal, zam, zan, zao, zap, zaq, zar, zas, zat, zau, zav, zaw, zax, zay, zaz, zba, zbb, zbc, zbd, zbe, zbf, zbg, zbh, zbi, zbj, zbk, zbl, zbm, zbn, zbo, zbp, zbq, zbr, zbs, zbt, zbu, X.ev_t, X.ev_c, Fr.gs, zbv, zbw, zbx, zby, zbz, zca, zcb, zcc, zcd, zce, zcf, zcg, zch, zci, zcj, zck, zcl, zcm, zcn, zco, zcp, zcq, zcr, zcs, zct, zcu, zcv, zcw, zcx, zcy, zcz, zda, zdb, zdc, zdd, zde, zdf, zdg, zdh, zdi, zdj, zdk, zdl, zdm, zdn, one_tt, one_ff, zdo, nthD, zdp, zdq, zdr, zds, zdt, zdu, zdv, zdw, ne_eq, not_false_eq_true, zdx, zdy, zdz, bsl0, zea, zeb, zec, zed, zee, zef, List.length_cons, List.length_nil, Nat.zero_add, Nat.le_refl, Nat.reduceLeDiff, Nat.add_zero, Option.map_some, Option.map_none, Int.ofNat_lt, Int.ofNat_le, Prod.mk.injEq, and_false, false_and, decide_true, decide_false, Bool.not_true, Bool.not_false, Nat.reduceLT, Nat.reduceEqDiff, Nat.reduceAdd, Nat.reduceSub, if_true, if_false, reduceIte, Int.cast_ofNat_Int, Nat.reduceBEq, Nat.reduceMul, Nat.reduceDiv, Nat.reduceMod, and_true, true_and, and_self, reduceCtorEq, eq_self, zeg, zeh, zei, zej, zek, zel, zem, zen, e6, e9, e10, e11]
  · simp only [hp, decide_false] at c1
    rw [if_neg fun q => hp q.1, if_neg fun q => hp q.1] at hR
    obtain ⟨h3, h4, w1, w2, g4, D10, D11⟩ := swap _ g1
    simp only [A28, zaa, zab, zac, zad, zae, zaf, zag, zah, zai, zaj, zak, zal, zam, zan, zao, zap, zaq, zar, zas, zat, zau, zav, zaw, zax, zay, zaz, zba, zbb, zbc, zbd, zbe, zbf, zbg, zbh, zbi, zbj, zbk, zbl, zbm, zbn, zbo, zbp, zbq, zbr, zbs, zbt, zbu, X.ev_t, X.ev_c, Fr.gs, zbv, zbw, zbx, zby, zbz, zca, zcb, zcc, zcd, zce, zcf, zcg, zch, zci, zcj, zck, zcl, zcm, zcn, zco, zcp, zcq, zcr, zcs, zct, zcu, zcv, zcw, zcx, zcy, zcz, zda, zdb, zdc, zdd, zde, zdf, zdg, zdh, zdi, zdj, zdk, zdl, zdm, zdn, one_tt, one_ff, zdo, nthD, zdp, zdq, zdr, zds, zdt, zdu, zdv, zdw, ne_eq, not_false_eq_true, zdx, zdy, zdz, bsl0, zea, zeb, zec, zed, zee, zef, List.length_cons, List.length_nil, Nat.zero_add, Nat.le_refl, Nat.reduceLeDiff, Nat.add_zero, Option.map_some, Option.map_none, Int.ofNat_lt, Int.ofNat_le, Prod.mk.injEq, and_false, false_and, decide_true, decide_false, Bool.not_true, Bool.not_false, Nat.reduceLT, Nat.reduceEqDiff, Nat.reduceAdd, Nat.reduceSub, if_true, if_false, reduceIte, Int.cast_ofNat_Int, Nat.reduceBEq, Nat.reduceMul, Nat.reduceDiv, Nat.reduceMod, and_true, true_and, and_self, reduceCtorEq, eq_self, zeg, zeh, zei, zej, zek, zel, zem, zen, e6, e9, e10, e11, l10, c1.cl, l101, l111, w1, w2]
    refine hR _ h4 g4 D10 D11 ?_ ?_ ?_ ?_ ?_ ?_ ?_ ?_
    all_goals simp only [zaa, zab, zac, zad, zae, zaf, zag, zah, zai, zaj, zak, zal, zam, zan, zao, zap, zaq, zar, zas, zat, zau, zav, zaw, zax, zay, zaz, zba, zbb, zbc, zbd, zbe, zbf, zbg, zbh, zbi, zbj, zbk, zbl, zbm, zbn, zbo, zbp, zbq, zbr, zbs, zbt, zbu, X.ev_t, X.ev_c, Fr.gs, zbv, zbw, zbx, zby, zbz, zca, zcb, zcc, zcd, zce, zcf, zcg, zch, zci, zcj, zck, zcl, zcm, zcn, zco, zcp, zcq, zcr, zcs, zct, zcu, zcv, zcw, zcx, zcy, zcz, zda, zdb, zdc, zdd, zde, zdf, zdg, zdh, zdi, zdj, zdk, zdl, zdm, zdn, one_tt, one_ff, zdo, nthD, zdp, zdq, zdr, zds, zdt, zdu, zdv, zdw, ne_eq, not_false_eq_true, zdx, zdy, zdz, bsl0, zea, zeb, zec, zed, zee, zef, List.length_cons, List.length_nil, Nat.zero_add, Nat.le_refl, Nat.reduceLeDiff, Nat.add_zero, Option.map_some, Option.map_none, Int.ofNat_lt, Int.ofNat_le, Prod.mk.injEq, and_false, false_and, decide_true, decide_false, Bool.not_true, Bool.not_false, Nat.reduceLT, Nat.reduceEqDiff, Nat.reduceAdd, Nat.reduceSub, if_true, if_false, reduceIte, Int.cast_ofNat_Int, Nat.reduceBEq, Nat.reduceMul, Nat.reduceDiv, Nat.reduceMod, and_true, true_and, and_self, reduceCtorEq, eq_self, zeg, zeh, zei, zej, zek, zel, zem, zen, e6, e9, e10, e11]
/-- the second look -/
theorem wk_B28 {h0 h : H} {o nx : V} {out next : List Lt} {b10 b11 : P} {p n : Lt} {fr : Fr} {k : Ks} (g0 : Grew h0 h) (ho : LitsOf h0 o out) (hx : LitsOf h0 nx next) (hk0 : h0.ok) (B10 : Box h b10 p) (B11 : Box h b11 n)
    (hl : out.length ≤ 67108864) (hm : next.length ≤ 67108864) (e6 : fr.get (sOf 6) = o) (e9 : fr.get (sOf 9) = nx) (e10 : fr.get (sOf 10) = .ptr b10 0 0 2) (e11 : fr.get (sOf 11) = .ptr b11 0 0 2)
    (hR : p ∈ out ∧ n ∈ next → ∀ fr' h', Grew h h' → fr'.get (sOf 0) = fr.get (sOf 0) → fr'.get (sOf 17) = fr.get (sOf 17) → fr'.get (sOf 18) = fr.get (sOf 18) → fr'.get (sOf 19) = fr.get (sOf 19) → fr'.get (sOf 6) = o → fr'.get (sOf 9) = nx → fr'.get (sOf 10) = .ptr b10 0 0 2 → fr'.get (sOf 11) = .ptr b11 0 0 2 → k.run (PrL u) (.norm ⟨fr', [], h'⟩))
    (hN : ¬ (p ∈ out ∧ n ∈ next) → ∀ fr' h', Grew h h' → fr'.get (sOf 4) = .snil → fr'.get (sOf 5) = .bool false → k.run (PrL u) (.ret ⟨fr', [], h'⟩)) : wk (PrL u) B28 ⟨fr, [], h⟩ k := by
  obtain ⟨h1, c1, g1⟩ := f79 u p g0.ok (ho.grew hk0 g0) (show out.length < 4611686018427387904 by omega)
  obtain ⟨h2, c2, g2⟩ := f79 u n g1.ok (hx.grew hk0 (g0.trans g1)) (show next.length < 4611686018427387904 by omega)
  have l10 := B10.ld
  have l111 := (B11.grew g0.ok g1).ld
  by_cases hp : p ∈ out
  · by_cases hn : n ∈ next
    · simp only [hp, hn, decide_true] at c1 c2
      simp only [B28, zaa, zab, zac, zad, zae, zaf, zag, zah, zai, zaj, zak, zal, zam, zan, zao, zap, zaq, zar, zas, zat, zau, zav, zaw, zax, zay, zaz, zba, zbb, zbc, zbd, zbe, zbf, zbg, zbh, zbi, zbj, zbk, zbl, zbm, zbn, zbo, zbp, zbq, zbr, zbs, zbt, zbu, X.ev_t, X.ev_c, Fr.gs, zbv, zbw, zbx, zby, zbz, zca, zcb, zcc, zcd, zce, zcf, zcg, zch, zci, zcj, zck, zcl, zcm, zcn, zco, zcp, zcq, zcr, zcs, zct, zcu, zcv, zcw, zcx, zcy, zcz, zda, zdb, zdc, zdd, zde, zdf, zdg, zdh, zdi, zdj, zdk, zdl, zdm, zdn, one_tt, one_ff, zdo, nthD, zdp, zdq, zdr, zds, zdt, zdu, zdv, zdw, ne_eq, not_false_eq_true, zdx, zdy, zdz, bsl0, zea, zeb, zec, zed, zee, zef, List.length_cons, List.length_nil, Nat.zero_add, Nat.le_refl, Nat.reduceLeDiff, Nat.add_zero, Option.map_some, Option.map_none, Int.ofNat_lt, Int.ofNat_le, Prod.mk.injEq, and_false, false_and, decide_true, decide_false, Bool.not_true, Bool.not_false, Nat.reduceLT, Nat.reduceEqDiff, Nat.reduceAdd, Nat.reduceSub, if_true, if_false, reduceIte, Int.cast_ofNat_Int, Nat.reduceBEq, Nat.reduceMul, Nat.reduceDiv, Nat.reduceMod, and_true, true_and, and_self, reduceCtorEq, eq_self, zeg, zeh, zei, zej, zek, zel, zem, zen, e6, e9, e10, e11, l10, l111, c1.cl, c2.cl]
      refine hR ⟨hp, hn⟩ _ h2 (g1.trans g2) ?_ ?_ ?_ ?_ ?_ ?_ ?_ ?_
      all_goals simp only [zaa, zab, zac, zad, zae, zaf, zag, zah, zai, zaj, zak, zal, zam, zan, zao, zap, zaq, zar, zas, zat, zau, zav, zaw, zax, zay, zaz, zba, zbb, zbc, zbd, zbe, zbf, zbg, zbh, zbi, zbj, zbk, zbl, zbm, zbn, zbo, zbp, zbq, zbr, zbs, zbt, zbu, X.ev_t, X.ev_c, Fr.gs, zbv, zbw, zbx, zby, zbz, zca, zcb, zcc, zcd, zce, zcf, zcg, zch, zci, zcj, zck, zcl, zcm, zcn, zco, zcp, zcq, zcr, zcs, zct, zcu, zcv, zcw, zcx, zcy, zcz, zda, zdb, zdc, zdd, zde, zdf, zdg, zdh, zdi, zdj, zdk, zdl, zdm, zdn, one_tt, one_ff, zdo, nthD, zdp, zdq, zdr, zds, zdt, zdu, zdv, zdw, ne_eq, not_false_eq_true, zdx, zdy, zdz, bsl0, zea, zeb, zec, zed, zee, zef, List.length_cons, List.length_nil, Nat.zero_add, Nat.le_refl, Nat.reduceLeDiff, Nat.add_zero, Option.map_some, Option.map_none, Int.ofNat_lt, Int.ofNat_le, Prod.mk.injEq, and_false, false_and, decide_true, decide_false, Bool.not_true, Bool.not_false, Nat.reduceLT, Nat.reduceEqDiff, Nat.reduceAdd, Nat.reduceSub, if_true, if_false, reduceIte, Int.cast_ofNat_Int, Nat.reduceBEq, Nat.reduceMul, Nat.reduceDiv, Nat.reduceMod, and_true, true_and, and_self, reduceCtorEq, eq_self, zeg, zeh, zei, zej, zek, zel, zem, zen, e6, e9, e10, e11]
    · simp only [hp, hn, decide_true, decide_false] at c1 c2
      simp only [B28, zaa, zab, zac, zad, zae, zaf, zag, zah, zai, zaj, zak, zal, zam, zan, zao, zap, zaq, zar, zas, zat, zau, zav, zaw, zax, zay, zaz, zba, zbb, zbc, zbd, zbe, zbf, zbg, zbh, zbi, zbj, zbk, zbl, zbm, zbn, zbo, zbp, zbq, zbr, zbs, zbt, zbu, X.ev_t, X.ev_c, Fr.gs, zbv, zbw, zbx, zby, zbz, zca, zcb, zcc, zcd, zce, zcf, zcg, zch, zci, zcj, zck, zcl, zcm, zcn, zco, zcp, zcq, zcr, zcs, zct, zcu, zcv, zcw, zcx, zcy, zcz, zda, zdb, zdc, zdd, zde, zdf, zdg, zdh, zdi, zdj, zdk, zdl, zdm, zdn, one_tt, one_ff, zdo, nthD, zdp, zdq, zdr, zds, zdt, zdu, zdv, zdw, ne_eq, not_false_eq_true, zdx, zdy, zdz, bsl0, zea, zeb, zec, zed, zee, zef, List.length_cons, List.length_nil, Nat.zero_add, Nat.le_refl, Nat.reduceLeDiff, Nat.add_zero, Option.map_some, Option.map_none, Int.ofNat_lt, Int.ofNat_le, Prod.mk.injEq, and_false, false_and, decide_true, decide_false, Bool.not_true, Bool.not_false, Nat.reduceLT, Nat.reduceEqDiff, Nat.reduceAdd, Nat.reduceSub, if_true, if_false, reduceIte, Int.cast_ofNat_Int, Nat.reduceBEq, Nat.reduceMul, Nat.reduceDiv, Nat.reduceMod, and_true, true_and, and_self, reduceCtorEq, eq_self, zeg, zeh, zei, zej, zek, zel, zem, zen, e6, e9, e10, e11, l10, l111, c1.cl, c2.cl]
      refine hN (fun q => hn q.2) _ h2 (g1.trans g2) ?_ ?_
      all_goals simp only [zaa, zab, zac, zad, zae, zaf, zag, zah, zai, zaj, zak, zal, zam, zan, zao, zap, zaq, zar, zas, zat, zau, zav, zaw, zax, zay, zaz, zba, zbb, zbc, zbd, zbe, zbf, zbg, zbh, zbi, zbj, zbk, zbl, zbm, zbn, zbo, zbp, zbq, zbr, zbs, zbt, zbu, X.ev_t, X.ev_c, Fr.gs, zbv, zbw, zbx, zby, zbz, zca, zcb, zcc, zcd, zce, zcf, zcg, zch, zci, zcj, zck, zcl, zcm, zcn, zco, zcp, zcq, zcr, zcs, zct, zcu, zcv, zcw, zcx, zcy, zcz, zda, zdb, zdc, zdd, zde, zdf, zdg, zdh, zdi, zdj, zdk, zdl, zdm, zdn, one_tt, one_ff, zdo, nthD, zdp, zdq, zdr, zds, zdt, zdu, zdv, zdw, ne_eq, not_false_eq_true, zdx, zdy, zdz, bsl0, zea, zeb, zec, zed, zee, zef, List.length_cons, List.length_nil, Nat.zero_add, Nat.le_refl, Nat.reduceLeDiff, Nat.add_zero, Option.map_some, Option.map_none, Int.ofNat_lt, Int.ofNat_le, Prod.mk.injEq, and_false, false_and, decide_true, decide_false, Bool.not_true, Bool.not_false, Nat.reduceLT, Nat.reduceEqDiff, Nat.reduceAdd, Nat.reduceSub, if_true, if_false, reduceIte, Int.cast_ofNat_Int, Nat.reduceBEq, Nat.reduceMul, Nat.reduceDiv, Nat.reduceMod, and_true, true_and, and_self, reduceCtorEq, eq_self, zeg, zeh, zei, zej, zek, zel, zem, zen]
  · simp only [hp, decide_false] at c1
    simp only [B28, zaa, zab, zac, zad, zae, zaf, zag, zah, zai, zaj, zak, zal, zam, zan, zao, zap, zaq, zar, zas, zat, zau, zav, zaw, zax, zay, zaz, zba, zbb, zbc, zbd, zbe, zbf, zbg, zbh, zbi, zbj, zbk, zbl, zbm, zbn, zbo, zbp, zbq, zbr, zbs, zbt, zbu, X.ev_t, X.ev_c, Fr.gs, zbv, zbw, zbx, zby, zbz, zca, zcb, zcc, zcd, zce, zcf, zcg, zch, zci, zcj, zck, zcl, zcm, zcn, zco, zcp, zcq, zcr, zcs, zct, zcu, zcv, zcw, zcx, zcy, zcz, zda, zdb, zdc, zdd, zde, zdf, zdg, zdh, zdi, zdj, zdk, zdl, zdm, zdn, one_tt, one_ff, zdo, nthD, zdp, zdq, zdr, zds, zdt, zdu, zdv, zdw, ne_eq, not_false_eq_true, zdx, zdy, zdz, bsl0, zea, zeb, zec, zed, zee, zef, List.length_cons, List.length_nil, Nat.zero_add, Nat.le_refl, Nat.reduceLeDiff, Nat.add_zero, Option.map_some, Option.map_none, Int.ofNat_lt, Int.ofNat_le, Prod.mk.injEq, and_false, false_and, decide_true, decide_false, Bool.not_true, Bool.not_false, Nat.reduceLT, Nat.reduceEqDiff, Nat.reduceAdd, Nat.reduceSub, if_true, if_false, reduceIte, Int.cast_ofNat_Int, Nat.reduceBEq, Nat.reduceMul, Nat.reduceDiv, Nat.reduceMod, and_true, true_and, and_self, reduceCtorEq, eq_self, zeg, zeh, zei, zej, zek, zel, zem, zen, e6, e9, e10, e11, l10, c1.cl]
    refine hN (fun q => hp q.1) _ h1 g1 ?_ ?_
    all_goals simp only [zaa, zab, zac, zad, zae, zaf, zag, zah, zai, zaj, zak, zal, zam, zan, zao, zap, zaq, zar, zas, zat, zau, zav, zaw, zax, zay, zaz, zba, zbb, zbc, zbd, zbe, zbf, zbg, zbh, zbi, zbj, zbk, zbl, zbm, zbn, zbo, zbp, zbq, zbr, zbs, zbt, zbu, X.ev_t, X.ev_c, Fr.gs, zbv, zbw, zbx, zby, zbz, zca, zcb, zcc, zcd, zce, zcf, zcg, zch, zci, zcj, zck, zcl, zcm, zcn, zco, zcp, zcq, zcr, zcs, zct, zcu, zcv, zcw, zcx, zcy, zcz, zda, zdb, zdc, zdd, zde, zdf, zdg, zdh, zdi, zdj, zdk, zdl, zdm, zdn, one_tt, one_ff, zdo, nthD, zdp, zdq, zdr, zds, zdt, zdu, zdv, zdw, ne_eq, not_false_eq_true, zdx, zdy, zdz, bsl0, zea, zeb, zec, zed, zee, zef, List.length_cons, List.length_nil, Nat.zero_add, Nat.le_refl, Nat.reduceLeDiff, Nat.add_zero, Option.map_some, Option.map_none, Int.ofNat_lt, Int.ofNat_le, Prod.mk.injEq, and_false, false_and, decide_true, decide_false, Bool.not_true, Bool.not_false, Nat.reduceLT, Nat.reduceEqDiff, Nat.reduceAdd, Nat.reduceSub, if_true, if_false, reduceIte, Int.cast_ofNat_Int, Nat.reduceBEq, Nat.reduceMul, Nat.reduceDiv, Nat.reduceMod, and_true, true_and, and_self, reduceCtorEq, eq_self, zeg, zeh, zei, zej, zek, zel, zem, zen]
end Go.Im
open Go
set_option maxRecDepth 20000
namespace Go.Im
def ClausesOf (h : H) (v : V) (ls : List (List Lt)) : Prop := ∃ vs : List V, SlOf h v 1 (vs.map fun x => [x]) ∧ vs.length = ls.length ∧ ∀ (i : Nat) (x : V) (l : List Lt), vs[i]? = some x → ls[i]? = some l → LitsOf h x l
theorem ClausesOf.grew {h h' : H} {v : V} {ls : List (List Lt)} (s : ClausesOf h v ls) (hk : h.ok) (g : Grew h h') : ClausesOf h' v ls := let ⟨vs, a, b, c⟩ := s; ⟨vs, a.grew hk g, b, fun i x l hx hl => (c i x l hx hl).grew hk g⟩
theorem ClausesOf.vlen {h : H} {v : V} {ls : List (List Lt)} (s : ClausesOf h v ls) : vLen false v = some (.int .i64 (ls.length : Nat)) := by
  obtain ⟨vs, a, b, _⟩ := s
  have := a.vlen
  rw [← b]; simpa using this
theorem ClausesOf.addr {h : H} {v : V} {ls : List (List Lt)} (s : ClausesOf h v ls) {i : Nat} (hi : i < ls.length) : vIasl 1 v (.int .i64 (i : Int)) = some (elP v 1 i) := by
  obtain ⟨vs, a, b, _⟩ := s
  exact SlOf.addr a (by simpa [b] using hi)
theorem ClausesOf.load {h : H} {v : V} {ls : List (List Lt)} (s : ClausesOf h v ls) {i : Nat} {l : List Lt} (hl : ls[i]? = some l) : ∃ x, ldV h false 1 (elP v 1 i) = some x ∧ LitsOf h x l := by
  obtain ⟨vs, a, b, c⟩ := s
  have hi : i < ls.length := by
    rcases Nat.lt_or_ge i ls.length with h | h
    · exact h
    · rw [List.getElem?_eq_none h] at hl; cases hl
  obtain ⟨x, hx⟩ : ∃ x, vs[i]? = some x := ⟨vs[i]'(by omega), List.getElem?_eq_getElem (by omega)⟩
  refine ⟨x, ?_, c i x l hx hl⟩
  have := SlOf.load a (i := i) (e := [x]) (by simp [hx]) false
  rw [this]; rfl
theorem resolve1_ok {out next : List Lt} {a : Int} {p n : Lt} (hp : p = if (a, false) ∈ out ∧ (a, true) ∈ next then (a, false) else (a, true)) (hn : n = if (a, false) ∈ out ∧ (a, true) ∈ next then (a, true) else (a, false)) : Law.resolve1 out next a = if p ∈ out ∧ n ∈ next then some (joined out next p n) else none := by
  unfold Law.resolve1 joined
  by_cases h : (a, false) ∈ out ∧ (a, true) ∈ next
  · rw [if_pos h] at hp hn ⊢
    subst hp; subst hn
    rw [if_pos h]
  · rw [if_neg h] at hp hn ⊢
    subst hp; subst hn; rfl
theorem joined_length (out next : List Lt) (p n : Lt) : (joined out next p n).length ≤ out.length + next.length := by
  unfold joined
  refine Nat.le_trans (Law.clauseR_length _) ?_
  rw [List.length_append]
  have := List.length_filter_le (fun x => decide (x ≠ p)) out
  have := List.length_filter_le (fun x => decide (x ≠ n)) next
  omega
theorem drop_cons {α : Type} {l : List α} {i : Nat} {x : α} (h : l[i]? = some x) : l.drop i = x :: l.drop (i + 1) := by
  have hj : i < l.length := by
    rcases Nat.lt_or_ge i l.length with h' | h'
    · exact h'
    · rw [List.getElem?_eq_none h'] at h; cases h
  rw [List.drop_eq_getElem_cons hj]
  rw [List.getElem?_eq_getElem hj] at h
  cases h; rfl
/-- what a resolution's call answers -/
def ResTo (Pr : Prog) (g : FuncId) (args : List V) (h h' : H) : Option (List Lt) → Prop
  | some out => ∃ v', FnTo Pr g args h (.tup [v', .bool true]) h' ∧ OwnL (pNat h.next) h' v' out
  | none => FnTo Pr g args h (.tup [.snil, .bool false]) h'
def ResV (h h' : H) (x : V) : Option (List Lt) → Prop
  | some out => ∃ v', x = .tup [v', .bool true] ∧ OwnL (pNat h.next) h' v' out
  | none => x = .tup [.snil, .bool false]
variable (u : Ob)
theorem f28 {v w : V} {c : List Lt} {ls : List (List Lt)} {pv : List Int} {h : H} (hk : h.ok) (s : ClausesOf h v (c :: ls)) (r : IntsOf h w pv) (hlen : ls.length = pv.length) (hn : pv.length ≤ 100) (hc : ∀ l ∈ c :: ls, l.length ≤ 100) :
    ∃ h', ResTo (PrL u) 28 [v, w] h h' (Law.resolveAll c ls pv) ∧ Grew h h' := by
  have key : wFn (PrL u) 28 [v, w] h fun x h' => ResV h h' x (Law.resolveAll c ls pv) ∧ Grew h h' := by
    refine wFn_run rfl F28_eq rfl ?_
    obtain ⟨v0, hv0, s0⟩ := s.load (i := 0) rfl
    have a0 : vIasl 1 v (.int .i64 0) = some (elP v 1 0) := s.addr (i := 0) (by simp)
    have hc0 := hc c (by simp)
    obtain ⟨o0, h1, c1, ow1, g1⟩ := f78 u hk s0 (by omega)
    simp only [F28, zaa, zab, zac, zad, zae, zaf, zag, zah, zai, zaj, zak, zal, zam, zan, zao, zap, zaq, zar, zas, zat, zau, zav, zaw, zax, zay, zaz, zba, zbb, zbc, zbd, zbe, zbf, zbg, zbh, zbi, zbj, zbk, zbl, zbm, zbn, zbo, zbp, zbq, zbr, zbs, zbt, zbu, X.ev_t, X.ev_c, Fr.gs, zbv, zbw, zbx, zby, zbz, zca, zcb, zcc, zcd, zce, zcf, zcg, zch, zci, zcj, zck, zcl, zcm, zcn, zco, zcp, zcq, zcr, zcs, zct, zcu, zcv, zcw, zcx, zcy, zcz, zda, zdb, zdc, zdd, zde, zdf, zdg, zdh, zdi, zdj, zdk, zdl, zdm, zdn, one_tt, one_ff, zdo, nthD, zdp, zdq, zdr, zds, zdt, zdu, zdv, zdw, ne_eq, not_false_eq_true, zdx, zdy, zdz, bsl0, zea, zeb, zec, zed, zee, zef, List.length_cons, List.length_nil, Nat.zero_add, Nat.le_refl, Nat.reduceLeDiff, Nat.add_zero, Option.map_some, Option.map_none, Int.ofNat_lt, Int.ofNat_le, Prod.mk.injEq, and_false, false_and, decide_true, decide_false, Bool.not_true, Bool.not_false, Nat.reduceLT, Nat.reduceEqDiff, Nat.reduceAdd, Nat.reduceSub, if_true, if_false, reduceIte, Int.cast_ofNat_Int, Nat.reduceBEq, Nat.reduceMul, Nat.reduceDiv, Nat.reduceMod, and_true, true_and, and_self, reduceCtorEq, eq_self, zeg, zeh, zei, zej, zek, zel, zem, zen, a0, hv0, c1.cl, r.vlen]
    refine wk_loop (fun m t => ∃ (i : Nat) (fr : Fr) (h2 : H) (o : V) (out : List Lt), t = ⟨fr, [], h2⟩ ∧ Grew h h2 ∧ i ≤ pv.length ∧ m = pv.length - i ∧ OwnL (pNat h.next) h2 o out ∧ out.length ≤ 100 * (i + 1) ∧ Law.resolveAll out (ls.drop i) (pv.drop i) = Law.resolveAll c ls pv ∧
      fr.get (sOf 0) = v ∧ fr.get (sOf 6) = o ∧ fr.get (sOf 17) = w ∧ fr.get (sOf 18) = .int .i64 (pv.length : Nat) ∧ fr.get (sOf 19) = .int .i64 (i : Nat)) ?_ ⟨0, _, h1, o0, c, rfl, g1, Nat.zero_le _, rfl, ow1, by omega, rfl, ?_, ?_, ?_, ?_, ?_⟩
    · rintro m t ⟨i, fr, h2, o, out, rfl, g2, hi, rfl, ow, hol, hra, e0, e6, e17, e18, e19⟩
      by_cases hlt : i < pv.length
      · obtain ⟨a, ha⟩ : ∃ a, pv[i]? = some a := ⟨pv[i], List.getElem?_eq_getElem hlt⟩
        obtain ⟨next, hnx⟩ : ∃ a, ls[i]? = some a := ⟨ls[i]'(by omega), List.getElem?_eq_getElem (by omega)⟩
        have hnl := hc next (List.mem_cons_of_mem _ (List.mem_of_getElem? hnx))
        have s2 := s.grew hk g2
        have r2 := r.grew hk g2
        obtain ⟨nv, hnv, sn⟩ := s2.load (i := i + 1) (l := next) (by simpa using hnx)
        rw [drop_cons ha, drop_cons hnx] at hra
        simp only [Law.resolveAll] at hra
        -- the two variables
        have gA : Grew h2 (h2.new (bx (0, false))) := (Grew.refl g2.ok).new _
        have gB : Grew h2 ((h2.new (bx (0, false))).new (bx (0, false))) := gA.new _
        have b10 : Box ((h2.new (bx (0, false))).new (bx (0, false))) h2.next (0, false) := (box_new _ _).grew gA.ok ((Grew.refl gA.ok).new _)
        have b11 : Box ((h2.new (bx (0, false))).new (bx (0, false))) (pSucc h2.next) (0, false) := box_new (h2.new (bx (0, false))) _
        have hne : h2.next ≠ pSucc h2.next := zdw _
        have st1 := b10.st (a, false)
        have b11' := b11.other (c := h2.next) (o := bx (a, false)) fun e => hne e.symm
        have st2 := b11'.st (a, true)
        have gC : Grew h2 (((h2.new (bx (0, false))).new (bx (0, false))).set h2.next (bx (a, false))) := gB.set (Nat.le_refl _) (b10.lt gB.ok) _
        have gD := gC.set (f := pSucc h2.next) (by rw [pSucc_nat]; omega) (b11'.lt gC.ok) (bx (a, true))
        have B10 : Box _ h2.next (a, false) := (Box.same (h := ((h2.new (bx (0, false))).new (bx (0, false)))) (b := h2.next) (a, false)).other (c := pSucc h2.next) (o := bx (a, true)) hne
        have B11 := Box.same (h := ((h2.new (bx (0, false))).new (bx (0, false))).set h2.next (bx (a, false))) (b := pSucc h2.next) (a, true)
        generalize ((((h2.new (bx (0, false))).new (bx (0, false))).set h2.next (bx (a, false))).set (pSucc h2.next) (bx (a, true))) = hD at st2 gD B10 B11
        generalize (((h2.new (bx (0, false))).new (bx (0, false))).set h2.next (bx (a, false))) = hC at st1 st2 gC
        simp only [zaa, zab, zac, zad, zae, zaf, zag, zah, zai, zaj, zak, zal, zam, zan, zao, zap, zaq, zar, zas, zat, zau, zav, zaw, zax, zay, zaz, zba, zbb, zbc, zbd, zbe, zbf, zbg, zbh, zbi, zbj, zbk, zbl, zbm, zbn, zbo, zbp, zbq, zbr, zbs, zbt, zbu, X.ev_t, X.ev_c, Fr.gs, zbv, zbw, zbx, zby, zbz, zca, zcb, zcc, zcd, zce, zcf, zcg, zch, zci, zcj, zck, zcl, zcm, zcn, zco, zcp, zcq, zcr, zcs, zct, zcu, zcv, zcw, zcx, zcy, zcz, zda, zdb, zdc, zdd, zde, zdf, zdg, zdh, zdi, zdj, zdk, zdl, zdm, zdn, one_tt, one_ff, zdo, nthD, zdp, zdq, zdr, zds, zdt, zdu, zdv, zdw, ne_eq, not_false_eq_true, zdx, zdy, zdz, bsl0, zea, zeb, zec, zed, zee, zef, List.length_cons, List.length_nil, Nat.zero_add, Nat.le_refl, Nat.reduceLeDiff, Nat.add_zero, Option.map_some, Option.map_none, Int.ofNat_lt, Int.ofNat_le, Prod.mk.injEq, and_false, false_and, decide_true, decide_false, Bool.not_true, Bool.not_false, Nat.reduceLT, Nat.reduceEqDiff, Nat.reduceAdd, Nat.reduceSub, if_true, if_false, reduceIte, Int.cast_ofNat_Int, Nat.reduceBEq, Nat.reduceMul, Nat.reduceDiv, Nat.reduceMod, and_true, true_and, and_self, reduceCtorEq, eq_self, zeg, zeh, zei, zej, zek, zel, zem, zen, e0, e6, e17, e18, e19, hlt, r2.addr hlt, r2.load ha, wrap_succ (show i < 9223372036854775807 by omega), s2.addr (show i + 1 < (c :: ls).length by simp; omega), hnv, st1, st2]
        refine wk_A28 u (h0 := h2) (o := o) (nx := nv) (out := out) (next := next) (b10 := h2.next) (b11 := pSucc h2.next) (p := (a, false)) (n := (a, true)) gD ow.lits sn g2.ok B10 B11 hne (Nat.le_refl _) (by rw [pSucc_nat]; omega) (by omega) (by omega) ?_ ?_ ?_ ?_ ?_
        iterate 4 simp only [zaa, zab, zac, zad, zae, zaf, zag, zah, zai, zaj, zak, zal, zam, zan, zao, zap, zaq, zar, zas, zat, zau, zav, zaw, zax, zay, zaz, zba, zbb, zbc, zbd, zbe, zbf, zbg, zbh, zbi, zbj, zbk, zbl, zbm, zbn, zbo, zbp, zbq, zbr, zbs, zbt, zbu, X.ev_t, X.ev_c, Fr.gs, zbv, zbw, zbx, zby, zbz, zca, zcb, zcc, zcd, zce, zcf, zcg, zch, zci, zcj, zck, zcl, zcm, zcn, zco, zcp, zcq, zcr, zcs, zct, zcu, zcv, zcw, zcx, zcy, zcz, zda, zdb, zdc, zdd, zde, zdf, zdg, zdh, zdi, zdj, zdk, zdl, zdm, zdn, one_tt, one_ff, zdo, nthD, zdp, zdq, zdr, zds, zdt, zdu, zdv, zdw, ne_eq, not_false_eq_true, zdx, zdy, zdz, bsl0, zea, zeb, zec, zed, zee, zef, List.length_cons, List.length_nil, Nat.zero_add, Nat.le_refl, Nat.reduceLeDiff, Nat.add_zero, Option.map_some, Option.map_none, Int.ofNat_lt, Int.ofNat_le, Prod.mk.injEq, and_false, false_and, decide_true, decide_false, Bool.not_true, Bool.not_false, Nat.reduceLT, Nat.reduceEqDiff, Nat.reduceAdd, Nat.reduceSub, if_true, if_false, reduceIte, Int.cast_ofNat_Int, Nat.reduceBEq, Nat.reduceMul, Nat.reduceDiv, Nat.reduceMod, and_true, true_and, and_self, reduceCtorEq, eq_self, zeg, zeh, zei, zej, zek, zel, zem, zen, e6]
        intro fr1 h3 g3 D10 D11 k0 k17 k18 k19 k6 k9 k10 k11
        generalize hpp : (if (a, false) ∈ out ∧ (a, true) ∈ next then ((a, false) : Lt) else (a, true)) = p at D10
        generalize hnn : (if (a, false) ∈ out ∧ (a, true) ∈ next then ((a, true) : Lt) else (a, false)) = n at D11
        have hr1 := resolve1_ok hpp.symm hnn.symm
        simp only [zaa, zab, zac, zad, zae, zaf, zag, zah, zai, zaj, zak, zal, zam, zan, zao, zap, zaq, zar, zas, zat, zau, zav, zaw, zax, zay, zaz, zba, zbb, zbc, zbd, zbe, zbf, zbg, zbh, zbi, zbj, zbk, zbl, zbm, zbn, zbo, zbp, zbq, zbr, zbs, zbt, zbu, X.ev_t, X.ev_c, Fr.gs, zbv, zbw, zbx, zby, zbz, zca, zcb, zcc, zcd, zce, zcf, zcg, zch, zci, zcj, zck, zcl, zcm, zcn, zco, zcp, zcq, zcr, zcs, zct, zcu, zcv, zcw, zcx, zcy, zcz, zda, zdb, zdc, zdd, zde, zdf, zdg, zdh, zdi, zdj, zdk, zdl, zdm, zdn, one_tt, one_ff, zdo, nthD, zdp, zdq, zdr, zds, zdt, zdu, zdv, zdw, ne_eq, not_false_eq_true, zdx, zdy, zdz, bsl0, zea, zeb, zec, zed, zee, zef, List.length_cons, List.length_nil, Nat.zero_add, Nat.le_refl, Nat.reduceLeDiff, Nat.add_zero, Option.map_some, Option.map_none, Int.ofNat_lt, Int.ofNat_le, Prod.mk.injEq, and_false, false_and, decide_true, decide_false, Bool.not_true, Bool.not_false, Nat.reduceLT, Nat.reduceEqDiff, Nat.reduceAdd, Nat.reduceSub, if_true, if_false, reduceIte, Int.cast_ofNat_Int, Nat.reduceBEq, Nat.reduceMul, Nat.reduceDiv, Nat.reduceMod, and_true, true_and, and_self, reduceCtorEq, eq_self, zeg, zeh, zei, zej, zek, zel, zem, zen]
        refine wk_B28 u (h0 := h2) (o := o) (nx := nv) (out := out) (next := next) (b10 := h2.next) (b11 := pSucc h2.next) (p := p) (n := n) g3 ow.lits sn g2.ok D10 D11 (by omega) (by omega) k6 k9 k10 k11 (fun hyes => ?_) (fun hno => ?_)
        · rw [if_pos hyes] at hr1
          rw [hr1] at hra
          intro fr2 h4 g4 j0 j17 j18 j19 j6 j9 j10 j11
          simp only [zaa, zab, zac, zad, zae, zaf, zag, zah, zai, zaj, zak, zal, zam, zan, zao, zap, zaq, zar, zas, zat, zau, zav, zaw, zax, zay, zaz, zba, zbb, zbc, zbd, zbe, zbf, zbg, zbh, zbi, zbj, zbk, zbl, zbm, zbn, zbo, zbp, zbq, zbr, zbs, zbt, zbu, X.ev_t, X.ev_c, Fr.gs, zbv, zbw, zbx, zby, zbz, zca, zcb, zcc, zcd, zce, zcf, zcg, zch, zci, zcj, zck, zcl, zcm, zcn, zco, zcp, zcq, zcr, zcs, zct, zcu, zcv, zcw, zcx, zcy, zcz, zda, zdb, zdc, zdd, zde, zdf, zdg, zdh, zdi, zdj, zdk, zdl, zdm, zdn, one_tt, one_ff, zdo, nthD, zdp, zdq, zdr, zds, zdt, zdu, zdv, zdw, ne_eq, not_false_eq_true, zdx, zdy, zdz, bsl0, zea, zeb, zec, zed, zee, zef, List.length_cons, List.length_nil, Nat.zero_add, Nat.le_refl, Nat.reduceLeDiff, Nat.add_zero, Option.map_some, Option.map_none, Int.ofNat_lt, Int.ofNat_le, Prod.mk.injEq, and_false, false_and, decide_true, decide_false, Bool.not_true, Bool.not_false, Nat.reduceLT, Nat.reduceEqDiff, Nat.reduceAdd, Nat.reduceSub, if_true, if_false, reduceIte, Int.cast_ofNat_Int, Nat.reduceBEq, Nat.reduceMul, Nat.reduceDiv, Nat.reduceMod, and_true, true_and, and_self, reduceCtorEq, eq_self, zeg, zeh, zei, zej, zek, zel, zem, zen]
          have g34 := g3.trans g4
          refine wk_T28 u (h0 := h) (h := h4) (bd := pNat h.next) (o := o) (nx := nv) (out := out) (next := next) (b10 := h2.next) (b11 := pSucc h2.next) (p := p) (n := n) (g2.trans g34) (Nat.le_refl _) (g2.trans g34).next (ow.grew g2.ok g34) (sn.grew g2.ok g34) (D10.grew g3.ok g4) (D11.grew g3.ok g4) (fun hf => by have := (ow.root g2.ok hf).2; omega) (by omega) (by omega) j6 j9 j10 j11 ?_
          intro fr3 v' h5 g5 o5 i0 i17 i18 i19 i6
          rw [j0, k0] at i0
          rw [j17, k17] at i17
          rw [j18, k18] at i18
          rw [j19, k19] at i19
          simp only [zaa, zab, zac, zad, zae, zaf, zag, zah, zai, zaj, zak, zal, zam, zan, zao, zap, zaq, zar, zas, zat, zau, zav, zaw, zax, zay, zaz, zba, zbb, zbc, zbd, zbe, zbf, zbg, zbh, zbi, zbj, zbk, zbl, zbm, zbn, zbo, zbp, zbq, zbr, zbs, zbt, zbu, X.ev_t, X.ev_c, Fr.gs, zbv, zbw, zbx, zby, zbz, zca, zcb, zcc, zcd, zce, zcf, zcg, zch, zci, zcj, zck, zcl, zcm, zcn, zco, zcp, zcq, zcr, zcs, zct, zcu, zcv, zcw, zcx, zcy, zcz, zda, zdb, zdc, zdd, zde, zdf, zdg, zdh, zdi, zdj, zdk, zdl, zdm, zdn, one_tt, one_ff, zdo, nthD, zdp, zdq, zdr, zds, zdt, zdu, zdv, zdw, ne_eq, not_false_eq_true, zdx, zdy, zdz, bsl0, zea, zeb, zec, zed, zee, zef, List.length_cons, List.length_nil, Nat.zero_add, Nat.le_refl, Nat.reduceLeDiff, Nat.add_zero, Option.map_some, Option.map_none, Int.ofNat_lt, Int.ofNat_le, Prod.mk.injEq, and_false, false_and, decide_true, decide_false, Bool.not_true, Bool.not_false, Nat.reduceLT, Nat.reduceEqDiff, Nat.reduceAdd, Nat.reduceSub, if_true, if_false, reduceIte, Int.cast_ofNat_Int, Nat.reduceBEq, Nat.reduceMul, Nat.reduceDiv, Nat.reduceMod, and_true, true_and, and_self, reduceCtorEq, eq_self, zeg, zeh, zei, zej, zek, zel, zem, zen, e0, e17, e18, e19] at i0 i17 i18 i19
          simp only [zaa, zab, zac, zad, zae, zaf, zag, zah, zai, zaj, zak, zal, zam, zan, zao, zap, zaq, zar, zas, zat, zau, zav, zaw, zax, zay, zaz, zba, zbb, zbc, zbd, zbe, zbf, zbg, zbh, zbi, zbj, zbk, zbl, zbm, zbn, zbo, zbp, zbq, zbr, zbs, zbt, zbu, X.ev_t, X.ev_c, Fr.gs, zbv, zbw, zbx, zby, zbz, zca, zcb, zcc, zcd, zce, zcf, zcg, zch, zci, zcj, zck, zcl, zcm, zcn, zco, zcp, zcq, zcr, zcs, zct, zcu, zcv, zcw, zcx, zcy, zcz, zda, zdb, zdc, zdd, zde, zdf, zdg, zdh, zdi, zdj, zdk, zdl, zdm, zdn, one_tt, one_ff, zdo, nthD, zdp, zdq, zdr, zds, zdt, zdu, zdv, zdw, ne_eq, not_false_eq_true, zdx, zdy, zdz, bsl0, zea, zeb, zec, zed, zee, zef, List.length_cons, List.length_nil, Nat.zero_add, Nat.le_refl, Nat.reduceLeDiff, Nat.add_zero, Option.map_some, Option.map_none, Int.ofNat_lt, Int.ofNat_le, Prod.mk.injEq, and_false, false_and, decide_true, decide_false, Bool.not_true, Bool.not_false, Nat.reduceLT, Nat.reduceEqDiff, Nat.reduceAdd, Nat.reduceSub, if_true, if_false, reduceIte, Int.cast_ofNat_Int, Nat.reduceBEq, Nat.reduceMul, Nat.reduceDiv, Nat.reduceMod, and_true, true_and, and_self, reduceCtorEq, eq_self, zeg, zeh, zei, zej, zek, zel, zem, zen, i19, wrap_succ (show i < 9223372036854775807 by omega)]
          have hjl := joined_length out next p n
          refine ⟨pv.length - (i + 1), by omega, i + 1, _, h5, v', _, rfl, g5, by omega, rfl, o5, by omega, hra, ?_, ?_, ?_, ?_, ?_⟩
          all_goals simp only [zaa, zab, zac, zad, zae, zaf, zag, zah, zai, zaj, zak, zal, zam, zan, zao, zap, zaq, zar, zas, zat, zau, zav, zaw, zax, zay, zaz, zba, zbb, zbc, zbd, zbe, zbf, zbg, zbh, zbi, zbj, zbk, zbl, zbm, zbn, zbo, zbp, zbq, zbr, zbs, zbt, zbu, X.ev_t, X.ev_c, Fr.gs, zbv, zbw, zbx, zby, zbz, zca, zcb, zcc, zcd, zce, zcf, zcg, zch, zci, zcj, zck, zcl, zcm, zcn, zco, zcp, zcq, zcr, zcs, zct, zcu, zcv, zcw, zcx, zcy, zcz, zda, zdb, zdc, zdd, zde, zdf, zdg, zdh, zdi, zdj, zdk, zdl, zdm, zdn, one_tt, one_ff, zdo, nthD, zdp, zdq, zdr, zds, zdt, zdu, zdv, zdw, ne_eq, not_false_eq_true, zdx, zdy, zdz, bsl0, zea, zeb, zec, zed, zee, zef, List.length_cons, List.length_nil, Nat.zero_add, Nat.le_refl, Nat.reduceLeDiff, Nat.add_zero, Option.map_some, Option.map_none, Int.ofNat_lt, Int.ofNat_le, Prod.mk.injEq, and_false, false_and, decide_true, decide_false, Bool.not_true, Bool.not_false, Nat.reduceLT, Nat.reduceEqDiff, Nat.reduceAdd, Nat.reduceSub, if_true, if_false, reduceIte, Int.cast_ofNat_Int, Nat.reduceBEq, Nat.reduceMul, Nat.reduceDiv, Nat.reduceMod, and_true, true_and, and_self, reduceCtorEq, eq_self, zeg, zeh, zei, zej, zek, zel, zem, zen, i0, i6, i17, i18]
        · rw [if_neg hno] at hr1
          rw [hr1] at hra
          intro fr2 h4 g4 j4 j5
          simp only [zaa, zab, zac, zad, zae, zaf, zag, zah, zai, zaj, zak, zal, zam, zan, zao, zap, zaq, zar, zas, zat, zau, zav, zaw, zax, zay, zaz, zba, zbb, zbc, zbd, zbe, zbf, zbg, zbh, zbi, zbj, zbk, zbl, zbm, zbn, zbo, zbp, zbq, zbr, zbs, zbt, zbu, X.ev_t, X.ev_c, Fr.gs, zbv, zbw, zbx, zby, zbz, zca, zcb, zcc, zcd, zce, zcf, zcg, zch, zci, zcj, zck, zcl, zcm, zcn, zco, zcp, zcq, zcr, zcs, zct, zcu, zcv, zcw, zcx, zcy, zcz, zda, zdb, zdc, zdd, zde, zdf, zdg, zdh, zdi, zdj, zdk, zdl, zdm, zdn, one_tt, one_ff, zdo, nthD, zdp, zdq, zdr, zds, zdt, zdu, zdv, zdw, ne_eq, not_false_eq_true, zdx, zdy, zdz, bsl0, zea, zeb, zec, zed, zee, zef, List.length_cons, List.length_nil, Nat.zero_add, Nat.le_refl, Nat.reduceLeDiff, Nat.add_zero, Option.map_some, Option.map_none, Int.ofNat_lt, Int.ofNat_le, Prod.mk.injEq, and_false, false_and, decide_true, decide_false, Bool.not_true, Bool.not_false, Nat.reduceLT, Nat.reduceEqDiff, Nat.reduceAdd, Nat.reduceSub, if_true, if_false, reduceIte, Int.cast_ofNat_Int, Nat.reduceBEq, Nat.reduceMul, Nat.reduceDiv, Nat.reduceMod, and_true, true_and, and_self, reduceCtorEq, eq_self, zeg, zeh, zei, zej, zek, zel, zem, zen, j4, j5]
          rw [← hra]
          exact ⟨rfl, g2.trans (g3.trans g4)⟩
      · have : i = pv.length := by omega
        subst this
        rw [List.drop_of_length_le (Nat.le_refl _)] at hra
        have hra : some out = Law.resolveAll c ls pv := by rw [← hra]; unfold Law.resolveAll; split <;> simp_all
        simp only [zaa, zab, zac, zad, zae, zaf, zag, zah, zai, zaj, zak, zal, zam, zan, zao, zap, zaq, zar, zas, zat, zau, zav, zaw, zax, zay, zaz, zba, zbb, zbc, zbd, zbe, zbf, zbg, zbh, zbi, zbj, zbk, zbl, zbm, zbn, zbo, zbp, zbq, zbr, zbs, zbt, zbu, X.ev_t, X.ev_c, Fr.gs, zbv, zbw, zbx, zby, zbz, zca, zcb, zcc, zcd, zce, zcf, zcg, zch, zci, zcj, zck, zcl, zcm, zcn, zco, zcp, zcq, zcr, zcs, zct, zcu, zcv, zcw, zcx, zcy, zcz, zda, zdb, zdc, zdd, zde, zdf, zdg, zdh, zdi, zdj, zdk, zdl, zdm, zdn, one_tt, one_ff, zdo, nthD, zdp, zdq, zdr, zds, zdt, zdu, zdv, zdw, ne_eq, not_false_eq_true, zdx, zdy, zdz, bsl0, zea, zeb, zec, zed, zee, zef, List.length_cons, List.length_nil, Nat.zero_add, Nat.le_refl, Nat.reduceLeDiff, Nat.add_zero, Option.map_some, Option.map_none, Int.ofNat_lt, Int.ofNat_le, Prod.mk.injEq, and_false, false_and, decide_true, decide_false, Bool.not_true, Bool.not_false, Nat.reduceLT, Nat.reduceEqDiff, Nat.reduceAdd, Nat.reduceSub, if_true, if_false, reduceIte, Int.cast_ofNat_Int, Nat.reduceBEq, Nat.reduceMul, Nat.reduceDiv, Nat.reduceMod, and_true, true_and, and_self, reduceCtorEq, eq_self, zeg, zeh, zei, zej, zek, zel, zem, zen, e6, e17, e18, e19, Int.lt_irrefl]
        rw [← hra]
        exact ⟨⟨o, rfl, ow⟩, g2⟩
    all_goals simp only [zaa, zab, zac, zad, zae, zaf, zag, zah, zai, zaj, zak, zal, zam, zan, zao, zap, zaq, zar, zas, zat, zau, zav, zaw, zax, zay, zaz, zba, zbb, zbc, zbd, zbe, zbf, zbg, zbh, zbi, zbj, zbk, zbl, zbm, zbn, zbo, zbp, zbq, zbr, zbs, zbt, zbu, X.ev_t, X.ev_c, Fr.gs, zbv, zbw, zbx, zby, zbz, zca, zcb, zcc, zcd, zce, zcf, zcg, zch, zci, zcj, zck, zcl, zcm, zcn, zco, zcp, zcq, zcr, zcs, zct, zcu, zcv, zcw, zcx, zcy, zcz, zda, zdb, zdc, zdd, zde, zdf, zdg, zdh, zdi, zdj, zdk, zdl, zdm, zdn, one_tt, one_ff, zdo, nthD, zdp, zdq, zdr, zds, zdt, zdu, zdv, zdw, ne_eq, not_false_eq_true, zdx, zdy, zdz, bsl0, zea, zeb, zec, zed, zee, zef, List.length_cons, List.length_nil, Nat.zero_add, Nat.le_refl, Nat.reduceLeDiff, Nat.add_zero, Option.map_some, Option.map_none, Int.ofNat_lt, Int.ofNat_le, Prod.mk.injEq, and_false, false_and, decide_true, decide_false, Bool.not_true, Bool.not_false, Nat.reduceLT, Nat.reduceEqDiff, Nat.reduceAdd, Nat.reduceSub, if_true, if_false, reduceIte, Int.cast_ofNat_Int, Nat.reduceBEq, Nat.reduceMul, Nat.reduceDiv, Nat.reduceMod, and_true, true_and, and_self, reduceCtorEq, eq_self, zeg, zeh, zei, zej, zek, zel, zem, zen]
  obtain ⟨x, h', a, q, g⟩ := key.to
  refine ⟨h', ?_, g⟩
  cases hr : Law.resolveAll c ls pv with
  | none => rw [hr] at q; have q : x = _ := q; subst q; exact a
  | some out => rw [hr] at q; obtain ⟨v', rfl, ow⟩ := q; exact ⟨v', a, ow⟩
end Go.Im
open Go
set_option maxRecDepth 20000
namespace Go.Im
variable (u : Ob)
theorem wk_T32 {bd : Nat} {h0 h : H} {o v : V} {ls : List (List Lt)} {out next : List Lt} {b8 b9 : P} {p n : Lt} {i : Nat} {fr : Fr} {k : Ks} (g0 : Grew h0 h) (hbn : bd ≤ pNat h.next) (ho : LitsOf h o out) (s : ClausesOf h v ls) (hi : i < 1000) (hnx : ls[i + 1]? = some next) (B8 : Box h b8 p) (B9 : Box h b9 n)
    (hl : out.length ≤ 67108864) (hm : next.length ≤ 67108864) (e0 : fr.get (sOf 0) = v) (e6 : fr.get (sOf 6) = o) (e7 : fr.get (sOf 7) = .int .i64 (i : Nat)) (e8 : fr.get (sOf 8) = .ptr b8 0 0 2) (e9 : fr.get (sOf 9) = .ptr b9 0 0 2)
    (hR : ∀ fr' v' h', Grew h0 h' → OwnL bd h' v' (joined out next p n) → fr'.get (sOf 0) = fr.get (sOf 0) → fr'.get (sOf 1) = fr.get (sOf 1) → fr'.get (sOf 7) = fr.get (sOf 7) → fr'.get (sOf 6) = v' → k.run (PrL u) (.norm ⟨fr', [], h'⟩)) : wk (PrL u) T32 ⟨fr, [], h⟩ k := by
  have hk := g0.ok
  have hil : i + 1 < ls.length := by
    rcases Nat.lt_or_ge (i + 1) ls.length with h | h
    · exact h
    · rw [List.getElem?_eq_none h] at hnx; cases hnx
  obtain ⟨nv, hnv, sn⟩ := s.load hnx
  obtain ⟨v62, h1, c1, o62, g1⟩ := f89 u p hk ho (by omega)
  obtain ⟨nv', hnv', sn'⟩ := (s.grew hk g1).load hnx
  have hnveq : ldV h1 false 1 (elP v 1 (i + 1)) = some nv := by
    obtain ⟨vs, a, b, c⟩ := s
    have hi' : i + 1 < vs.length := by omega
    have q1 := SlOf.load a (i := i + 1) (e := [vs[i + 1]]) (by simp [List.getElem?_eq_getElem hi']) false
    have q2 := SlOf.load (a.grew hk g1) (i := i + 1) (e := [vs[i + 1]]) (by simp [List.getElem?_eq_getElem hi']) false
    rw [q2, ← q1, hnv]
  obtain ⟨v69, h2, c2, o69, g2⟩ := f89 u n g1.ok (sn.grew hk g1) (by omega)
  have f1 := List.length_filter_le (fun x => decide (x ≠ p)) out
  have f2 := List.length_filter_le (fun x => decide (x ≠ n)) next
  obtain ⟨v70, h3, c3, o70, g3⟩ := app_grew (o62.grew g1.ok g2) o69.lits (g1.trans g2) (Nat.le_refl _) (g1.trans g2).next (by omega)
  obtain ⟨v71, h4, c4, o71, g4⟩ := f88 u g3.ok o70.lits (by rw [List.length_append]; omega)
  have l8 := B8.ld
  have l9 := B9.ld
  have l91 := (B9.grew hk g1).ld
  simp only [T32, zaa, zab, zac, zad, zae, zaf, zag, zah, zai, zaj, zak, zal, zam, zan, zao, zap, zaq, zar, zas, zat, zau, zav, zaw, zax, zay, zaz, zba, zbb, zbc, zbd, zbe, zbf, zbg, zbh, zbi, zbj, zbk, zbl, zbm, zbn, zbo, zbp, zbq, zbr, zbs, zbt, zbu, X.ev_t, X.ev_c, Fr.gs, zbv, zbw, zbx, zby, zbz, zca, zcb, zcc, zcd, zce, zcf, zcg, zch, zci, zcj, zck, zcl, zcm, zcn, zco, zcp, zcq, zcr, zcs, zct, zcu, zcv, zcw, zcx, zcy, zcz, zda, zdb, zdc, zdd, zde, zdf, zdg, zdh, zdi, zdj, zdk, zdl, zdm, zdn, one_tt, one_ff, zdo, nthD, zdp, zdq, zdr, zds, zdt, zdu, zdv, zdw, ne_eq, not_false_eq_true, zdx, zdy, zdz, bsl0, zea, zeb, zec, zed, zee, zef, List.length_cons, List.length_nil, Nat.zero_add, Nat.le_refl, Nat.reduceLeDiff, Nat.add_zero, Option.map_some, Option.map_none, Int.ofNat_lt, Int.ofNat_le, Prod.mk.injEq, and_false, false_and, decide_true, decide_false, Bool.not_true, Bool.not_false, Nat.reduceLT, Nat.reduceEqDiff, Nat.reduceAdd, Nat.reduceSub, if_true, if_false, reduceIte, Int.cast_ofNat_Int, Nat.reduceBEq, Nat.reduceMul, Nat.reduceDiv, Nat.reduceMod, and_true, true_and, and_self, reduceCtorEq, eq_self, zeg, zeh, zei, zej, zek, zel, zem, zen, e0, e6, e7, e8, e9, l8, l9, l91, wrap_succ (show i < 9223372036854775807 by omega), s.addr hil, hnv, c1.dcl, checks_cons, check_load, check_none, same_lit, same_lits sn, hnveq, List.any_cons, List.any_nil, beq_dec, Bool.or_false, Bool.or_self, Bool.or_true, c2.dcl, c3, dWr_eq, c4.dcl]
  refine hR _ v71 h4 (g0.trans (g3.trans g4)) (o71.mono (Nat.le_trans hbn g3.next)) ?_ ?_ ?_ ?_
  all_goals simp only [zaa, zab, zac, zad, zae, zaf, zag, zah, zai, zaj, zak, zal, zam, zan, zao, zap, zaq, zar, zas, zat, zau, zav, zaw, zax, zay, zaz, zba, zbb, zbc, zbd, zbe, zbf, zbg, zbh, zbi, zbj, zbk, zbl, zbm, zbn, zbo, zbp, zbq, zbr, zbs, zbt, zbu, X.ev_t, X.ev_c, Fr.gs, zbv, zbw, zbx, zby, zbz, zca, zcb, zcc, zcd, zce, zcf, zcg, zch, zci, zcj, zck, zcl, zcm, zcn, zco, zcp, zcq, zcr, zcs, zct, zcu, zcv, zcw, zcx, zcy, zcz, zda, zdb, zdc, zdd, zde, zdf, zdg, zdh, zdi, zdj, zdk, zdl, zdm, zdn, one_tt, one_ff, zdo, nthD, zdp, zdq, zdr, zds, zdt, zdu, zdv, zdw, ne_eq, not_false_eq_true, zdx, zdy, zdz, bsl0, zea, zeb, zec, zed, zee, zef, List.length_cons, List.length_nil, Nat.zero_add, Nat.le_refl, Nat.reduceLeDiff, Nat.add_zero, Option.map_some, Option.map_none, Int.ofNat_lt, Int.ofNat_le, Prod.mk.injEq, and_false, false_and, decide_true, decide_false, Bool.not_true, Bool.not_false, Nat.reduceLT, Nat.reduceEqDiff, Nat.reduceAdd, Nat.reduceSub, if_true, if_false, reduceIte, Int.cast_ofNat_Int, Nat.reduceBEq, Nat.reduceMul, Nat.reduceDiv, Nat.reduceMod, and_true, true_and, and_self, reduceCtorEq, eq_self, zeg, zeh, zei, zej, zek, zel, zem, zen]
theorem wk_A32 {h0 h : H} {o v : V} {ls : List (List Lt)} {out next : List Lt} {b8 b9 : P} {p n : Lt} {i : Nat} {fr : Fr} {k : Ks} (g0 : Grew h0 h) (ho : LitsOf h0 o out) (s : ClausesOf h0 v ls) (hi : i < 1000) (hnx : ls[i + 1]? = some next) (hk0 : h0.ok) (B8 : Box h b8 p) (B9 : Box h b9 n) (hne : b8 ≠ b9) (hb8 : pNat h0.next ≤ pNat b8) (hb9 : pNat h0.next ≤ pNat b9)
    (hl : out.length ≤ 67108864) (hm : next.length ≤ 67108864) (e0 : fr.get (sOf 0) = v) (e6 : fr.get (sOf 6) = o) (e7 : fr.get (sOf 7) = .int .i64 (i : Nat)) (e8 : fr.get (sOf 8) = .ptr b8 0 0 2) (e9 : fr.get (sOf 9) = .ptr b9 0 0 2)
    (hR : ∀ fr' h', Grew h0 h' → Box h' b8 (if p ∈ out ∧ n ∈ next then p else n) → Box h' b9 (if p ∈ out ∧ n ∈ next then n else p) → fr'.get (sOf 0) = v → fr'.get (sOf 1) = fr.get (sOf 1) → fr'.get (sOf 7) = .int .i64 (i : Nat) → fr'.get (sOf 6) = o → fr'.get (sOf 8) = .ptr b8 0 0 2 → fr'.get (sOf 9) = .ptr b9 0 0 2 → k.run (PrL u) (.norm ⟨fr', [], h'⟩)) : wk (PrL u) A32 ⟨fr, [], h⟩ k := by
  have swap : ∀ h1, Grew h h1 → ∃ h2 h3, stV h1 2 (.ptr b8 0 0 2) (lv n) = some (.tup [], h2) ∧ stV h2 2 (.ptr b9 0 0 2) (lv p) = some (.tup [], h3) ∧ Grew h0 h3 ∧ Box h3 b8 n ∧ Box h3 b9 p := fun h1 g1 => by
    have a1 := B8.grew g0.ok g1
    have a2 := B9.grew g0.ok g1
    have G1 := g0.trans g1
    have s2 : Grew h0 (h1.set b8 (bx n)) := G1.set hb8 (a1.lt g1.ok) _
    exact ⟨_, _, a1.st n, (a2.other fun e => hne e.symm).st p, s2.set hb9 (a2.lt g1.ok) _, (Box.same n).other hne, Box.same p⟩
  have hil : i + 1 < ls.length := by
    rcases Nat.lt_or_ge (i + 1) ls.length with h | h
    · exact h
    · rw [List.getElem?_eq_none h] at hnx; cases hnx
  have c1 := f87 u p g0.ok (ho.grew hk0 g0) (show out.length < 4611686018427387904 by omega)
  have g1 : Grew h (h.new (bx p)) := (Grew.refl g0.ok).new _
  have s1 := s.grew hk0 (g0.trans g1)
  obtain ⟨nv, hnv, sn⟩ := s1.load hnx
  have c2 := f87 u n g1.ok sn (show next.length < 4611686018427387904 by omega)
  have g2 : Grew (h.new (bx p)) ((h.new (bx p)).new (bx n)) := (Grew.refl g1.ok).new _
  generalize hh1 : h.new (bx p) = h1 at c1 c2 g1 g2 s1 sn hnv
  generalize hh2 : h1.new (bx n) = h2 at c2 g2
  have l8 := B8.ld
  have l9 := B9.ld
  have l81 := (B8.grew g0.ok g1).ld
  have l91 := (B9.grew g0.ok g1).ld
  have l82 := (B8.grew g0.ok (g1.trans g2)).ld
  have l92 := (B9.grew g0.ok (g1.trans g2)).ld
  by_cases hp : p ∈ out
  · by_cases hn : n ∈ next
    · simp only [hp, hn, decide_true] at c1 c2
      rw [if_pos ⟨hp, hn⟩, if_pos ⟨hp, hn⟩] at hR
      simp only [A32, zaa, zab, zac, zad, zae, zaf, zag, zah, zai, zaj, zak, zal, zam, zan, zao, zap, zaq, zar, zas, zat, zau, zav, zaw, zax, zay, zaz, zba, zbb, zbc, zbd, zbe, zbf, zbg, zbh, zbi, zbj, zbk, zbl, zbm, zbn, zbo, zbp, zbq, zbr, zbs, zbt, zbu, X.ev_t, X.ev_c, Fr.gs, zbv, zbw, zbx, zby, zbz, zca, zcb, zcc, zcd, zce, zcf, zcg, zch, zci, zcj, zck, zcl, zcm, zcn, zco, zcp, zcq, zcr, zcs, zct, zcu, zcv, zcw, zcx, zcy, zcz, zda, zdb, zdc, zdd, zde, zdf, zdg, zdh, zdi, zdj, zdk, zdl, zdm, zdn, one_tt, one_ff, zdo, nthD, zdp, zdq, zdr, zds, zdt, zdu, zdv, zdw, ne_eq, not_false_eq_true, zdx, zdy, zdz, bsl0, zea, zeb, zec, zed, zee, zef, List.length_cons, List.length_nil, Nat.zero_add, Nat.le_refl, Nat.reduceLeDiff, Nat.add_zero, Option.map_some, Option.map_none, Int.ofNat_lt, Int.ofNat_le, Prod.mk.injEq, and_false, false_and, decide_true, decide_false, Bool.not_true, Bool.not_false, Nat.reduceLT, Nat.reduceEqDiff, Nat.reduceAdd, Nat.reduceSub, if_true, if_false, reduceIte, Int.cast_ofNat_Int, Nat.reduceBEq, Nat.reduceMul, Nat.reduceDiv, Nat.reduceMod, and_true, true_and, and_self, reduceCtorEq, eq_self, zeg, zeh, zei, zej, zek, zel, zem, zen, e0, e6, e7, e8, e9, l8, l91, c1.dcl, c2.dcl, wrap_succ (show i < 9223372036854775807 by omega), s1.addr hil, hnv]
      refine hR _ h2 (g0.trans (g1.trans g2)) (B8.grew g0.ok (g1.trans g2)) (B9.grew g0.ok (g1.trans g2)) ?_ ?_ ?_ ?_ ?_ ?_
      all_goals simp only [zaa, zab, zac, zad, zae, zaf, zag, zah, zai, zaj, zak, zal, zam, zan, zao, zap, zaq, zar, zas, zat, zau, zav, zaw, zax, zay, zaz, zba, zbb, zbc, zbd, zbe, zbf, zbg, zbh, zbi, zbj, zbk, zbl, zbm, zbn, zbo, zbp, zbq, zbr, zbs, zbt, zbu, X.ev_t, X.ev_c, Fr.gs, zbv, zbw, zbx, zby, zbz, zca, zcb, zcc, zcd, zce, zcf, zcg, zch, zci, zcj, zck, zcl, zcm, zcn, zco, zcp, zcq, zcr, zcs, zct, zcu, zcv, zcw, zcx, zcy, zcz, zda, zdb, zdc, zdd, zde, zdf, zdg, zdh, zdi, zdj, zdk, zdl, zdm, zdn, one_tt, one_ff, zdo, nthD, zdp, zdq, zdr, zds, zdt, zdu, zdv, zdw, ne_eq, not_false_eq_true, zdx, zdy, zdz, bsl0, zea, zeb, zec, zed, zee, zef, List.length_cons, List.length_nil, Nat.zero_add, Nat.le_refl, Nat.reduceLeDiff, Nat.add_zero, Option.map_some, Option.map_none, Int.ofNat_lt, Int.ofNat_le, Prod.mk.injEq, and_false, false_and, decide_true, decide_false, Bool.not_true, Bool.not_false, Nat.reduceLT, Nat.reduceEqDiff, Nat.reduceAdd, Nat.reduceSub, if_true, if_false, reduceIte, Int.cast_ofNat_Int, Nat.reduceBEq, Nat.reduceMul, Nat.reduceDiv, Nat.reduceMod, and_true, true_and, and_self, reduceCtorEq, eq_self, zeg, zeh, zei, zej, zek, zel, zem, zen, e0, e6, e7, e8, e9]
    · simp only [hp, hn, decide_true, decide_false] at c1 c2
      rw [if_neg fun q => hn q.2, if_neg fun q => hn q.2] at hR
      obtain ⟨h3, h4, w1, w2, g4, D8, D9⟩ := swap _ (g1.trans g2)
      simp only [A32, zaa, zab, zac, zad, zae, zaf, zag, zah, zai, zaj, zak, zal, zam, zan, zao, zap, zaq, zar, zas, zat, zau, zav, zaw, zax, zay, zaz, zba, zbb, zbc, zbd, zbe, zbf, zbg, zbh, zbi, zbj, zbk, zbl, zbm, zbn, zbo, zbp, zbq, zbr, zbs, zbt, zbu, X.ev_t, X.ev_c, Fr.gs, zbv, zbw, zbx, zby, zbz, zca, zcb, zcc, zcd, zce, zcf, zcg, zch, zci, zcj, zck, zcl, zcm, zcn, zco, zcp, zcq, zcr, zcs, zct, zcu, zcv, zcw, zcx, zcy, zcz, zda, zdb, zdc, zdd, zde, zdf, zdg, zdh, zdi, zdj, zdk, zdl, zdm, zdn, one_tt, one_ff, zdo, nthD, zdp, zdq, zdr, zds, zdt, zdu, zdv, zdw, ne_eq, not_false_eq_true, zdx, zdy, zdz, bsl0, zea, zeb, zec, zed, zee, zef, List.length_cons, List.length_nil, Nat.zero_add, Nat.le_refl, Nat.reduceLeDiff, Nat.add_zero, Option.map_some, Option.map_none, Int.ofNat_lt, Int.ofNat_le, Prod.mk.injEq, and_false, false_and, decide_true, decide_false, Bool.not_true, Bool.not_false, Nat.reduceLT, Nat.reduceEqDiff, Nat.reduceAdd, Nat.reduceSub, if_true, if_false, reduceIte, Int.cast_ofNat_Int, Nat.reduceBEq, Nat.reduceMul, Nat.reduceDiv, Nat.reduceMod, and_true, true_and, and_self, reduceCtorEq, eq_self, zeg, zeh, zei, zej, zek, zel, zem, zen, e0, e6, e7, e8, e9, l8, l91, c1.dcl, c2.dcl, wrap_succ (show i < 9223372036854775807 by omega), s1.addr hil, hnv, l82, l92, w1, w2]
      refine hR _ h4 g4 D8 D9 ?_ ?_ ?_ ?_ ?_ ?_
      all_goals simp only [zaa, zab, zac, zad, zae, zaf, zag, zah, zai, zaj, zak, zal, zam, zan, zao, zap, zaq, zar, zas, zat, zau, zav, zaw, zax, zay, zaz, zba, zbb, zbc, zbd, zbe, zbf, zbg, zbh, zbi, zbj, zbk, zbl, zbm, zbn, zbo, zbp, zbq, zbr, zbs, zbt, zbu, X.ev_t, X.ev_c, Fr.gs, zbv, zbw, zbx, zby, zbz, zca, zcb, zcc, zcd, zce, zcf, zcg, zch, zci, zcj, zck, zcl, zcm, zcn, zco, zcp, zcq, zcr, zcs, zct, zcu, zcv, zcw, zcx, zcy, zcz, zda, zdb, zdc, zdd, zde, zdf, zdg, zdh, zdi, zdj, zdk, zdl, zdm, zdn, one_tt, one_ff, zdo, nthD, zdp, zdq, zdr, zds, zdt, zdu, zdv, zdw, ne_eq, not_false_eq_true, zdx, zdy, zdz, bsl0, zea, zeb, zec, zed, zee, zef, List.length_cons, List.length_nil, Nat.zero_add, Nat.le_refl, Nat.reduceLeDiff, Nat.add_zero, Option.map_some, Option.map_none, Int.ofNat_lt, Int.ofNat_le, Prod.mk.injEq, and_false, false_and, decide_true, decide_false, Bool.not_true, Bool.not_false, Nat.reduceLT, Nat.reduceEqDiff, Nat.reduceAdd, Nat.reduceSub, if_true, if_false, reduceIte, Int.cast_ofNat_Int, Nat.reduceBEq, Nat.reduceMul, Nat.reduceDiv, Nat.reduceMod, and_true, true_and, and_self, reduceCtorEq, eq_self, zeg, zeh, zei, zej, zek, zel, zem, zen, e0, e6, e7, e8, e9]
  · simp only [hp, decide_false] at c1
    rw [if_neg fun q => hp q.1, if_neg fun q => hp q.1] at hR
    obtain ⟨h3, h4, w1, w2, g4, D8, D9⟩ := swap _ g1
    simp only [A32, zaa, zab, zac, zad, zae, zaf, zag, zah, zai, zaj, zak, zal, zam, zan, zao, zap, zaq, zar, zas, zat, zau, zav, zaw, zax, zay, zaz, zba, zbb, zbc, zbd, zbe, zbf, zbg, zbh, zbi, zbj, zbk, zbl, zbm, zbn, zbo, zbp, zbq, zbr, zbs, zbt, zbu, X.ev_t, X.ev_c, Fr.gs, zbv, zbw, zbx, zby, zbz, zca, zcb, zcc, zcd, zce, zcf, zcg, zch, zci, zcj, zck, zcl, zcm, zcn, zco, zcp, zcq, zcr, zcs, zct, zcu, zcv, zcw, zcx, zcy, zcz, zda, zdb, zdc, zdd, zde, zdf, zdg, zdh, zdi, zdj, zdk, zdl, zdm, zdn, one_tt, one_ff, zdo, nthD, zdp, zdq, zdr, zds, zdt, zdu, zdv, zdw, ne_eq, not_false_eq_true, zdx, zdy, zdz, bsl0, zea, zeb, zec, zed, zee, zef, List.length_cons, List.length_nil, Nat.zero_add, Nat.le_refl, Nat.reduceLeDiff, Nat.add_zero, Option.map_some, Option.map_none, Int.ofNat_lt, Int.ofNat_le, Prod.mk.injEq, and_false, false_and, decide_true, decide_false, Bool.not_true, Bool.not_false, Nat.reduceLT, Nat.reduceEqDiff, Nat.reduceAdd, Nat.reduceSub, if_true, if_false, reduceIte, Int.cast_ofNat_Int, Nat.reduceBEq, Nat.reduceMul, Nat.reduceDiv, Nat.reduceMod, and_true, true_and, and_self, reduceCtorEq, eq_self, zeg, zeh, zei, zej, zek, zel, zem, zen, e0, e6, e7, e8, e9, l8, c1.dcl, l81, l91, w1, w2]
    refine hR _ h4 g4 D8 D9 ?_ ?_ ?_ ?_ ?_ ?_
    all_goals simp only [zaa, zab, zac, zad, zae, zaf, zag, zah, zai, zaj, zak, zal, zam, zan, zao, zap, zaq, zar, zas, zat, zau, zav, zaw, zax, zay, zaz, zba, zbb, zbc, zbd, zbe, zbf, zbg, zbh, zbi, zbj, zbk, zbl, zbm, zbn, zbo, zbp, zbq, zbr, zbs, zbt, zbu, X.ev_t, X.ev_c, Fr.gs, zbv, zbw, zbx, zby, zbz, zca, zcb, zcc, zcd, zce, zcf, zcg, zch, zci, zcj, zck, zcl, zcm, zcn, zco, zcp, zcq, zcr, zcs, zct, zcu, zcv, zcw, zcx, zcy, zcz, zda, zdb, zdc, zdd, zde, zdf, zdg, zdh, zdi, zdj, zdk, zdl, zdm, zdn, one_tt, one_ff, zdo, nthD, zdp, zdq, zdr, zds, zdt, zdu, zdv, zdw, ne_eq, not_false_eq_true, zdx, zdy, zdz, bsl0, zea, zeb, zec, zed, zee, zef, List.length_cons, List.length_nil, Nat.zero_add, Nat.le_refl, Nat.reduceLeDiff, Nat.add_zero, Option.map_some, Option.map_none, Int.ofNat_lt, Int.ofNat_le, Prod.mk.injEq, and_false, false_and, decide_true, decide_false, Bool.not_true, Bool.not_false, Nat.reduceLT, Nat.reduceEqDiff, Nat.reduceAdd, Nat.reduceSub, if_true, if_false, reduceIte, Int.cast_ofNat_Int, Nat.reduceBEq, Nat.reduceMul, Nat.reduceDiv, Nat.reduceMod, and_true, true_and, and_self, reduceCtorEq, eq_self, zeg, zeh, zei, zej, zek, zel, zem, zen, e0, e6, e7, e8, e9]
theorem wk_B32 {h0 h : H} {o v : V} {ls : List (List Lt)} {out next : List Lt} {b8 b9 : P} {p n : Lt} {i : Nat} {fr : Fr} {k : Ks} (g0 : Grew h0 h) (ho : LitsOf h0 o out) (s : ClausesOf h0 v ls) (hi : i < 1000) (hnx : ls[i + 1]? = some next) (hk0 : h0.ok) (B8 : Box h b8 p) (B9 : Box h b9 n)
    (hl : out.length ≤ 67108864) (hm : next.length ≤ 67108864) (e0 : fr.get (sOf 0) = v) (e6 : fr.get (sOf 6) = o) (e7 : fr.get (sOf 7) = .int .i64 (i : Nat)) (e8 : fr.get (sOf 8) = .ptr b8 0 0 2) (e9 : fr.get (sOf 9) = .ptr b9 0 0 2)
    (hR : p ∈ out ∧ n ∈ next → ∀ fr' h', Grew h h' → fr'.get (sOf 0) = v → fr'.get (sOf 1) = fr.get (sOf 1) → fr'.get (sOf 7) = .int .i64 (i : Nat) → fr'.get (sOf 6) = o → fr'.get (sOf 8) = .ptr b8 0 0 2 → fr'.get (sOf 9) = .ptr b9 0 0 2 → k.run (PrL u) (.norm ⟨fr', [], h'⟩))
    (hN : ¬ (p ∈ out ∧ n ∈ next) → ∀ fr' h', Grew h h' → fr'.get (sOf 4) = .snil → fr'.get (sOf 5) = .bool false → k.run (PrL u) (.ret ⟨fr', [], h'⟩)) : wk (PrL u) B32 ⟨fr, [], h⟩ k := by
  have hil : i + 1 < ls.length := by
    rcases Nat.lt_or_ge (i + 1) ls.length with h | h
    · exact h
    · rw [List.getElem?_eq_none h] at hnx; cases hnx
  have c1 := f87 u p g0.ok (ho.grew hk0 g0) (show out.length < 4611686018427387904 by omega)
  have g1 : Grew h (h.new (bx p)) := (Grew.refl g0.ok).new _
  have s1 := s.grew hk0 (g0.trans g1)
  obtain ⟨nv, hnv, sn⟩ := s1.load hnx
  have c2 := f87 u n g1.ok sn (show next.length < 4611686018427387904 by omega)
  have g2 : Grew (h.new (bx p)) ((h.new (bx p)).new (bx n)) := (Grew.refl g1.ok).new _
  generalize hh1 : h.new (bx p) = h1 at c1 c2 g1 g2 s1 sn hnv
  generalize hh2 : h1.new (bx n) = h2 at c2 g2
  have l8 := B8.ld
  have l91 := (B9.grew g0.ok g1).ld
  by_cases hp : p ∈ out
  · by_cases hn : n ∈ next
    · simp only [hp, hn, decide_true] at c1 c2
      simp only [B32, zaa, zab, zac, zad, zae, zaf, zag, zah, zai, zaj, zak, zal, zam, zan, zao, zap, zaq, zar, zas, zat, zau, zav, zaw, zax, zay, zaz, zba, zbb, zbc, zbd, zbe, zbf, zbg, zbh, zbi, zbj, zbk, zbl, zbm, zbn, zbo, zbp, zbq, zbr, zbs, zbt, zbu, X.ev_t, X.ev_c, Fr.gs, zbv, zbw, zbx, zby, zbz, zca, zcb, zcc, zcd, zce, zcf, zcg, zch, zci, zcj, zck, zcl, zcm, zcn, zco, zcp, zcq, zcr, zcs, zct, zcu, zcv, zcw, zcx, zcy, zcz, zda, zdb, zdc, zdd, zde, zdf, zdg, zdh, zdi, zdj, zdk, zdl, zdm, zdn, one_tt, one_ff, zdo, nthD, zdp, zdq, zdr, zds, zdt, zdu, zdv, zdw, ne_eq, not_false_eq_true, zdx, zdy, zdz, bsl0, zea, zeb, zec, zed, zee, zef, List.length_cons, List.length_nil, Nat.zero_add, Nat.le_refl, Nat.reduceLeDiff, Nat.add_zero, Option.map_some, Option.map_none, Int.ofNat_lt, Int.ofNat_le, Prod.mk.injEq, and_false, false_and, decide_true, decide_false, Bool.not_true, Bool.not_false, Nat.reduceLT, Nat.reduceEqDiff, Nat.reduceAdd, Nat.reduceSub, if_true, if_false, reduceIte, Int.cast_ofNat_Int, Nat.reduceBEq, Nat.reduceMul, Nat.reduceDiv, Nat.reduceMod, and_true, true_and, and_self, reduceCtorEq, eq_self, zeg, zeh, zei, zej, zek, zel, zem, zen, e0, e6, e7, e8, e9, l8, l91, c1.dcl, c2.dcl, wrap_succ (show i < 9223372036854775807 by omega), s1.addr hil, hnv]
      refine hR ⟨hp, hn⟩ _ h2 (g1.trans g2) ?_ ?_ ?_ ?_ ?_ ?_
      all_goals simp only [zaa, zab, zac, zad, zae, zaf, zag, zah, zai, zaj, zak, zal, zam, zan, zao, zap, zaq, zar, zas, zat, zau, zav, zaw, zax, zay, zaz, zba, zbb, zbc, zbd, zbe, zbf, zbg, zbh, zbi, zbj, zbk, zbl, zbm, zbn, zbo, zbp, zbq, zbr, zbs, zbt, zbu, X.ev_t, X.ev_c, Fr.gs, zbv, zbw, zbx, zby, zbz, zca, zcb, zcc, zcd, zce, zcf, zcg, zch, zci, zcj, zck, zcl, zcm, zcn, zco, zcp, zcq, zcr, zcs, zct, zcu, zcv, zcw, zcx, zcy, zcz, zda, zdb, zdc, zdd, zde, zdf, zdg, zdh, zdi, zdj, zdk, zdl, zdm, zdn, one_tt, one_ff, zdo, nthD, zdp, zdq, zdr, zds, zdt, zdu, zdv, zdw, ne_eq, not_false_eq_true, zdx, zdy, zdz, bsl0, zea, zeb, zec, zed, zee, zef, List.length_cons, List.length_nil, Nat.zero_add, Nat.le_refl, Nat.reduceLeDiff, Nat.add_zero, Option.map_some, Option.map_none, Int.ofNat_lt, Int.ofNat_le, Prod.mk.injEq, and_false, false_and, decide_true, decide_false, Bool.not_true, Bool.not_false, Nat.reduceLT, Nat.reduceEqDiff, Nat.reduceAdd, Nat.reduceSub, if_true, if_false, reduceIte, Int.cast_ofNat_Int, Nat.reduceBEq, Nat.reduceMul, Nat.reduceDiv, Nat.reduceMod, and_true, true_and, and_self, reduceCtorEq, eq_self, zeg, zeh, zei, zej, zek, zel, zem, zen, e0, e6, e7, e8, e9]
    · simp only [hp, hn, decide_true, decide_false] at c1 c2
      simp only [B32, zaa, zab, zac, zad, zae, zaf, zag, zah, zai, zaj, zak, zal, zam, zan, zao, zap, zaq, zar, zas, zat, zau, zav, zaw, zax, zay, zaz, zba, zbb, zbc, zbd, zbe, zbf, zbg, zbh, zbi, zbj, zbk, zbl, zbm, zbn, zbo, zbp, zbq, zbr, zbs, zbt, zbu, X.ev_t, X.ev_c, Fr.gs, zbv, zbw, zbx, zby, zbz, zca, zcb, zcc, zcd, zce, zcf, zcg, zch, zci, zcj, zck, zcl, zcm, zcn, zco, zcp, zcq, zcr, zcs, zct, zcu, zcv, zcw, zcx, zcy, zcz, zda, zdb, zdc, zdd, zde, zdf, zdg, zdh, zdi, zdj, zdk, zdl, zdm, zdn, one_tt, one_ff, zdo, nthD, zdp, zdq, zdr, zds, zdt, zdu, zdv, zdw, ne_eq, not_false_eq_true, zdx, zdy, zdz, bsl0, zea, zeb, zec, zed, zee, zef, List.length_cons, List.length_nil, Nat.zero_add, Nat.le_refl, Nat.reduceLeDiff, Nat.add_zero, Option.map_some, Option.map_none, Int.ofNat_lt, Int.ofNat_le, Prod.mk.injEq, and_false, false_and, decide_true, decide_false, Bool.not_true, Bool.not_false, Nat.reduceLT, Nat.reduceEqDiff, Nat.reduceAdd, Nat.reduceSub, if_true, if_false, reduceIte, Int.cast_ofNat_Int, Nat.reduceBEq, Nat.reduceMul, Nat.reduceDiv, Nat.reduceMod, and_true, true_and, and_self, reduceCtorEq, eq_self, zeg, zeh, zei, zej, zek, zel, zem, zen, e0, e6, e7, e8, e9, l8, l91, c1.dcl, c2.dcl, wrap_succ (show i < 9223372036854775807 by omega), s1.addr hil, hnv]
      refine hN (fun q => hn q.2) _ h2 (g1.trans g2) ?_ ?_
      all_goals simp only [zaa, zab, zac, zad, zae, zaf, zag, zah, zai, zaj, zak, zal, zam, zan, zao, zap, zaq, zar, zas, zat, zau, zav, zaw, zax, zay, zaz, zba, zbb, zbc, zbd, zbe, zbf, zbg, zbh, zbi, zbj, zbk, zbl, zbm, zbn, zbo, zbp, zbq, zbr, zbs, zbt, zbu, X.ev_t, X.ev_c, Fr.gs, zbv, zbw, zbx, zby, zbz, zca, zcb, zcc, zcd, zce, zcf, zcg, zch, zci, zcj, zck, zcl, zcm, zcn, zco, zcp, zcq, zcr, zcs, zct, zcu, zcv, zcw, zcx, zcy, zcz, zda, zdb, zdc, zdd, zde, zdf, zdg, zdh, zdi, zdj, zdk, zdl, zdm, zdn, one_tt, one_ff, zdo, nthD, zdp, zdq, zdr, zds, zdt, zdu, zdv, zdw, ne_eq, not_false_eq_true, zdx, zdy, zdz, bsl0, zea, zeb, zec, zed, zee, zef, List.length_cons, List.length_nil, Nat.zero_add, Nat.le_refl, Nat.reduceLeDiff, Nat.add_zero, Option.map_some, Option.map_none, Int.ofNat_lt, Int.ofNat_le, Prod.mk.injEq, and_false, false_and, decide_true, decide_false, Bool.not_true, Bool.not_false, Nat.reduceLT, Nat.reduceEqDiff, Nat.reduceAdd, Nat.reduceSub, if_true, if_false, reduceIte, Int.cast_ofNat_Int, Nat.reduceBEq, Nat.reduceMul, Nat.reduceDiv, Nat.reduceMod, and_true, true_and, and_self, reduceCtorEq, eq_self, zeg, zeh, zei, zej, zek, zel, zem, zen]
  · simp only [hp, decide_false] at c1
    simp only [B32, zaa, zab, zac, zad, zae, zaf, zag, zah, zai, zaj, zak, zal, zam, zan, zao, zap, zaq, zar, zas, zat, zau, zav, zaw, zax, zay, zaz, zba, zbb, zbc, zbd, zbe, zbf, zbg, zbh, zbi, zbj, zbk, zbl, zbm, zbn, zbo, zbp, zbq, zbr, zbs, zbt, zbu, X.ev_t, X.ev_c, Fr.gs, zbv, zbw, zbx, zby, zbz, zca, zcb, zcc, zcd, zce, zcf, zcg, zch, zci, zcj, zck, zcl, zcm, zcn, zco, zcp, zcq, zcr, zcs, zct, zcu, zcv, zcw, zcx, zcy, zcz, zda, zdb, zdc, zdd, zde, zdf, zdg, zdh, zdi, zdj, zdk, zdl, zdm, zdn, one_tt, one_ff, zdo, nthD, zdp, zdq, zdr, zds, zdt, zdu, zdv, zdw, ne_eq, not_false_eq_true, zdx, zdy, zdz, bsl0, zea, zeb, zec, zed, zee, zef, List.length_cons, List.length_nil, Nat.zero_add, Nat.le_refl, Nat.reduceLeDiff, Nat.add_zero, Option.map_some, Option.map_none, Int.ofNat_lt, Int.ofNat_le, Prod.mk.injEq, and_false, false_and, decide_true, decide_false, Bool.not_true, Bool.not_false, Nat.reduceLT, Nat.reduceEqDiff, Nat.reduceAdd, Nat.reduceSub, if_true, if_false, reduceIte, Int.cast_ofNat_Int, Nat.reduceBEq, Nat.reduceMul, Nat.reduceDiv, Nat.reduceMod, and_true, true_and, and_self, reduceCtorEq, eq_self, zeg, zeh, zei, zej, zek, zel, zem, zen, e0, e6, e7, e8, e9, l8, c1.dcl]
    refine hN (fun q => hp q.1) _ h1 g1 ?_ ?_
    all_goals simp only [zaa, zab, zac, zad, zae, zaf, zag, zah, zai, zaj, zak, zal, zam, zan, zao, zap, zaq, zar, zas, zat, zau, zav, zaw, zax, zay, zaz, zba, zbb, zbc, zbd, zbe, zbf, zbg, zbh, zbi, zbj, zbk, zbl, zbm, zbn, zbo, zbp, zbq, zbr, zbs, zbt, zbu, X.ev_t, X.ev_c, Fr.gs, zbv, zbw, zbx, zby, zbz, zca, zcb, zcc, zcd, zce, zcf, zcg, zch, zci, zcj, zck, zcl, zcm, zcn, zco, zcp, zcq, zcr, zcs, zct, zcu, zcv, zcw, zcx, zcy, zcz, zda, zdb, zdc, zdd, zde, zdf, zdg, zdh, zdi, zdj, zdk, zdl, zdm, zdn, one_tt, one_ff, zdo, nthD, zdp, zdq, zdr, zds, zdt, zdu, zdv, zdw, ne_eq, not_false_eq_true, zdx, zdy, zdz, bsl0, zea, zeb, zec, zed, zee, zef, List.length_cons, List.length_nil, Nat.zero_add, Nat.le_refl, Nat.reduceLeDiff, Nat.add_zero, Option.map_some, Option.map_none, Int.ofNat_lt, Int.ofNat_le, Prod.mk.injEq, and_false, false_and, decide_true, decide_false, Bool.not_true, Bool.not_false, Nat.reduceLT, Nat.reduceEqDiff, Nat.reduceAdd, Nat.reduceSub, if_true, if_false, reduceIte, Int.cast_ofNat_Int, Nat.reduceBEq, Nat.reduceMul, Nat.reduceDiv, Nat.reduceMod, and_true, true_and, and_self, reduceCtorEq, eq_self, zeg, zeh, zei, zej, zek, zel, zem, zen]
end Go.Im
