/- A part of the proof that ProofResolves holds for every input of the given program: C14, C15, C16, C17. -/
import Derived.Test.YtmdaoiabedkpcaaGreatDoorQ07
set_option linter.unusedVariables false
set_option linter.unusedSimpArgs false
open Go
set_option maxRecDepth 20000
namespace Go.Im
variable (u : Ob)
theorem f32 {v w : V} {c : List Lt} {ls : List (List Lt)} {pv : List Int} {h : H} (hk : h.ok) (s : ClausesOf h v (c :: ls)) (r : IntsOf h w pv) (hlen : ls.length = pv.length) (hn : pv.length ≤ 100) (hc : ∀ l ∈ c :: ls, l.length ≤ 100) :
    ∃ h', ResTo (PrL u) 32 [v, w] h h' (Law.resolveAll c ls pv) ∧ Grew h h' := by
  have key : wFn (PrL u) 32 [v, w] h fun x h' => ResV h h' x (Law.resolveAll c ls pv) ∧ Grew h h' := by
    refine wFn_run rfl F32_eq rfl ?_
    have g0 : Grew h (h.new (.cells [] 0 0 .rw 54)) := (Grew.refl hk).new _
    have s' := s.grew hk g0
    obtain ⟨v0, hv0, s0⟩ := s'.load (i := 0) rfl
    have a0 : vIasl 1 v (.int .i64 0) = some (elP v 1 0) := s'.addr (i := 0) (by simp)
    have hc0 := hc c (by simp)
    obtain ⟨o0, h1, c1, ow1, g1⟩ := app_grew (own_empty hk) s0 g0 (Nat.le_refl _) g0.next (by simp; omega)
    simp only [F32, zaa, zab, zac, zad, zae, zaf, zag, zah, zai, zaj, zak, zal, zam, zan, zao, zap, zaq, zar, zas, zat, zau, zav, zaw, zax, zay, zaz, zba, zbb, zbc, zbd, zbe, zbf, zbg, zbh, zbi, zbj, zbk, zbl, zbm, zbn, zbo, zbp, zbq, zbr, zbs, zbt, zbu, X.ev_t, X.ev_c, Fr.gs, zbv, zbw, zbx, zby, zbz, zca, zcb, zcc, zcd, zce, zcf, zcg, zch, zci, zcj, zck, zcl, zcm, zcn, zco, zcp, zcq, zcr, zcs, zct, zcu, zcv, zcw, zcx, zcy, zcz, zda, zdb, zdc, zdd, zde, zdf, zdg, zdh, zdi, zdj, zdk, zdl, zdm, zdn, one_tt, one_ff, zdo, nthD, zdp, zdq, zdr, zds, zdt, zdu, zdv, zdw, ne_eq, not_false_eq_true, zdx, zdy, zdz, bsl0, zea, zeb, zec, zed, zee, zef, List.length_cons, List.length_nil, Nat.zero_add, Nat.le_refl, Nat.reduceLeDiff, Nat.add_zero, Option.map_some, Option.map_none, Int.ofNat_lt, Int.ofNat_le, Prod.mk.injEq, and_false, false_and, decide_true, decide_false, Bool.not_true, Bool.not_false, Nat.reduceLT, Nat.reduceEqDiff, Nat.reduceAdd, Nat.reduceSub, if_true, if_false, reduceIte, Int.cast_ofNat_Int, Nat.reduceBEq, Nat.reduceMul, Nat.reduceDiv, Nat.reduceMod, and_true, true_and, and_self, reduceCtorEq, eq_self, zeg, zeh, zei, zej, zek, zel, zem, zen, a0, hv0, c1]
    refine wk_loop (fun m t => ∃ (i : Nat) (fr : Fr) (h2 : H) (o : V) (out : List Lt), t = ⟨fr, [], h2⟩ ∧ Grew h h2 ∧ i ≤ pv.length ∧ m = pv.length - i ∧ OwnL (pNat h.next) h2 o out ∧ out.length ≤ 100 * (i + 1) ∧ Law.resolveAll out (ls.drop i) (pv.drop i) = Law.resolveAll c ls pv ∧
      fr.get (sOf 0) = v ∧ fr.get (sOf 1) = w ∧ fr.get (sOf 6) = o ∧ fr.get (sOf 7) = .int .i64 (i : Nat)) ?_ ⟨0, _, h1, o0, c, rfl, g1, Nat.zero_le _, rfl, ow1, by omega, rfl, ?_, ?_, ?_, ?_⟩
    · rintro m t ⟨i, fr, h2, o, out, rfl, g2, hi, rfl, ow, hol, hra, e0, e1, e6, e7⟩
      have r2 := r.grew hk g2
      by_cases hlt : i < pv.length
      · obtain ⟨a, ha⟩ : ∃ a, pv[i]? = some a := ⟨pv[i], List.getElem?_eq_getElem hlt⟩
        obtain ⟨next, hnx⟩ : ∃ a, ls[i]? = some a := ⟨ls[i]'(by omega), List.getElem?_eq_getElem (by omega)⟩
        have hnl := hc next (List.mem_cons_of_mem _ (List.mem_of_getElem? hnx))
        have s2 := s.grew hk g2
        have hnx' : (c :: ls)[i + 1]? = some next := by simpa using hnx
        rw [drop_cons ha, drop_cons hnx] at hra
        simp only [Law.resolveAll] at hra
        -- the two variables
        have gA : Grew h2 (h2.new (bx (0, false))) := (Grew.refl g2.ok).new _
        have gB : Grew h2 ((h2.new (bx (0, false))).new (bx (0, false))) := gA.new _
        have b80 : Box ((h2.new (bx (0, false))).new (bx (0, false))) h2.next (0, false) := (box_new _ _).grew gA.ok ((Grew.refl gA.ok).new _)
        have b90 : Box ((h2.new (bx (0, false))).new (bx (0, false))) (pSucc h2.next) (0, false) := box_new (h2.new (bx (0, false))) _
        have hne : h2.next ≠ pSucc h2.next := zdw _
        have c85 := f85 u a ((h2.new (bx (0, false))).new (bx (0, false)))
        have gC1 : Grew ((h2.new (bx (0, false))).new (bx (0, false))) (((h2.new (bx (0, false))).new (bx (0, false))).new (bx (a, false))) := (Grew.refl gB.ok).new _
        have c86 := f86 u a (((h2.new (bx (0, false))).new (bx (0, false))).new (bx (a, false)))
        have gC2 : Grew ((h2.new (bx (0, false))).new (bx (0, false))) ((((h2.new (bx (0, false))).new (bx (0, false))).new (bx (a, false))).new (bx (a, true))) := gC1.new _
        generalize ((((h2.new (bx (0, false))).new (bx (0, false))).new (bx (a, false))).new (bx (a, true))) = hE at c86 gC2
        have ra := (r2.grew g2.ok gB).grew gB.ok gC1
        generalize (((h2.new (bx (0, false))).new (bx (0, false))).new (bx (a, false))) = hC1 at c85 c86 gC1 ra
        have b8 := b80.grew gB.ok gC2
        have b9 := b90.grew gB.ok gC2
        have gE := gB.trans gC2
        have st1 := b8.st (a, false)
        have b9' := b9.other (c := h2.next) (o := bx (a, false)) fun e => hne e.symm
        have st2 := b9'.st (a, true)
        have gC : Grew h2 (hE.set h2.next (bx (a, false))) := gE.set (Nat.le_refl _) (b8.lt gE.ok) _
        have gD := gC.set (f := pSucc h2.next) (by rw [pSucc_nat]; omega) (b9'.lt gC.ok) (bx (a, true))
        have B8 : Box _ h2.next (a, false) := (Box.same (h := hE) (b := h2.next) (a, false)).other (c := pSucc h2.next) (o := bx (a, true)) hne
        have B9 := Box.same (h := hE.set h2.next (bx (a, false))) (b := pSucc h2.next) (a, true)
        generalize ((hE.set h2.next (bx (a, false))).set (pSucc h2.next) (bx (a, true))) = hD at st2 gD B8 B9
        generalize (hE.set h2.next (bx (a, false))) = hC at st1 st2 gC
        simp only [zaa, zab, zac, zad, zae, zaf, zag, zah, zai, zaj, zak, zal, zam, zan, zao, zap, zaq, zar, zas, zat, zau, zav, zaw, zax, zay, zaz, zba, zbb, zbc, zbd, zbe, zbf, zbg, zbh, zbi, zbj, zbk, zbl, zbm, zbn, zbo, zbp, zbq, zbr, zbs, zbt, zbu, X.ev_t, X.ev_c, Fr.gs, zbv, zbw, zbx, zby, zbz, zca, zcb, zcc, zcd, zce, zcf, zcg, zch, zci, zcj, zck, zcl, zcm, zcn, zco, zcp, zcq, zcr, zcs, zct, zcu, zcv, zcw, zcx, zcy, zcz, zda, zdb, zdc, zdd, zde, zdf, zdg, zdh, zdi, zdj, zdk, zdl, zdm, zdn, one_tt, one_ff, zdo, nthD, zdp, zdq, zdr, zds, zdt, zdu, zdv, zdw, ne_eq, not_false_eq_true, zdx, zdy, zdz, bsl0, zea, zeb, zec, zed, zee, zef, List.length_cons, List.length_nil, Nat.zero_add, Nat.le_refl, Nat.reduceLeDiff, Nat.add_zero, Option.map_some, Option.map_none, Int.ofNat_lt, Int.ofNat_le, Prod.mk.injEq, and_false, false_and, decide_true, decide_false, Bool.not_true, Bool.not_false, Nat.reduceLT, Nat.reduceEqDiff, Nat.reduceAdd, Nat.reduceSub, if_true, if_false, reduceIte, Int.cast_ofNat_Int, Nat.reduceBEq, Nat.reduceMul, Nat.reduceDiv, Nat.reduceMod, and_true, true_and, and_self, reduceCtorEq, eq_self, zeg, zeh, zei, zej, zek, zel, zem, zen, e0, e1, e6, e7, r2.vlen, hlt, r2.addr hlt, r2.load ha, ra.load ha, dMa_some g2.ok, dMa_some gA.ok, c85.dcl, c86.dcl, checks_cons, check_load, check_none, same_int, List.any_cons, List.any_nil, beq_dec, Bool.or_false, Bool.or_self, Bool.or_true, dWr_eq, st1, st2]
        refine wk_A32 u (h0 := h2) (o := o) (v := v) (ls := c :: ls) (i := i) (out := out) (next := next) (b8 := h2.next) (b9 := pSucc h2.next) (p := (a, false)) (n := (a, true)) gD ow.lits s2 (by omega) hnx' g2.ok B8 B9 hne (Nat.le_refl _) (by rw [pSucc_nat]; omega) (by omega) (by omega) ?_ ?_ ?_ ?_ ?_ ?_
        iterate 5 simp only [zaa, zab, zac, zad, zae, zaf, zag, zah, zai, zaj, zak, zal, zam, zan, zao, zap, zaq, zar, zas, zat, zau, zav, zaw, zax, zay, zaz, zba, zbb, zbc, zbd, zbe, zbf, zbg, zbh, zbi, zbj, zbk, zbl, zbm, zbn, zbo, zbp, zbq, zbr, zbs, zbt, zbu, X.ev_t, X.ev_c, Fr.gs, zbv, zbw, zbx, zby, zbz, zca, zcb, zcc, zcd, zce, zcf, zcg, zch, zci, zcj, zck, zcl, zcm, zcn, zco, zcp, zcq, zcr, zcs, zct, zcu, zcv, zcw, zcx, zcy, zcz, zda, zdb, zdc, zdd, zde, zdf, zdg, zdh, zdi, zdj, zdk, zdl, zdm, zdn, one_tt, one_ff, zdo, nthD, zdp, zdq, zdr, zds, zdt, zdu, zdv, zdw, ne_eq, not_false_eq_true, zdx, zdy, zdz, bsl0, zea, zeb, zec, zed, zee, zef, List.length_cons, List.length_nil, Nat.zero_add, Nat.le_refl, Nat.reduceLeDiff, Nat.add_zero, Option.map_some, Option.map_none, Int.ofNat_lt, Int.ofNat_le, Prod.mk.injEq, and_false, false_and, decide_true, decide_false, Bool.not_true, Bool.not_false, Nat.reduceLT, Nat.reduceEqDiff, Nat.reduceAdd, Nat.reduceSub, if_true, if_false, reduceIte, Int.cast_ofNat_Int, Nat.reduceBEq, Nat.reduceMul, Nat.reduceDiv, Nat.reduceMod, and_true, true_and, and_self, reduceCtorEq, eq_self, zeg, zeh, zei, zej, zek, zel, zem, zen, e0, e6, e7]
        intro fr1 h3 g3 D8 D9 k0 k1 k7 k6 k8 k9
        simp only [zaa, zab, zac, zad, zae, zaf, zag, zah, zai, zaj, zak, zal, zam, zan, zao, zap, zaq, zar, zas, zat, zau, zav, zaw, zax, zay, zaz, zba, zbb, zbc, zbd, zbe, zbf, zbg, zbh, zbi, zbj, zbk, zbl, zbm, zbn, zbo, zbp, zbq, zbr, zbs, zbt, zbu, X.ev_t, X.ev_c, Fr.gs, zbv, zbw, zbx, zby, zbz, zca, zcb, zcc, zcd, zce, zcf, zcg, zch, zci, zcj, zck, zcl, zcm, zcn, zco, zcp, zcq, zcr, zcs, zct, zcu, zcv, zcw, zcx, zcy, zcz, zda, zdb, zdc, zdd, zde, zdf, zdg, zdh, zdi, zdj, zdk, zdl, zdm, zdn, one_tt, one_ff, zdo, nthD, zdp, zdq, zdr, zds, zdt, zdu, zdv, zdw, ne_eq, not_false_eq_true, zdx, zdy, zdz, bsl0, zea, zeb, zec, zed, zee, zef, List.length_cons, List.length_nil, Nat.zero_add, Nat.le_refl, Nat.reduceLeDiff, Nat.add_zero, Option.map_some, Option.map_none, Int.ofNat_lt, Int.ofNat_le, Prod.mk.injEq, and_false, false_and, decide_true, decide_false, Bool.not_true, Bool.not_false, Nat.reduceLT, Nat.reduceEqDiff, Nat.reduceAdd, Nat.reduceSub, if_true, if_false, reduceIte, Int.cast_ofNat_Int, Nat.reduceBEq, Nat.reduceMul, Nat.reduceDiv, Nat.reduceMod, and_true, true_and, and_self, reduceCtorEq, eq_self, zeg, zeh, zei, zej, zek, zel, zem, zen, e1] at k1
        generalize hpp : (if (a, false) ∈ out ∧ (a, true) ∈ next then ((a, false) : Lt) else (a, true)) = p at D8
        generalize hnn : (if (a, false) ∈ out ∧ (a, true) ∈ next then ((a, true) : Lt) else (a, false)) = n at D9
        have hr1 := resolve1_ok hpp.symm hnn.symm
        simp only [zaa, zab, zac, zad, zae, zaf, zag, zah, zai, zaj, zak, zal, zam, zan, zao, zap, zaq, zar, zas, zat, zau, zav, zaw, zax, zay, zaz, zba, zbb, zbc, zbd, zbe, zbf, zbg, zbh, zbi, zbj, zbk, zbl, zbm, zbn, zbo, zbp, zbq, zbr, zbs, zbt, zbu, X.ev_t, X.ev_c, Fr.gs, zbv, zbw, zbx, zby, zbz, zca, zcb, zcc, zcd, zce, zcf, zcg, zch, zci, zcj, zck, zcl, zcm, zcn, zco, zcp, zcq, zcr, zcs, zct, zcu, zcv, zcw, zcx, zcy, zcz, zda, zdb, zdc, zdd, zde, zdf, zdg, zdh, zdi, zdj, zdk, zdl, zdm, zdn, one_tt, one_ff, zdo, nthD, zdp, zdq, zdr, zds, zdt, zdu, zdv, zdw, ne_eq, not_false_eq_true, zdx, zdy, zdz, bsl0, zea, zeb, zec, zed, zee, zef, List.length_cons, List.length_nil, Nat.zero_add, Nat.le_refl, Nat.reduceLeDiff, Nat.add_zero, Option.map_some, Option.map_none, Int.ofNat_lt, Int.ofNat_le, Prod.mk.injEq, and_false, false_and, decide_true, decide_false, Bool.not_true, Bool.not_false, Nat.reduceLT, Nat.reduceEqDiff, Nat.reduceAdd, Nat.reduceSub, if_true, if_false, reduceIte, Int.cast_ofNat_Int, Nat.reduceBEq, Nat.reduceMul, Nat.reduceDiv, Nat.reduceMod, and_true, true_and, and_self, reduceCtorEq, eq_self, zeg, zeh, zei, zej, zek, zel, zem, zen]
        refine wk_B32 u (h0 := h2) (o := o) (v := v) (ls := c :: ls) (i := i) (out := out) (next := next) (b8 := h2.next) (b9 := pSucc h2.next) (p := p) (n := n) g3 ow.lits s2 (by omega) hnx' g2.ok D8 D9 (by omega) (by omega) k0 k6 k7 k8 k9 (fun hyes => ?_) (fun hno => ?_)
        · rw [if_pos hyes] at hr1
          rw [hr1] at hra
          intro fr2 h4 g4 j0 j1 j7 j6 j8 j9
          simp only [zaa, zab, zac, zad, zae, zaf, zag, zah, zai, zaj, zak, zal, zam, zan, zao, zap, zaq, zar, zas, zat, zau, zav, zaw, zax, zay, zaz, zba, zbb, zbc, zbd, zbe, zbf, zbg, zbh, zbi, zbj, zbk, zbl, zbm, zbn, zbo, zbp, zbq, zbr, zbs, zbt, zbu, X.ev_t, X.ev_c, Fr.gs, zbv, zbw, zbx, zby, zbz, zca, zcb, zcc, zcd, zce, zcf, zcg, zch, zci, zcj, zck, zcl, zcm, zcn, zco, zcp, zcq, zcr, zcs, zct, zcu, zcv, zcw, zcx, zcy, zcz, zda, zdb, zdc, zdd, zde, zdf, zdg, zdh, zdi, zdj, zdk, zdl, zdm, zdn, one_tt, one_ff, zdo, nthD, zdp, zdq, zdr, zds, zdt, zdu, zdv, zdw, ne_eq, not_false_eq_true, zdx, zdy, zdz, bsl0, zea, zeb, zec, zed, zee, zef, List.length_cons, List.length_nil, Nat.zero_add, Nat.le_refl, Nat.reduceLeDiff, Nat.add_zero, Option.map_some, Option.map_none, Int.ofNat_lt, Int.ofNat_le, Prod.mk.injEq, and_false, false_and, decide_true, decide_false, Bool.not_true, Bool.not_false, Nat.reduceLT, Nat.reduceEqDiff, Nat.reduceAdd, Nat.reduceSub, if_true, if_false, reduceIte, Int.cast_ofNat_Int, Nat.reduceBEq, Nat.reduceMul, Nat.reduceDiv, Nat.reduceMod, and_true, true_and, and_self, reduceCtorEq, eq_self, zeg, zeh, zei, zej, zek, zel, zem, zen]
          have g34 := g3.trans g4
          refine wk_T32 u (h0 := h) (h := h4) (bd := pNat h.next) (o := o) (v := v) (ls := c :: ls) (i := i) (out := out) (next := next) (b8 := h2.next) (b9 := pSucc h2.next) (p := p) (n := n) (g2.trans g34) (g2.trans g34).next (ow.grew g2.ok g34).lits (s2.grew g2.ok g34) (by omega) hnx' (D8.grew g3.ok g4) (D9.grew g3.ok g4) (by omega) (by omega) j0 j6 j7 j8 j9 ?_
          intro fr3 v' h5 g5 o5 i0 i1 i7 i6
          rw [j0] at i0
          rw [j1, k1] at i1
          rw [j7] at i7
          simp only [zaa, zab, zac, zad, zae, zaf, zag, zah, zai, zaj, zak, zal, zam, zan, zao, zap, zaq, zar, zas, zat, zau, zav, zaw, zax, zay, zaz, zba, zbb, zbc, zbd, zbe, zbf, zbg, zbh, zbi, zbj, zbk, zbl, zbm, zbn, zbo, zbp, zbq, zbr, zbs, zbt, zbu, X.ev_t, X.ev_c, Fr.gs, zbv, zbw, zbx, zby, zbz, zca, zcb, zcc, zcd, zce, zcf, zcg, zch, zci, zcj, zck, zcl, zcm, zcn, zco, zcp, zcq, zcr, zcs, zct, zcu, zcv, zcw, zcx, zcy, zcz, zda, zdb, zdc, zdd, zde, zdf, zdg, zdh, zdi, zdj, zdk, zdl, zdm, zdn, one_tt, one_ff, zdo, nthD, zdp, zdq, zdr, zds, zdt, zdu, zdv, zdw, ne_eq, not_false_eq_true, zdx, zdy, zdz, bsl0, zea, zeb, zec, zed, zee, zef, List.length_cons, List.length_nil, Nat.zero_add, Nat.le_refl, Nat.reduceLeDiff, Nat.add_zero, Option.map_some, Option.map_none, Int.ofNat_lt, Int.ofNat_le, Prod.mk.injEq, and_false, false_and, decide_true, decide_false, Bool.not_true, Bool.not_false, Nat.reduceLT, Nat.reduceEqDiff, Nat.reduceAdd, Nat.reduceSub, if_true, if_false, reduceIte, Int.cast_ofNat_Int, Nat.reduceBEq, Nat.reduceMul, Nat.reduceDiv, Nat.reduceMod, and_true, true_and, and_self, reduceCtorEq, eq_self, zeg, zeh, zei, zej, zek, zel, zem, zen, i7, wrap_succ (show i < 9223372036854775807 by omega)]
          have hjl := joined_length out next p n
          refine ⟨pv.length - (i + 1), by omega, i + 1, _, h5, v', _, rfl, g5, by omega, rfl, o5, by omega, hra, ?_, ?_, ?_, ?_⟩
          all_goals simp only [zaa, zab, zac, zad, zae, zaf, zag, zah, zai, zaj, zak, zal, zam, zan, zao, zap, zaq, zar, zas, zat, zau, zav, zaw, zax, zay, zaz, zba, zbb, zbc, zbd, zbe, zbf, zbg, zbh, zbi, zbj, zbk, zbl, zbm, zbn, zbo, zbp, zbq, zbr, zbs, zbt, zbu, X.ev_t, X.ev_c, Fr.gs, zbv, zbw, zbx, zby, zbz, zca, zcb, zcc, zcd, zce, zcf, zcg, zch, zci, zcj, zck, zcl, zcm, zcn, zco, zcp, zcq, zcr, zcs, zct, zcu, zcv, zcw, zcx, zcy, zcz, zda, zdb, zdc, zdd, zde, zdf, zdg, zdh, zdi, zdj, zdk, zdl, zdm, zdn, one_tt, one_ff, zdo, nthD, zdp, zdq, zdr, zds, zdt, zdu, zdv, zdw, ne_eq, not_false_eq_true, zdx, zdy, zdz, bsl0, zea, zeb, zec, zed, zee, zef, List.length_cons, List.length_nil, Nat.zero_add, Nat.le_refl, Nat.reduceLeDiff, Nat.add_zero, Option.map_some, Option.map_none, Int.ofNat_lt, Int.ofNat_le, Prod.mk.injEq, and_false, false_and, decide_true, decide_false, Bool.not_true, Bool.not_false, Nat.reduceLT, Nat.reduceEqDiff, Nat.reduceAdd, Nat.reduceSub, if_true, if_false, reduceIte, Int.cast_ofNat_Int, Nat.reduceBEq, Nat.reduceMul, Nat.reduceDiv, Nat.reduceMod, and_true, true_and, and_self, reduceCtorEq, eq_self, zeg, zeh, zei, zej, zek, zel, zem, zen, i0, i1, i6]
        · rw [if_neg hno] at hr1
          rw [hr1] at hra
          intro fr2 h4 g4 j4 j5
          simp only [zaa, zab, zac, zad, zae, zaf, zag, zah, zai, zaj, zak, zal, zam, zan, zao, zap, zaq, zar, zas, zat, zau, zav, zaw, zax, zay, zaz, zba, zbb, zbc, zbd, zbe, zbf, zbg, zbh, zbi, zbj, zbk, zbl, zbm, zbn, zbo, zbp, zbq, zbr, zbs, zbt, zbu, X.ev_t, X.ev_c, Fr.gs, zbv, zbw, zbx, zby, zbz, zca, zcb, zcc, zcd, zce, zcf, zcg, zch, zci, zcj, zck, zcl, zcm, zcn, zco, zcp, zcq, zcr, zcs, zct, zcu, zcv, zcw, zcx, zcy, zcz, zda, zdb, zdc, zdd, zde, zdf, zdg, zdh, zdi, zdj, zdk, zdl, zdm, zdn, one_tt, one_ff, zdo, nthD, zdp, zdq, zdr, zds, zdt, zdu, zdv, zdw, ne_eq, not_false_eq_true, zdx, zdy, zdz, bsl0, zea, zeb, zec, zed, zee, zef, List.length_cons, List.length_nil, Nat.zero_add, Nat.le_refl, Nat.reduceLeDiff, Nat.add_zero, Option.map_some, Option.map_none, Int.ofNat_lt, Int.ofNat_le, Prod.mk.injEq, and_false, false_and, decide_true, decide_false, Bool.not_true, Bool.not_false, Nat.reduceLT, Nat.reduceEqDiff, Nat.reduceAdd, Nat.reduceSub, if_true, if_false, reduceIte, Int.cast_ofNat_Int, Nat.reduceBEq, Nat.reduceMul, Nat.reduceDiv, Nat.reduceMod, and_true, true_and, and_self, reduceCtorEq, eq_self, zeg, zeh, zei, zej, zek, zel, zem, zen, j4, j5]
          rw [← hra]
          exact ⟨rfl, g2.trans (g3.trans g4)⟩
      · have : i = pv.length := by omega
        subst this
        rw [List.drop_of_length_le (Nat.le_refl _)] at hra
        have hra : some out = Law.resolveAll c ls pv := by rw [← hra]; unfold Law.resolveAll; split <;> simp_all
        simp only [zaa, zab, zac, zad, zae, zaf, zag, zah, zai, zaj, zak, zal, zam, zan, zao, zap, zaq, zar, zas, zat, zau, zav, zaw, zax, zay, zaz, zba, zbb, zbc, zbd, zbe, zbf, zbg, zbh, zbi, zbj, zbk, zbl, zbm, zbn, zbo, zbp, zbq, zbr, zbs, zbt, zbu, X.ev_t, X.ev_c, Fr.gs, zbv, zbw, zbx, zby, zbz, zca, zcb, zcc, zcd, zce, zcf, zcg, zch, zci, zcj, zck, zcl, zcm, zcn, zco, zcp, zcq, zcr, zcs, zct, zcu, zcv, zcw, zcx, zcy, zcz, zda, zdb, zdc, zdd, zde, zdf, zdg, zdh, zdi, zdj, zdk, zdl, zdm, zdn, one_tt, one_ff, zdo, nthD, zdp, zdq, zdr, zds, zdt, zdu, zdv, zdw, ne_eq, not_false_eq_true, zdx, zdy, zdz, bsl0, zea, zeb, zec, zed, zee, zef, List.length_cons, List.length_nil, Nat.zero_add, Nat.le_refl, Nat.reduceLeDiff, Nat.add_zero, Option.map_some, Option.map_none, Int.ofNat_lt, Int.ofNat_le, Prod.mk.injEq, and_false, false_and, decide_true, decide_false, Bool.not_true, Bool.not_false, Nat.reduceLT, Nat.reduceEqDiff, Nat.reduceAdd, Nat.reduceSub, if_true, if_false, reduceIte, Int.cast_ofNat_Int, Nat.reduceBEq, Nat.reduceMul, Nat.reduceDiv, Nat.reduceMod, and_true, true_and, and_self, reduceCtorEq, eq_self, zeg, zeh, zei, zej, zek, zel, zem, zen, e1, e6, e7, r2.vlen, Int.lt_irrefl, Nat.lt_irrefl]
        rw [← hra]
        exact ⟨⟨o, rfl, ow⟩, g2⟩
    all_goals simp only [zaa, zab, zac, zad, zae, zaf, zag, zah, zai, zaj, zak, zal, zam, zan, zao, zap, zaq, zar, zas, zat, zau, zav, zaw, zax, zay, zaz, zba, zbb, zbc, zbd, zbe, zbf, zbg, zbh, zbi, zbj, zbk, zbl, zbm, zbn, zbo, zbp, zbq, zbr, zbs, zbt, zbu, X.ev_t, X.ev_c, Fr.gs, zbv, zbw, zbx, zby, zbz, zca, zcb, zcc, zcd, zce, zcf, zcg, zch, zci, zcj, zck, zcl, zcm, zcn, zco, zcp, zcq, zcr, zcs, zct, zcu, zcv, zcw, zcx, zcy, zcz, zda, zdb, zdc, zdd, zde, zdf, zdg, zdh, zdi, zdj, zdk, zdl, zdm, zdn, one_tt, one_ff, zdo, nthD, zdp, zdq, zdr, zds, zdt, zdu, zdv, zdw, ne_eq, not_false_eq_true, zdx, zdy, zdz, bsl0, zea, zeb, zec, zed, zee, zef, List.length_cons, List.length_nil, Nat.zero_add, Nat.le_refl, Nat.reduceLeDiff, Nat.add_zero, Option.map_some, Option.map_none, Int.ofNat_lt, Int.ofNat_le, Prod.mk.injEq, and_false, false_and, decide_true, decide_false, Bool.not_true, Bool.not_false, Nat.reduceLT, Nat.reduceEqDiff, Nat.reduceAdd, Nat.reduceSub, if_true, if_false, reduceIte, Int.cast_ofNat_Int, Nat.reduceBEq, Nat.reduceMul, Nat.reduceDiv, Nat.reduceMod, and_true, true_and, and_self, reduceCtorEq, eq_self, zeg, zeh, zei, zej, zek, zel, zem, zen]
  obtain ⟨x, h', a, q, g⟩ := key.to
  refine ⟨h', ?_, g⟩
  cases hr : Law.resolveAll c ls pv with
  | none => rw [hr] at q; have q : x = _ := q; subst q; exact a
  | some out => rw [hr] at q; obtain ⟨v', rfl, ow⟩ := q; exact ⟨v', a, ow⟩
end Go.Im
open Go
set_option maxRecDepth 20000
namespace Go.Im
theorem firstE_at : ∀ {l : List Nat} {i x : Nat}, l[i]? = some x → x ≠ 0 → (∀ j y, j < i → l[j]? = some y → y = 0) → Law.firstE l = x
  | [], i, x, h, _, _ => by simp at h
  | e :: l, 0, x, h, hx, _ => by simp at h; subst h; simp [Law.firstE, hx]
  | e :: l, i + 1, x, h, hx, hno => by
    have he : e = 0 := hno 0 e (by omega) (by simp)
    subst he
    simp only [Law.firstE, if_true]
    exact firstE_at (by simpa using h) hx fun j y hj hy => hno (j + 1) y (by omega) (by simpa using hy)
theorem firstE_zero : ∀ {l : List Nat}, (∀ j y, j < l.length → l[j]? = some y → y = 0) → Law.firstE l = 0
  | [], _ => rfl
  | e :: l, hno => by
    have he : e = 0 := hno 0 e (by simp) (by simp)
    subst he
    simp only [Law.firstE, if_true]
    exact firstE_zero fun j y hj hy => hno (j + 1) y (by simpa using hj) (by simpa using hy)
/-- the first three tests -/
def head3 (n m : Nat) : Int := firstI [if n = 0 then 10 else 0, if 100 < n then 5 else 0, if m + 1 ≠ n then 2 else 0]
theorem head3_ne {l : List (List Lt)} {pv : List Int} (h : head3 l.length pv.length ≠ 0) : Law.Resolve l pv = ([], (head3 l.length pv.length).toNat) ∧ ((head3 l.length pv.length).toNat : Int) = head3 l.length pv.length := by
  unfold Law.Resolve
  unfold head3 at h ⊢
  by_cases h1 : l.length = 0
  · simp [h1, firstI]
  · by_cases h2 : 100 < l.length
    · simp [h1, h2, firstI]
    · by_cases h3 : pv.length + 1 = l.length
      · simp [h1, h2, h3, firstI] at h
      · simp [h1, h2, h3, firstI]
theorem head3_eq {n m : Nat} (h : head3 n m = 0) : n ≠ 0 ∧ n ≤ 100 ∧ m + 1 = n := by
  unfold head3 at h
  by_cases h1 : n = 0
  · simp [h1, firstI] at h
  · by_cases h2 : 100 < n
    · simp [h1, h2, firstI] at h
    · by_cases h3 : m + 1 = n
      · exact ⟨h1, by omega, h3⟩
      · simp [h1, h2, h3, firstI] at h
theorem check3 (c : List Lt) : firstI [if 100 < c.length then 5 else 0, if (c.any fun x => decide (x.1 < 0)) = true then 3 else 0, if (!Law.ascB c) = true then 9 else 0] = (Law.checkC c : Int) := by
  unfold Law.checkC
  by_cases h1 : 100 < c.length
  · simp [h1, firstI]
  · cases h2 : c.any fun x => decide (x.1 < 0) <;> cases h3 : Law.ascB c <;> simp [h1, firstI]
theorem Resolve_bad {l : List (List Lt)} {pv : List Int} {i : Nat} {c : List Lt} (hd : head3 l.length pv.length = 0) (hc : l[i]? = some c) (hb : Law.checkC c ≠ 0) (hno : ∀ (j : Nat) (y : List Lt), j < i → l[j]? = some y → Law.checkC y = 0) : Law.Resolve l pv = ([], Law.checkC c) := by
  obtain ⟨a, b, d⟩ := head3_eq hd
  have e : Law.firstE (l.map Law.checkC) = Law.checkC c := firstE_at (i := i) (by simp [hc]) hb fun j y hj hy => by
    rw [List.getElem?_map] at hy
    cases hl : l[j]? with
    | none => rw [hl] at hy; cases hy
    | some z => rw [hl] at hy; cases hy; exact hno j z hj hl
  unfold Law.Resolve
  rw [if_neg a, if_neg (by omega), if_neg (by omega), e, if_pos hb]
theorem Resolve_good {c : List Lt} {ls : List (List Lt)} {pv : List Int} (hd : head3 (c :: ls).length pv.length = 0) (hno : ∀ (j : Nat) (y : List Lt), (c :: ls)[j]? = some y → Law.checkC y = 0) : Law.Resolve (c :: ls) pv = (match Law.resolveAll c ls pv with
      | none => ([], 29)
      | some out => if out.length > 100 then ([], 5) else (out, 0)) := by
  obtain ⟨a, b, d⟩ := head3_eq hd
  have e : Law.firstE ((c :: ls).map Law.checkC) = 0 := firstE_zero fun j y hj hy => by
    rw [List.getElem?_map] at hy
    cases hl : (c :: ls)[j]? with
    | none => rw [hl] at hy; cases hy
    | some z => rw [hl] at hy; cases hy; exact hno j z hl
  unfold Law.Resolve
  rw [if_neg a, if_neg (by omega), if_neg (by omega), e, if_neg (by simp)]
  rfl
def ResE (h h' : H) (x : V) (q : List Lt × Nat) : Prop := ∃ v', x = .tup [v', .int .i64 (q.2 : Nat)] ∧ LitsOf h' v' q.1 ∧ Grew h h'
theorem lits_nil (h : H) : LitsOf h .snil [] := ⟨by simp, .inl ⟨rfl, rfl⟩⟩
variable (u : Ob)
theorem pred26 (h : H) : PredOk (PrL u) (.fn (.func 26) [] []) (fun x => decide (x.1 < 0)) h := fun h1 g1 x => ⟨_, (f26 u x h1).val, (Grew.refl g1.ok).new _⟩
theorem tup0 (a b : V) : zdo 0 (.tup [a, b]) = some a := rfl
theorem tup1 (a b : V) : zdo 1 (.tup [a, b]) = some b := rfl
theorem if_dec {α : Type} (p : Prop) [Decidable p] (a b : α) : (if decide p = true then a else b) = if p then a else b := by by_cases h : p <;> simp [h]
theorem if_ndec {α : Type} (p : Prop) [Decidable p] (a b : α) : (if (!decide p) = true then a else b) = if ¬ p then a else b := by by_cases h : p <;> simp [h]
theorem ints3 {h : H} {ty : TypeId} (a b c : Int) : IntsOf (h.new (.cells [.int .i64 a, .int .i64 b, .int .i64 c] 0 0 .rw ty)) (.sl h.next 0 0 3 1 (some 3)) [a, b, c] := ints_new (l := [a, b, c]) rfl
theorem ints2 {h : H} {ty : TypeId} (a b : Int) : IntsOf (h.new (.cells [.int .i64 a, .int .i64 b] 0 0 .rw ty)) (.sl h.next 0 0 2 1 (some 2)) [a, b] := ints_new (l := [a, b]) rfl
theorem f23_3 {h : H} {a b c E : Int} (hE : firstI [a, b, c] = E) : FnTo (PrL u) 23 [.sl h.next 0 0 3 1 (some 3)] (h.new (.cells [.int .i64 a, .int .i64 b, .int .i64 c] 0 0 .rw 26)) (.int .i64 E) (h.new (.cells [.int .i64 a, .int .i64 b, .int .i64 c] 0 0 .rw 26)) := by
  subst hE; exact f23 u (ints3 _ _ _) (by simp)
theorem f23_2 {h : H} {a b E : Int} (hE : firstI [a, b] = E) : FnTo (PrL u) 23 [.sl h.next 0 0 2 1 (some 2)] (h.new (.cells [.int .i64 a, .int .i64 b] 0 0 .rw 26)) (.int .i64 E) (h.new (.cells [.int .i64 a, .int .i64 b] 0 0 .rw 26)) := by
  subst hE; exact f23 u (ints2 _ _) (by simp)
theorem res3 {ls : List (List Lt)} {h h' : H} {x : V} {c : List Lt} {r : List (List Lt)} {pv : List Int} (hls : ls = c :: r) (hd : head3 ls.length pv.length = 0) (hno : ∀ (j : Nat) (y : List Lt), ls[j]? = some y → Law.checkC y = 0) (g : Grew h h')
    (hN : Law.resolveAll c r pv = none → x = .tup [.snil, .int .i64 29]) (hS : ∀ out, Law.resolveAll c r pv = some out → (100 < out.length → x = .tup [.snil, .int .i64 5]) ∧ (¬ 100 < out.length → ∃ v', x = .tup [v', .int .i64 0] ∧ LitsOf h' v' out)) : ResE h h' x (Law.Resolve ls pv) := by
  subst hls
  rw [Resolve_good hd hno]
  cases hr : Law.resolveAll c r pv with
  | none => exact ⟨.snil, hN hr, lits_nil _, g⟩
  | some out =>
    obtain ⟨a, b⟩ := hS out hr
    by_cases ho : 100 < out.length
    · simp only [gt_iff_lt, ho, if_true]
      exact ⟨.snil, a ho, lits_nil _, g⟩
    · simp only [gt_iff_lt, ho, if_false]
      obtain ⟨v', e, l⟩ := b ho
      exact ⟨v', e, l, g⟩
theorem f5 {v w : V} {ls : List (List Lt)} {pv : List Int} {h : H} (hk : h.ok) (s : ClausesOf h v ls) (r : IntsOf h w pv) (hl : ls.length ≤ 102) (hn : pv.length ≤ 102) (hc : ∀ l ∈ ls, l.length ≤ 101) :
    ∃ x h', FnTo (PrL u) 5 [v, w] h x h' ∧ ResE h h' x (Law.Resolve ls pv) := by
  have key : wFn (PrL u) 5 [v, w] h fun x h' => ResE h h' x (Law.Resolve ls pv) := by
    refine wFn_run rfl F5_eq rfl ?_
    have c0 := f23_3 u (h := h) (show firstI [if ls.length = 0 then 10 else 0, if 100 < ls.length then 5 else 0, if pv.length + 1 ≠ ls.length then 2 else 0] = head3 ls.length pv.length from rfl)
    have gA := (Grew.refl hk).new (.cells [.int .i64 (if ls.length = 0 then 10 else 0), .int .i64 (if 100 < ls.length then 5 else 0), .int .i64 (if pv.length + 1 ≠ ls.length then 2 else 0)] 0 0 .rw 26)
    have w1 : wrapF .i64 ((ls.length : Int) - 1) = (ls.length : Int) - 1 := wrap_id (by omega) (by omega)
    have p1 : decide ((ls.length : Int) = 0) = decide (ls.length = 0) := by simp
    have p2 : decide ((100 : Int) < (ls.length : Int)) = decide (100 < ls.length) := by simp; omega
    have p3 : (!decide ((pv.length : Int) = (ls.length : Int) - 1)) = decide (pv.length + 1 ≠ ls.length) := by
      rw [Bool.eq_iff_iff]; simp; omega
    by_cases hd : head3 ls.length pv.length = 0
    rotate_left
    · simp only [F5, zaa, zab, zac, zad, zae, zaf, zag, zah, zai, zaj, zak, zal, zam, zan, zao, zap, zaq, zar, zas, zat, zau, zav, zaw, zax, zay, zaz, zba, zbb, zbc, zbd, zbe, zbf, zbg, zbh, zbi, zbj, zbk, zbl, zbm, zbn, zbo, zbp, zbq, zbr, zbs, zbt, zbu, X.ev_t, X.ev_c, Fr.gs, zbv, zbw, zbx, zby, zbz, zca, zcb, zcc, zcd, zce, zcf, zcg, zch, zci, zcj, zck, zcl, zcm, zcn, zco, zcp, zcq, zcr, zcs, zct, zcu, zcv, zcw, zcx, zcy, zcz, zda, zdb, zdc, zdd, zde, zdf, zdg, zdh, zdi, zdj, zdk, zdl, zdm, zdn, one_tt, one_ff, zdo, nthD, zdp, zdq, zdr, zds, zdt, zdu, zdv, zdw, ne_eq, not_false_eq_true, zdx, zdy, zdz, bsl0, zea, zeb, zec, zed, zee, zef, List.length_cons, List.length_nil, Nat.zero_add, Nat.le_refl, Nat.reduceLeDiff, Nat.add_zero, Option.map_some, Option.map_none, Int.ofNat_lt, Int.ofNat_le, Prod.mk.injEq, and_false, false_and, decide_true, decide_false, Bool.not_true, Bool.not_false, Nat.reduceLT, Nat.reduceEqDiff, Nat.reduceAdd, Nat.reduceSub, if_true, if_false, reduceIte, Int.cast_ofNat_Int, Nat.reduceBEq, Nat.reduceMul, Nat.reduceDiv, Nat.reduceMod, and_true, true_and, and_self, reduceCtorEq, eq_self, zeg, zeh, zei, zej, zek, zel, zem, zen, s.vlen, r.vlen, w1, p1, p2, p3, (f24 u _ _ _).cl, if_dec, c0.cl, hd]
      obtain ⟨q1, q2⟩ := head3_ne hd
      rw [q1]
      exact ⟨.snil, by rw [q2], lits_nil _, gA⟩
    · simp only [F5, zaa, zab, zac, zad, zae, zaf, zag, zah, zai, zaj, zak, zal, zam, zan, zao, zap, zaq, zar, zas, zat, zau, zav, zaw, zax, zay, zaz, zba, zbb, zbc, zbd, zbe, zbf, zbg, zbh, zbi, zbj, zbk, zbl, zbm, zbn, zbo, zbp, zbq, zbr, zbs, zbt, zbu, X.ev_t, X.ev_c, Fr.gs, zbv, zbw, zbx, zby, zbz, zca, zcb, zcc, zcd, zce, zcf, zcg, zch, zci, zcj, zck, zcl, zcm, zcn, zco, zcp, zcq, zcr, zcs, zct, zcu, zcv, zcw, zcx, zcy, zcz, zda, zdb, zdc, zdd, zde, zdf, zdg, zdh, zdi, zdj, zdk, zdl, zdm, zdn, one_tt, one_ff, zdo, nthD, zdp, zdq, zdr, zds, zdt, zdu, zdv, zdw, ne_eq, not_false_eq_true, zdx, zdy, zdz, bsl0, zea, zeb, zec, zed, zee, zef, List.length_cons, List.length_nil, Nat.zero_add, Nat.le_refl, Nat.reduceLeDiff, Nat.add_zero, Option.map_some, Option.map_none, Int.ofNat_lt, Int.ofNat_le, Prod.mk.injEq, and_false, false_and, decide_true, decide_false, Bool.not_true, Bool.not_false, Nat.reduceLT, Nat.reduceEqDiff, Nat.reduceAdd, Nat.reduceSub, if_true, if_false, reduceIte, Int.cast_ofNat_Int, Nat.reduceBEq, Nat.reduceMul, Nat.reduceDiv, Nat.reduceMod, and_true, true_and, and_self, reduceCtorEq, eq_self, zeg, zeh, zei, zej, zek, zel, zem, zen, s.vlen, r.vlen, w1, p1, p2, p3, (f24 u _ _ _).cl, if_dec, c0.cl, hd]
      refine wk_loop (fun m t => ∃ (i : Nat) (fr : Fr) (h2 : H), t = ⟨fr, [], h2⟩ ∧ Grew h h2 ∧ i ≤ ls.length ∧ m = ls.length - i ∧ (∀ (j : Nat) (y : List Lt), j < i → ls[j]? = some y → Law.checkC y = 0) ∧
        fr.get (sOf 0) = v ∧ fr.get (sOf 1) = w ∧ fr.get (sOf 33) = v ∧ fr.get (sOf 34) = .int .i64 (ls.length : Nat) ∧ fr.get (sOf 35) = .int .i64 (i : Nat)) ?_ ⟨0, _, _, rfl, gA, Nat.zero_le _, rfl, fun j y hj => absurd hj (Nat.not_lt_zero _), ?_, ?_, ?_, ?_, ?_⟩
      · rintro m t ⟨i, fr, h2, rfl, g2, hi, rfl, hno, e0, e1, e33, e34, e35⟩
        have s2 := s.grew hk g2
        by_cases hlt : i < ls.length
        · obtain ⟨c, hci⟩ : ∃ c, ls[i]? = some c := ⟨ls[i], List.getElem?_eq_getElem hlt⟩
          have hcl := hc c (List.mem_of_getElem? hci)
          obtain ⟨cv, hcv, sc⟩ := s2.load hci
          obtain ⟨h3, c25, g3⟩ := f25 u g2.ok sc (pred26 u h2) (by omega)
          obtain ⟨h4, c27, g4⟩ := f27 u g3.ok (sc.grew g2.ok g3) (by omega)
          have gB := (Grew.refl g4.ok).new (.cells [.int .i64 (if 100 < c.length then 5 else 0), .int .i64 (if (c.any fun x => decide (x.1 < 0)) = true then 3 else 0), .int .i64 (if (!Law.ascB c) = true then 9 else 0)] 0 0 .rw 26)
          have c1 := f23_3 u (h := h4) (check3 c)
          have p4 : decide ((100 : Int) < (c.length : Int)) = decide (100 < c.length) := by simp; omega
          by_cases hz : Law.checkC c = 0
          · rw [hz] at c1
            simp only [zaa, zab, zac, zad, zae, zaf, zag, zah, zai, zaj, zak, zal, zam, zan, zao, zap, zaq, zar, zas, zat, zau, zav, zaw, zax, zay, zaz, zba, zbb, zbc, zbd, zbe, zbf, zbg, zbh, zbi, zbj, zbk, zbl, zbm, zbn, zbo, zbp, zbq, zbr, zbs, zbt, zbu, X.ev_t, X.ev_c, Fr.gs, zbv, zbw, zbx, zby, zbz, zca, zcb, zcc, zcd, zce, zcf, zcg, zch, zci, zcj, zck, zcl, zcm, zcn, zco, zcp, zcq, zcr, zcs, zct, zcu, zcv, zcw, zcx, zcy, zcz, zda, zdb, zdc, zdd, zde, zdf, zdg, zdh, zdi, zdj, zdk, zdl, zdm, zdn, one_tt, one_ff, zdo, nthD, zdp, zdq, zdr, zds, zdt, zdu, zdv, zdw, ne_eq, not_false_eq_true, zdx, zdy, zdz, bsl0, zea, zeb, zec, zed, zee, zef, List.length_cons, List.length_nil, Nat.zero_add, Nat.le_refl, Nat.reduceLeDiff, Nat.add_zero, Option.map_some, Option.map_none, Int.ofNat_lt, Int.ofNat_le, Prod.mk.injEq, and_false, false_and, decide_true, decide_false, Bool.not_true, Bool.not_false, Nat.reduceLT, Nat.reduceEqDiff, Nat.reduceAdd, Nat.reduceSub, if_true, if_false, reduceIte, Int.cast_ofNat_Int, Nat.reduceBEq, Nat.reduceMul, Nat.reduceDiv, Nat.reduceMod, and_true, true_and, and_self, reduceCtorEq, eq_self, zeg, zeh, zei, zej, zek, zel, zem, zen, e0, e1, e33, e34, e35, hlt, s2.addr hlt, hcv, sc.vlen, p4, (f24 u _ _ _).cl, if_dec, c25.cl, c27.cl, c1.cl, wrap_succ (show i < 9223372036854775807 by omega)]
            refine ⟨ls.length - (i + 1), by omega, i + 1, _, _, rfl, g2.trans (g3.trans (g4.trans gB)), by omega, rfl, fun j y hj hy => ?_, ?_, ?_, ?_, ?_, ?_⟩
            · rcases Nat.lt_or_ge j i with h | h
              · exact hno j y h hy
              · have : j = i := by omega
                subst this; rw [hci] at hy; cases hy; exact hz
            all_goals simp only [zaa, zab, zac, zad, zae, zaf, zag, zah, zai, zaj, zak, zal, zam, zan, zao, zap, zaq, zar, zas, zat, zau, zav, zaw, zax, zay, zaz, zba, zbb, zbc, zbd, zbe, zbf, zbg, zbh, zbi, zbj, zbk, zbl, zbm, zbn, zbo, zbp, zbq, zbr, zbs, zbt, zbu, X.ev_t, X.ev_c, Fr.gs, zbv, zbw, zbx, zby, zbz, zca, zcb, zcc, zcd, zce, zcf, zcg, zch, zci, zcj, zck, zcl, zcm, zcn, zco, zcp, zcq, zcr, zcs, zct, zcu, zcv, zcw, zcx, zcy, zcz, zda, zdb, zdc, zdd, zde, zdf, zdg, zdh, zdi, zdj, zdk, zdl, zdm, zdn, one_tt, one_ff, zdo, nthD, zdp, zdq, zdr, zds, zdt, zdu, zdv, zdw, ne_eq, not_false_eq_true, zdx, zdy, zdz, bsl0, zea, zeb, zec, zed, zee, zef, List.length_cons, List.length_nil, Nat.zero_add, Nat.le_refl, Nat.reduceLeDiff, Nat.add_zero, Option.map_some, Option.map_none, Int.ofNat_lt, Int.ofNat_le, Prod.mk.injEq, and_false, false_and, decide_true, decide_false, Bool.not_true, Bool.not_false, Nat.reduceLT, Nat.reduceEqDiff, Nat.reduceAdd, Nat.reduceSub, if_true, if_false, reduceIte, Int.cast_ofNat_Int, Nat.reduceBEq, Nat.reduceMul, Nat.reduceDiv, Nat.reduceMod, and_true, true_and, and_self, reduceCtorEq, eq_self, zeg, zeh, zei, zej, zek, zel, zem, zen, e0, e1, e33, e34]
          · have hz' : ¬ ((Law.checkC c : Nat) : Int) = 0 := by omega
            simp only [zaa, zab, zac, zad, zae, zaf, zag, zah, zai, zaj, zak, zal, zam, zan, zao, zap, zaq, zar, zas, zat, zau, zav, zaw, zax, zay, zaz, zba, zbb, zbc, zbd, zbe, zbf, zbg, zbh, zbi, zbj, zbk, zbl, zbm, zbn, zbo, zbp, zbq, zbr, zbs, zbt, zbu, X.ev_t, X.ev_c, Fr.gs, zbv, zbw, zbx, zby, zbz, zca, zcb, zcc, zcd, zce, zcf, zcg, zch, zci, zcj, zck, zcl, zcm, zcn, zco, zcp, zcq, zcr, zcs, zct, zcu, zcv, zcw, zcx, zcy, zcz, zda, zdb, zdc, zdd, zde, zdf, zdg, zdh, zdi, zdj, zdk, zdl, zdm, zdn, one_tt, one_ff, zdo, nthD, zdp, zdq, zdr, zds, zdt, zdu, zdv, zdw, ne_eq, not_false_eq_true, zdx, zdy, zdz, bsl0, zea, zeb, zec, zed, zee, zef, List.length_cons, List.length_nil, Nat.zero_add, Nat.le_refl, Nat.reduceLeDiff, Nat.add_zero, Option.map_some, Option.map_none, Int.ofNat_lt, Int.ofNat_le, Prod.mk.injEq, and_false, false_and, decide_true, decide_false, Bool.not_true, Bool.not_false, Nat.reduceLT, Nat.reduceEqDiff, Nat.reduceAdd, Nat.reduceSub, if_true, if_false, reduceIte, Int.cast_ofNat_Int, Nat.reduceBEq, Nat.reduceMul, Nat.reduceDiv, Nat.reduceMod, and_true, true_and, and_self, reduceCtorEq, eq_self, zeg, zeh, zei, zej, zek, zel, zem, zen, e0, e1, e33, e34, e35, hlt, s2.addr hlt, hcv, sc.vlen, p4, (f24 u _ _ _).cl, if_dec, c25.cl, c27.cl, c1.cl, hz']
            rw [Resolve_bad hd hci hz hno]
            exact ⟨.snil, rfl, lits_nil _, g2.trans (g3.trans (g4.trans gB))⟩
        · have hil : i = ls.length := by omega
          have hall : ∀ (j : Nat) (y : List Lt), ls[j]? = some y → Law.checkC y = 0 := fun j y hy => hno j y (by
            rcases Nat.lt_or_ge j ls.length with h | h
            · omega
            · rw [List.getElem?_eq_none h] at hy; cases hy) hy
          obtain ⟨b1, b2, b3⟩ := head3_eq hd
          obtain ⟨c, ls', hls⟩ : ∃ c ls', ls = c :: ls' := by
            cases ls with
            | nil => exact absurd rfl b1
            | cons c ls' => exact ⟨c, ls', rfl⟩
          have hcc : ∀ l ∈ ls, l.length ≤ 100 := fun l hm => by
            obtain ⟨j, hj, e⟩ := List.getElem_of_mem hm
            have := hall j l (by rw [List.getElem?_eq_getElem hj, e])
            unfold Law.checkC at this
            by_cases h : l.length > 100
            · rw [if_pos h] at this; cases this
            · omega
          have s2' := s2
          rw [hls] at s2'
          obtain ⟨h3, hres, g3⟩ := f28 u g2.ok s2' (r.grew hk g2) (by rw [hls] at b3; simp at b3; omega) (by omega) (by rw [← hls]; exact hcc)
          cases hr : Law.resolveAll c ls' pv with
          | none =>
            rw [hr] at hres
            have c28 : FnTo (PrL u) 28 [v, w] h2 (.tup [.snil, .bool false]) h3 := hres
            have c1 := f23_2 u (h := h3) (a := 29) (b := 0) (E := 29) rfl
            have gB := (Grew.refl g3.ok).new (.cells [.int .i64 29, .int .i64 0] 0 0 .rw 26)
            have h29 : ¬ ((29 : Int) = 0) := by omega
            have h100 : ¬ ((100 : Int) < 0) := by omega
            have vn : vLen false .snil = some (.int .i64 0) := rfl
            simp only [zaa, zab, zac, zad, zae, zaf, zag, zah, zai, zaj, zak, zal, zam, zan, zao, zap, zaq, zar, zas, zat, zau, zav, zaw, zax, zay, zaz, zba, zbb, zbc, zbd, zbe, zbf, zbg, zbh, zbi, zbj, zbk, zbl, zbm, zbn, zbo, zbp, zbq, zbr, zbs, zbt, zbu, X.ev_t, X.ev_c, Fr.gs, zbv, zbw, zbx, zby, zbz, zca, zcb, zcc, zcd, zce, zcf, zcg, zch, zci, zcj, zck, zcl, zcm, zcn, zco, zcp, zcq, zcr, zcs, zct, zcu, zcv, zcw, zcx, zcy, zcz, zda, zdb, zdc, zdd, zde, zdf, zdg, zdh, zdi, zdj, zdk, zdl, zdm, zdn, one_tt, one_ff, zdo, nthD, zdp, zdq, zdr, zds, zdt, zdu, zdv, zdw, ne_eq, not_false_eq_true, zdx, zdy, zdz, bsl0, zea, zeb, zec, zed, zee, zef, List.length_cons, List.length_nil, Nat.zero_add, Nat.le_refl, Nat.reduceLeDiff, Nat.add_zero, Option.map_some, Option.map_none, Int.ofNat_lt, Int.ofNat_le, Prod.mk.injEq, and_false, false_and, decide_true, decide_false, Bool.not_true, Bool.not_false, Nat.reduceLT, Nat.reduceEqDiff, Nat.reduceAdd, Nat.reduceSub, if_true, if_false, reduceIte, Int.cast_ofNat_Int, Nat.reduceBEq, Nat.reduceMul, Nat.reduceDiv, Nat.reduceMod, and_true, true_and, and_self, reduceCtorEq, eq_self, zeg, zeh, zei, zej, zek, zel, zem, zen, e0, e1, e33, e34, e35, hil, Int.lt_irrefl, Nat.lt_irrefl, c28.cl, tup0, tup1, (f24 u _ _ _).cl, vn, h100, h29, c1.cl]
            refine res3 hls hd hall (g2.trans (g3.trans gB)) (fun _ => rfl) (fun out h => by rw [hr] at h; cases h)
          | some out =>
            rw [hr] at hres
            obtain ⟨v', c28, ow⟩ := hres
            by_cases ho : 100 < out.length
            · have c1 := f23_2 u (h := h3) (a := 0) (b := 5) (E := 5) rfl
              have gB := (Grew.refl g3.ok).new (.cells [.int .i64 0, .int .i64 5] 0 0 .rw 26)
              have h5 : ¬ ((5 : Int) = 0) := by omega
              have ho' : (100 : Int) < (out.length : Int) := by omega
              simp only [zaa, zab, zac, zad, zae, zaf, zag, zah, zai, zaj, zak, zal, zam, zan, zao, zap, zaq, zar, zas, zat, zau, zav, zaw, zax, zay, zaz, zba, zbb, zbc, zbd, zbe, zbf, zbg, zbh, zbi, zbj, zbk, zbl, zbm, zbn, zbo, zbp, zbq, zbr, zbs, zbt, zbu, X.ev_t, X.ev_c, Fr.gs, zbv, zbw, zbx, zby, zbz, zca, zcb, zcc, zcd, zce, zcf, zcg, zch, zci, zcj, zck, zcl, zcm, zcn, zco, zcp, zcq, zcr, zcs, zct, zcu, zcv, zcw, zcx, zcy, zcz, zda, zdb, zdc, zdd, zde, zdf, zdg, zdh, zdi, zdj, zdk, zdl, zdm, zdn, one_tt, one_ff, zdo, nthD, zdp, zdq, zdr, zds, zdt, zdu, zdv, zdw, ne_eq, not_false_eq_true, zdx, zdy, zdz, bsl0, zea, zeb, zec, zed, zee, zef, List.length_cons, List.length_nil, Nat.zero_add, Nat.le_refl, Nat.reduceLeDiff, Nat.add_zero, Option.map_some, Option.map_none, Int.ofNat_lt, Int.ofNat_le, Prod.mk.injEq, and_false, false_and, decide_true, decide_false, Bool.not_true, Bool.not_false, Nat.reduceLT, Nat.reduceEqDiff, Nat.reduceAdd, Nat.reduceSub, if_true, if_false, reduceIte, Int.cast_ofNat_Int, Nat.reduceBEq, Nat.reduceMul, Nat.reduceDiv, Nat.reduceMod, and_true, true_and, and_self, reduceCtorEq, eq_self, zeg, zeh, zei, zej, zek, zel, zem, zen, e0, e1, e33, e34, e35, hil, Int.lt_irrefl, Nat.lt_irrefl, c28.cl, tup0, tup1, (f24 u _ _ _).cl, ow.lits.vlen, ho', h5, c1.cl]
              refine res3 hls hd hall (g2.trans (g3.trans gB)) (fun h => by rw [hr] at h; cases h) (fun o h => by rw [hr] at h; cases h; exact ⟨fun _ => rfl, fun h => absurd ho h⟩)
            · have c1 := f23_2 u (h := h3) (a := 0) (b := 0) (E := 0) rfl
              have gB := (Grew.refl g3.ok).new (.cells [.int .i64 0, .int .i64 0] 0 0 .rw 26)
              have ho' : ¬ (100 : Int) < (out.length : Int) := by omega
              simp only [zaa, zab, zac, zad, zae, zaf, zag, zah, zai, zaj, zak, zal, zam, zan, zao, zap, zaq, zar, zas, zat, zau, zav, zaw, zax, zay, zaz, zba, zbb, zbc, zbd, zbe, zbf, zbg, zbh, zbi, zbj, zbk, zbl, zbm, zbn, zbo, zbp, zbq, zbr, zbs, zbt, zbu, X.ev_t, X.ev_c, Fr.gs, zbv, zbw, zbx, zby, zbz, zca, zcb, zcc, zcd, zce, zcf, zcg, zch, zci, zcj, zck, zcl, zcm, zcn, zco, zcp, zcq, zcr, zcs, zct, zcu, zcv, zcw, zcx, zcy, zcz, zda, zdb, zdc, zdd, zde, zdf, zdg, zdh, zdi, zdj, zdk, zdl, zdm, zdn, one_tt, one_ff, zdo, nthD, zdp, zdq, zdr, zds, zdt, zdu, zdv, zdw, ne_eq, not_false_eq_true, zdx, zdy, zdz, bsl0, zea, zeb, zec, zed, zee, zef, List.length_cons, List.length_nil, Nat.zero_add, Nat.le_refl, Nat.reduceLeDiff, Nat.add_zero, Option.map_some, Option.map_none, Int.ofNat_lt, Int.ofNat_le, Prod.mk.injEq, and_false, false_and, decide_true, decide_false, Bool.not_true, Bool.not_false, Nat.reduceLT, Nat.reduceEqDiff, Nat.reduceAdd, Nat.reduceSub, if_true, if_false, reduceIte, Int.cast_ofNat_Int, Nat.reduceBEq, Nat.reduceMul, Nat.reduceDiv, Nat.reduceMod, and_true, true_and, and_self, reduceCtorEq, eq_self, zeg, zeh, zei, zej, zek, zel, zem, zen, e0, e1, e33, e34, e35, hil, Int.lt_irrefl, Nat.lt_irrefl, c28.cl, tup0, tup1, (f24 u _ _ _).cl, ow.lits.vlen, ho', c1.cl]
              refine res3 hls hd hall (g2.trans (g3.trans gB)) (fun h => by rw [hr] at h; cases h) (fun o h => by rw [hr] at h; cases h; exact ⟨fun h => absurd h ho, fun _ => ⟨v', rfl, (ow.grew g3.ok gB).lits⟩⟩)
      all_goals simp only [zaa, zab, zac, zad, zae, zaf, zag, zah, zai, zaj, zak, zal, zam, zan, zao, zap, zaq, zar, zas, zat, zau, zav, zaw, zax, zay, zaz, zba, zbb, zbc, zbd, zbe, zbf, zbg, zbh, zbi, zbj, zbk, zbl, zbm, zbn, zbo, zbp, zbq, zbr, zbs, zbt, zbu, X.ev_t, X.ev_c, Fr.gs, zbv, zbw, zbx, zby, zbz, zca, zcb, zcc, zcd, zce, zcf, zcg, zch, zci, zcj, zck, zcl, zcm, zcn, zco, zcp, zcq, zcr, zcs, zct, zcu, zcv, zcw, zcx, zcy, zcz, zda, zdb, zdc, zdd, zde, zdf, zdg, zdh, zdi, zdj, zdk, zdl, zdm, zdn, one_tt, one_ff, zdo, nthD, zdp, zdq, zdr, zds, zdt, zdu, zdv, zdw, ne_eq, not_false_eq_true, zdx, zdy, zdz, bsl0, zea, zeb, zec, zed, zee, zef, List.length_cons, List.length_nil, Nat.zero_add, Nat.le_refl, Nat.reduceLeDiff, Nat.add_zero, Option.map_some, Option.map_none, Int.ofNat_lt, Int.ofNat_le, Prod.mk.injEq, and_false, false_and, decide_true, decide_false, Bool.not_true, Bool.not_false, Nat.reduceLT, Nat.reduceEqDiff, Nat.reduceAdd, Nat.reduceSub, if_true, if_false, reduceIte, Int.cast_ofNat_Int, Nat.reduceBEq, Nat.reduceMul, Nat.reduceDiv, Nat.reduceMod, and_true, true_and, and_self, reduceCtorEq, eq_self, zeg, zeh, zei, zej, zek, zel, zem, zen]
  obtain ⟨x, h', a, q⟩ := key.to
  exact ⟨x, h', a, q⟩
end Go.Im
open Go
set_option maxRecDepth 20000
namespace Go.Im
variable (u : Ob)
theorem f29_3 {h : H} {a b c E : Int} (hE : firstI [a, b, c] = E) : FnTo (PrL u) 29 [.sl h.next 0 0 3 1 (some 3)] (h.new (.cells [.int .i64 a, .int .i64 b, .int .i64 c] 0 0 .rw 3)) (.int .i64 E) (h.new (.cells [.int .i64 a, .int .i64 b, .int .i64 c] 0 0 .rw 3)) := by
  subst hE; exact f29 u (ints3 _ _ _) (by simp)
theorem f29_2 {h : H} {a b E : Int} (hE : firstI [a, b] = E) : FnTo (PrL u) 29 [.sl h.next 0 0 2 1 (some 2)] (h.new (.cells [.int .i64 a, .int .i64 b] 0 0 .rw 3)) (.int .i64 E) (h.new (.cells [.int .i64 a, .int .i64 b] 0 0 .rw 3)) := by
  subst hE; exact f29 u (ints2 _ _) (by simp)
theorem check5 {c : List Lt} (h : 100 < c.length) : Law.checkC c = 5 := by unfold Law.checkC; rw [if_pos h]
theorem check_any {c : List Lt} (h : ¬ 100 < c.length) {j : Nat} {y : Lt} (hy : c[j]? = some y) (hn : y.1 < 0) : Law.checkC c = 3 := by
  unfold Law.checkC
  rw [if_neg h]
  have : (c.any fun x => decide (x.1 < 0)) = true := by rw [List.any_eq_true]; exact ⟨y, List.mem_of_getElem? hy, by simpa using hn⟩
  rw [if_pos this]
theorem check_asc {c : List Lt} (h : ¬ 100 < c.length) (hn : ∀ (j : Nat) (y : Lt), c[j]? = some y → ¬ y.1 < 0) : Law.checkC c = if Law.ascB c = true then 0 else 9 := by
  unfold Law.checkC
  rw [if_neg h]
  have : (c.any fun x => decide (x.1 < 0)) = false := by
    rw [List.any_eq_false]
    intro x hx
    obtain ⟨j, hj, e⟩ := List.getElem_of_mem hx
    have := hn j x (by rw [List.getElem?_eq_getElem hj, e])
    simpa using this
  rw [this]
  cases Law.ascB c <;> rfl
theorem f6 {v w : V} {ls : List (List Lt)} {pv : List Int} {h : H} (hk : h.ok) (s : ClausesOf h v ls) (r : IntsOf h w pv) (hl : ls.length ≤ 102) (hn : pv.length ≤ 102) (hc : ∀ l ∈ ls, l.length ≤ 101) :
    ∃ x h', FnTo (PrL u) 6 [v, w] h x h' ∧ ResE h h' x (Law.Resolve ls pv) := by
  have key : wFn (PrL u) 6 [v, w] h fun x h' => ResE h h' x (Law.Resolve ls pv) := by
    refine wFn_run rfl F6_eq rfl ?_
    have c0 := f29_3 u (h := h) (show firstI [if ls.length = 0 then 10 else 0, if 100 < ls.length then 5 else 0, if pv.length + 1 ≠ ls.length then 2 else 0] = head3 ls.length pv.length from rfl)
    have gA := (Grew.refl hk).new (.cells [.int .i64 (if ls.length = 0 then 10 else 0), .int .i64 (if 100 < ls.length then 5 else 0), .int .i64 (if pv.length + 1 ≠ ls.length then 2 else 0)] 0 0 .rw 3)
    have w1 : wrapF .i64 ((ls.length : Int) - 1) = (ls.length : Int) - 1 := wrap_id (by omega) (by omega)
    have p1 : decide ((ls.length : Int) = 0) = decide (ls.length = 0) := by simp
    have p2 : decide ((100 : Int) < (ls.length : Int)) = decide (100 < ls.length) := by simp; omega
    have p3 : (!decide ((pv.length : Int) = (ls.length : Int) - 1)) = decide (pv.length + 1 ≠ ls.length) := by
      rw [Bool.eq_iff_iff]; simp; omega
    by_cases hd : head3 ls.length pv.length = 0
    rotate_left
    · simp only [F6, zaa, zab, zac, zad, zae, zaf, zag, zah, zai, zaj, zak, zal, zam, zan, zao, zap, zaq, zar, zas, zat, zau, zav, zaw, zax, zay, zaz, zba, zbb, zbc, zbd, zbe, zbf, zbg, zbh, zbi, zbj, zbk, zbl, zbm, zbn, zbo, zbp, zbq, zbr, zbs, zbt, zbu, X.ev_t, X.ev_c, Fr.gs, zbv, zbw, zbx, zby, zbz, zca, zcb, zcc, zcd, zce, zcf, zcg, zch, zci, zcj, zck, zcl, zcm, zcn, zco, zcp, zcq, zcr, zcs, zct, zcu, zcv, zcw, zcx, zcy, zcz, zda, zdb, zdc, zdd, zde, zdf, zdg, zdh, zdi, zdj, zdk, zdl, zdm, zdn, one_tt, one_ff, zdo, nthD, zdp, zdq, zdr, zds, zdt, zdu, zdv, zdw, ne_eq, not_false_eq_true, zdx, zdy, zdz, bsl0, zea, zeb, zec, zed, zee, zef, List.length_cons, List.length_nil, Nat.zero_add, Nat.le_refl, Nat.reduceLeDiff, Nat.add_zero, Option.map_some, Option.map_none, Int.ofNat_lt, Int.ofNat_le, Prod.mk.injEq, and_false, false_and, decide_true, decide_false, Bool.not_true, Bool.not_false, Nat.reduceLT, Nat.reduceEqDiff, Nat.reduceAdd, Nat.reduceSub, if_true, if_false, reduceIte, Int.cast_ofNat_Int, Nat.reduceBEq, Nat.reduceMul, Nat.reduceDiv, Nat.reduceMod, and_true, true_and, and_self, reduceCtorEq, eq_self, zeg, zeh, zei, zej, zek, zel, zem, zen, s.vlen, r.vlen, w1, p1, p2, p3, (f30 u _ _ _).cl, if_dec, c0.cl, hd]
      obtain ⟨q1, q2⟩ := head3_ne hd
      rw [q1]
      exact ⟨.snil, by rw [q2], lits_nil _, gA⟩
    · simp only [F6, zaa, zab, zac, zad, zae, zaf, zag, zah, zai, zaj, zak, zal, zam, zan, zao, zap, zaq, zar, zas, zat, zau, zav, zaw, zax, zay, zaz, zba, zbb, zbc, zbd, zbe, zbf, zbg, zbh, zbi, zbj, zbk, zbl, zbm, zbn, zbo, zbp, zbq, zbr, zbs, zbt, zbu, X.ev_t, X.ev_c, Fr.gs, zbv, zbw, zbx, zby, zbz, zca, zcb, zcc, zcd, zce, zcf, zcg, zch, zci, zcj, zck, zcl, zcm, zcn, zco, zcp, zcq, zcr, zcs, zct, zcu, zcv, zcw, zcx, zcy, zcz, zda, zdb, zdc, zdd, zde, zdf, zdg, zdh, zdi, zdj, zdk, zdl, zdm, zdn, one_tt, one_ff, zdo, nthD, zdp, zdq, zdr, zds, zdt, zdu, zdv, zdw, ne_eq, not_false_eq_true, zdx, zdy, zdz, bsl0, zea, zeb, zec, zed, zee, zef, List.length_cons, List.length_nil, Nat.zero_add, Nat.le_refl, Nat.reduceLeDiff, Nat.add_zero, Option.map_some, Option.map_none, Int.ofNat_lt, Int.ofNat_le, Prod.mk.injEq, and_false, false_and, decide_true, decide_false, Bool.not_true, Bool.not_false, Nat.reduceLT, Nat.reduceEqDiff, Nat.reduceAdd, Nat.reduceSub, if_true, if_false, reduceIte, Int.cast_ofNat_Int, Nat.reduceBEq, Nat.reduceMul, Nat.reduceDiv, Nat.reduceMod, and_true, true_and, and_self, reduceCtorEq, eq_self, zeg, zeh, zei, zej, zek, zel, zem, zen, s.vlen, r.vlen, w1, p1, p2, p3, (f30 u _ _ _).cl, if_dec, c0.cl, hd]
      refine wk_loop (fun m t => ∃ (i : Nat) (fr : Fr) (h2 : H), t = ⟨fr, [], h2⟩ ∧ Grew h h2 ∧ i ≤ ls.length ∧ m = ls.length - i ∧ (∀ (j : Nat) (y : List Lt), j < i → ls[j]? = some y → Law.checkC y = 0) ∧
        fr.get (sOf 0) = v ∧ fr.get (sOf 1) = w ∧ fr.get (sOf 7) = .int .i64 (i : Nat)) ?_ ⟨0, _, _, rfl, gA, Nat.zero_le _, rfl, fun j y hj => absurd hj (Nat.not_lt_zero _), ?_, ?_, ?_⟩
      · rintro m t ⟨i, fr, h2, rfl, g2, hi, rfl, hno, e0, e1, e7⟩
        have s2 := s.grew hk g2
        by_cases hlt : i < ls.length
        · obtain ⟨c, hci⟩ : ∃ c, ls[i]? = some c := ⟨ls[i], List.getElem?_eq_getElem hlt⟩
          have hcl := hc c (List.mem_of_getElem? hci)
          obtain ⟨cv, hcv, sc⟩ := s2.load hci
          by_cases h100 : 100 < c.length
          · have p4 : (100 : Int) < (c.length : Int) := by omega
            simp only [zaa, zab, zac, zad, zae, zaf, zag, zah, zai, zaj, zak, zal, zam, zan, zao, zap, zaq, zar, zas, zat, zau, zav, zaw, zax, zay, zaz, zba, zbb, zbc, zbd, zbe, zbf, zbg, zbh, zbi, zbj, zbk, zbl, zbm, zbn, zbo, zbp, zbq, zbr, zbs, zbt, zbu, X.ev_t, X.ev_c, Fr.gs, zbv, zbw, zbx, zby, zbz, zca, zcb, zcc, zcd, zce, zcf, zcg, zch, zci, zcj, zck, zcl, zcm, zcn, zco, zcp, zcq, zcr, zcs, zct, zcu, zcv, zcw, zcx, zcy, zcz, zda, zdb, zdc, zdd, zde, zdf, zdg, zdh, zdi, zdj, zdk, zdl, zdm, zdn, one_tt, one_ff, zdo, nthD, zdp, zdq, zdr, zds, zdt, zdu, zdv, zdw, ne_eq, not_false_eq_true, zdx, zdy, zdz, bsl0, zea, zeb, zec, zed, zee, zef, List.length_cons, List.length_nil, Nat.zero_add, Nat.le_refl, Nat.reduceLeDiff, Nat.add_zero, Option.map_some, Option.map_none, Int.ofNat_lt, Int.ofNat_le, Prod.mk.injEq, and_false, false_and, decide_true, decide_false, Bool.not_true, Bool.not_false, Nat.reduceLT, Nat.reduceEqDiff, Nat.reduceAdd, Nat.reduceSub, if_true, if_false, reduceIte, Int.cast_ofNat_Int, Nat.reduceBEq, Nat.reduceMul, Nat.reduceDiv, Nat.reduceMod, and_true, true_and, and_self, reduceCtorEq, eq_self, zeg, zeh, zei, zej, zek, zel, zem, zen, e0, e1, e7, s2.vlen, hlt, s2.addr hlt, hcv, sc.vlen, p4]
            rw [Resolve_bad hd hci (by rw [check5 h100]; simp) hno, check5 h100]
            exact ⟨.snil, rfl, lits_nil _, g2⟩
          · have p4 : ¬ (100 : Int) < (c.length : Int) := by omega
            simp only [zaa, zab, zac, zad, zae, zaf, zag, zah, zai, zaj, zak, zal, zam, zan, zao, zap, zaq, zar, zas, zat, zau, zav, zaw, zax, zay, zaz, zba, zbb, zbc, zbd, zbe, zbf, zbg, zbh, zbi, zbj, zbk, zbl, zbm, zbn, zbo, zbp, zbq, zbr, zbs, zbt, zbu, X.ev_t, X.ev_c, Fr.gs, zbv, zbw, zbx, zby, zbz, zca, zcb, zcc, zcd, zce, zcf, zcg, zch, zci, zcj, zck, zcl, zcm, zcn, zco, zcp, zcq, zcr, zcs, zct, zcu, zcv, zcw, zcx, zcy, zcz, zda, zdb, zdc, zdd, zde, zdf, zdg, zdh, zdi, zdj, zdk, zdl, zdm, zdn, one_tt, one_ff, zdo, nthD, zdp, zdq, zdr, zds, zdt, zdu, zdv, zdw, ne_eq, not_false_eq_true, zdx, zdy, zdz, bsl0, zea, zeb, zec, zed, zee, zef, List.length_cons, List.length_nil, Nat.zero_add, Nat.le_refl, Nat.reduceLeDiff, Nat.add_zero, Option.map_some, Option.map_none, Int.ofNat_lt, Int.ofNat_le, Prod.mk.injEq, and_false, false_and, decide_true, decide_false, Bool.not_true, Bool.not_false, Nat.reduceLT, Nat.reduceEqDiff, Nat.reduceAdd, Nat.reduceSub, if_true, if_false, reduceIte, Int.cast_ofNat_Int, Nat.reduceBEq, Nat.reduceMul, Nat.reduceDiv, Nat.reduceMod, and_true, true_and, and_self, reduceCtorEq, eq_self, zeg, zeh, zei, zej, zek, zel, zem, zen, e0, e1, e7, s2.vlen, hlt, s2.addr hlt, hcv, sc.vlen, p4]
            refine wk_loop (fun m t => ∃ (j : Nat) (fr : Fr), t = ⟨fr, [], h2⟩ ∧ j ≤ c.length ∧ m = c.length - j ∧ (∀ (k : Nat) (y : Lt), k < j → c[k]? = some y → ¬ y.1 < 0) ∧
              fr.get (sOf 0) = v ∧ fr.get (sOf 1) = w ∧ fr.get (sOf 7) = .int .i64 (i : Nat) ∧ fr.get (sOf 8) = .int .i64 (j : Nat)) ?_ ⟨0, _, rfl, Nat.zero_le _, rfl, fun k y hk => absurd hk (Nat.not_lt_zero _), ?_, ?_, ?_, ?_⟩
            · rintro m t ⟨j, fr, rfl, hj, rfl, hneg, e0, e1, e7, e8⟩
              by_cases hjl : j < c.length
              · obtain ⟨y, hy⟩ := lits_get hjl
                obtain ⟨pa, hpa, hpl⟩ := sc.load0 hy
                by_cases hyn : y.1 < 0
                · simp only [zaa, zab, zac, zad, zae, zaf, zag, zah, zai, zaj, zak, zal, zam, zan, zao, zap, zaq, zar, zas, zat, zau, zav, zaw, zax, zay, zaz, zba, zbb, zbc, zbd, zbe, zbf, zbg, zbh, zbi, zbj, zbk, zbl, zbm, zbn, zbo, zbp, zbq, zbr, zbs, zbt, zbu, X.ev_t, X.ev_c, Fr.gs, zbv, zbw, zbx, zby, zbz, zca, zcb, zcc, zcd, zce, zcf, zcg, zch, zci, zcj, zck, zcl, zcm, zcn, zco, zcp, zcq, zcr, zcs, zct, zcu, zcv, zcw, zcx, zcy, zcz, zda, zdb, zdc, zdd, zde, zdf, zdg, zdh, zdi, zdj, zdk, zdl, zdm, zdn, one_tt, one_ff, zdo, nthD, zdp, zdq, zdr, zds, zdt, zdu, zdv, zdw, ne_eq, not_false_eq_true, zdx, zdy, zdz, bsl0, zea, zeb, zec, zed, zee, zef, List.length_cons, List.length_nil, Nat.zero_add, Nat.le_refl, Nat.reduceLeDiff, Nat.add_zero, Option.map_some, Option.map_none, Int.ofNat_lt, Int.ofNat_le, Prod.mk.injEq, and_false, false_and, decide_true, decide_false, Bool.not_true, Bool.not_false, Nat.reduceLT, Nat.reduceEqDiff, Nat.reduceAdd, Nat.reduceSub, if_true, if_false, reduceIte, Int.cast_ofNat_Int, Nat.reduceBEq, Nat.reduceMul, Nat.reduceDiv, Nat.reduceMod, and_true, true_and, and_self, reduceCtorEq, eq_self, zeg, zeh, zei, zej, zek, zel, zem, zen, e0, e1, e7, e8, s2.addr hlt, hcv, sc.vlen, hjl, sc.addr hjl, zci, hpa, hpl, hyn]
                  rw [Resolve_bad hd hci (by rw [check_any h100 hy hyn]; simp) hno, check_any h100 hy hyn]
                  exact ⟨.snil, rfl, lits_nil _, g2⟩
                · simp only [zaa, zab, zac, zad, zae, zaf, zag, zah, zai, zaj, zak, zal, zam, zan, zao, zap, zaq, zar, zas, zat, zau, zav, zaw, zax, zay, zaz, zba, zbb, zbc, zbd, zbe, zbf, zbg, zbh, zbi, zbj, zbk, zbl, zbm, zbn, zbo, zbp, zbq, zbr, zbs, zbt, zbu, X.ev_t, X.ev_c, Fr.gs, zbv, zbw, zbx, zby, zbz, zca, zcb, zcc, zcd, zce, zcf, zcg, zch, zci, zcj, zck, zcl, zcm, zcn, zco, zcp, zcq, zcr, zcs, zct, zcu, zcv, zcw, zcx, zcy, zcz, zda, zdb, zdc, zdd, zde, zdf, zdg, zdh, zdi, zdj, zdk, zdl, zdm, zdn, one_tt, one_ff, zdo, nthD, zdp, zdq, zdr, zds, zdt, zdu, zdv, zdw, ne_eq, not_false_eq_true, zdx, zdy, zdz, bsl0, zea, zeb, zec, zed, zee, zef, List.length_cons, List.length_nil, Nat.zero_add, Nat.le_refl, Nat.reduceLeDiff, Nat.add_zero, Option.map_some, Option.map_none, Int.ofNat_lt, Int.ofNat_le, Prod.mk.injEq, and_false, false_and, decide_true, decide_false, Bool.not_true, Bool.not_false, Nat.reduceLT, Nat.reduceEqDiff, Nat.reduceAdd, Nat.reduceSub, if_true, if_false, reduceIte, Int.cast_ofNat_Int, Nat.reduceBEq, Nat.reduceMul, Nat.reduceDiv, Nat.reduceMod, and_true, true_and, and_self, reduceCtorEq, eq_self, zeg, zeh, zei, zej, zek, zel, zem, zen, e0, e1, e7, e8, s2.addr hlt, hcv, sc.vlen, hjl, sc.addr hjl, zci, hpa, hpl, hyn, wrap_succ (show j < 9223372036854775807 by omega)]
                  refine ⟨c.length - (j + 1), by omega, j + 1, _, rfl, by omega, rfl, fun k z hk hz => ?_, ?_, ?_, ?_, ?_⟩
                  · rcases Nat.lt_or_ge k j with h | h
                    · exact hneg k z h hz
                    · have : k = j := by omega
                      subst this; rw [hy] at hz; cases hz; exact hyn
                  all_goals simp only [zaa, zab, zac, zad, zae, zaf, zag, zah, zai, zaj, zak, zal, zam, zan, zao, zap, zaq, zar, zas, zat, zau, zav, zaw, zax, zay, zaz, zba, zbb, zbc, zbd, zbe, zbf, zbg, zbh, zbi, zbj, zbk, zbl, zbm, zbn, zbo, zbp, zbq, zbr, zbs, zbt, zbu, X.ev_t, X.ev_c, Fr.gs, zbv, zbw, zbx, zby, zbz, zca, zcb, zcc, zcd, zce, zcf, zcg, zch, zci, zcj, zck, zcl, zcm, zcn, zco, zcp, zcq, zcr, zcs, zct, zcu, zcv, zcw, zcx, zcy, zcz, zda, zdb, zdc, zdd, zde, zdf, zdg, zdh, zdi, zdj, zdk, zdl, zdm, zdn, one_tt, one_ff, zdo, nthD, zdp, zdq, zdr, zds, zdt, zdu, zdv, zdw, ne_eq, not_false_eq_true, zdx, zdy, zdz, bsl0, zea, zeb, zec, zed, zee, zef, List.length_cons, List.length_nil, Nat.zero_add, Nat.le_refl, Nat.reduceLeDiff, Nat.add_zero, Option.map_some, Option.map_none, Int.ofNat_lt, Int.ofNat_le, Prod.mk.injEq, and_false, false_and, decide_true, decide_false, Bool.not_true, Bool.not_false, Nat.reduceLT, Nat.reduceEqDiff, Nat.reduceAdd, Nat.reduceSub, if_true, if_false, reduceIte, Int.cast_ofNat_Int, Nat.reduceBEq, Nat.reduceMul, Nat.reduceDiv, Nat.reduceMod, and_true, true_and, and_self, reduceCtorEq, eq_self, zeg, zeh, zei, zej, zek, zel, zem, zen, e0, e1, e7]
              · have hjc : j = c.length := by omega
                have hca := check_asc h100 fun k y hy => hneg k y (by
                  rcases Nat.lt_or_ge k c.length with h | h
                  · omega
                  · rw [List.getElem?_eq_none h] at hy; cases hy) hy
                obtain ⟨h3, c31, g3⟩ := f31 u g2.ok sc (by omega)
                cases ha : Law.ascB c with
                | false =>
                  rw [ha] at c31 hca
                  simp only [zaa, zab, zac, zad, zae, zaf, zag, zah, zai, zaj, zak, zal, zam, zan, zao, zap, zaq, zar, zas, zat, zau, zav, zaw, zax, zay, zaz, zba, zbb, zbc, zbd, zbe, zbf, zbg, zbh, zbi, zbj, zbk, zbl, zbm, zbn, zbo, zbp, zbq, zbr, zbs, zbt, zbu, X.ev_t, X.ev_c, Fr.gs, zbv, zbw, zbx, zby, zbz, zca, zcb, zcc, zcd, zce, zcf, zcg, zch, zci, zcj, zck, zcl, zcm, zcn, zco, zcp, zcq, zcr, zcs, zct, zcu, zcv, zcw, zcx, zcy, zcz, zda, zdb, zdc, zdd, zde, zdf, zdg, zdh, zdi, zdj, zdk, zdl, zdm, zdn, one_tt, one_ff, zdo, nthD, zdp, zdq, zdr, zds, zdt, zdu, zdv, zdw, ne_eq, not_false_eq_true, zdx, zdy, zdz, bsl0, zea, zeb, zec, zed, zee, zef, List.length_cons, List.length_nil, Nat.zero_add, Nat.le_refl, Nat.reduceLeDiff, Nat.add_zero, Option.map_some, Option.map_none, Int.ofNat_lt, Int.ofNat_le, Prod.mk.injEq, and_false, false_and, decide_true, decide_false, Bool.not_true, Bool.not_false, Nat.reduceLT, Nat.reduceEqDiff, Nat.reduceAdd, Nat.reduceSub, if_true, if_false, reduceIte, Int.cast_ofNat_Int, Nat.reduceBEq, Nat.reduceMul, Nat.reduceDiv, Nat.reduceMod, and_true, true_and, and_self, reduceCtorEq, eq_self, zeg, zeh, zei, zej, zek, zel, zem, zen, e0, e1, e7, e8, s2.addr hlt, hcv, sc.vlen, hjl, c31.cl]
                  have hca : Law.checkC c = 9 := hca
                  rw [Resolve_bad hd hci (by rw [hca]; simp) hno, hca]
                  exact ⟨.snil, rfl, lits_nil _, g2.trans g3⟩
                | true =>
                  rw [ha] at c31 hca
                  simp only [zaa, zab, zac, zad, zae, zaf, zag, zah, zai, zaj, zak, zal, zam, zan, zao, zap, zaq, zar, zas, zat, zau, zav, zaw, zax, zay, zaz, zba, zbb, zbc, zbd, zbe, zbf, zbg, zbh, zbi, zbj, zbk, zbl, zbm, zbn, zbo, zbp, zbq, zbr, zbs, zbt, zbu, X.ev_t, X.ev_c, Fr.gs, zbv, zbw, zbx, zby, zbz, zca, zcb, zcc, zcd, zce, zcf, zcg, zch, zci, zcj, zck, zcl, zcm, zcn, zco, zcp, zcq, zcr, zcs, zct, zcu, zcv, zcw, zcx, zcy, zcz, zda, zdb, zdc, zdd, zde, zdf, zdg, zdh, zdi, zdj, zdk, zdl, zdm, zdn, one_tt, one_ff, zdo, nthD, zdp, zdq, zdr, zds, zdt, zdu, zdv, zdw, ne_eq, not_false_eq_true, zdx, zdy, zdz, bsl0, zea, zeb, zec, zed, zee, zef, List.length_cons, List.length_nil, Nat.zero_add, Nat.le_refl, Nat.reduceLeDiff, Nat.add_zero, Option.map_some, Option.map_none, Int.ofNat_lt, Int.ofNat_le, Prod.mk.injEq, and_false, false_and, decide_true, decide_false, Bool.not_true, Bool.not_false, Nat.reduceLT, Nat.reduceEqDiff, Nat.reduceAdd, Nat.reduceSub, if_true, if_false, reduceIte, Int.cast_ofNat_Int, Nat.reduceBEq, Nat.reduceMul, Nat.reduceDiv, Nat.reduceMod, and_true, true_and, and_self, reduceCtorEq, eq_self, zeg, zeh, zei, zej, zek, zel, zem, zen, e0, e1, e7, e8, s2.addr hlt, hcv, sc.vlen, hjl, c31.cl, wrap_succ (show i < 9223372036854775807 by omega)]
                  refine ⟨ls.length - (i + 1), by omega, i + 1, _, _, rfl, g2.trans g3, by omega, rfl, fun k z hk hz => ?_, ?_, ?_, ?_⟩
                  · rcases Nat.lt_or_ge k i with h | h
                    · exact hno k z h hz
                    · have : k = i := by omega
                      subst this; rw [hci] at hz; cases hz; exact hca
                  all_goals simp only [zaa, zab, zac, zad, zae, zaf, zag, zah, zai, zaj, zak, zal, zam, zan, zao, zap, zaq, zar, zas, zat, zau, zav, zaw, zax, zay, zaz, zba, zbb, zbc, zbd, zbe, zbf, zbg, zbh, zbi, zbj, zbk, zbl, zbm, zbn, zbo, zbp, zbq, zbr, zbs, zbt, zbu, X.ev_t, X.ev_c, Fr.gs, zbv, zbw, zbx, zby, zbz, zca, zcb, zcc, zcd, zce, zcf, zcg, zch, zci, zcj, zck, zcl, zcm, zcn, zco, zcp, zcq, zcr, zcs, zct, zcu, zcv, zcw, zcx, zcy, zcz, zda, zdb, zdc, zdd, zde, zdf, zdg, zdh, zdi, zdj, zdk, zdl, zdm, zdn, one_tt, one_ff, zdo, nthD, zdp, zdq, zdr, zds, zdt, zdu, zdv, zdw, ne_eq, not_false_eq_true, zdx, zdy, zdz, bsl0, zea, zeb, zec, zed, zee, zef, List.length_cons, List.length_nil, Nat.zero_add, Nat.le_refl, Nat.reduceLeDiff, Nat.add_zero, Option.map_some, Option.map_none, Int.ofNat_lt, Int.ofNat_le, Prod.mk.injEq, and_false, false_and, decide_true, decide_false, Bool.not_true, Bool.not_false, Nat.reduceLT, Nat.reduceEqDiff, Nat.reduceAdd, Nat.reduceSub, if_true, if_false, reduceIte, Int.cast_ofNat_Int, Nat.reduceBEq, Nat.reduceMul, Nat.reduceDiv, Nat.reduceMod, and_true, true_and, and_self, reduceCtorEq, eq_self, zeg, zeh, zei, zej, zek, zel, zem, zen, e0, e1]
            all_goals simp only [zaa, zab, zac, zad, zae, zaf, zag, zah, zai, zaj, zak, zal, zam, zan, zao, zap, zaq, zar, zas, zat, zau, zav, zaw, zax, zay, zaz, zba, zbb, zbc, zbd, zbe, zbf, zbg, zbh, zbi, zbj, zbk, zbl, zbm, zbn, zbo, zbp, zbq, zbr, zbs, zbt, zbu, X.ev_t, X.ev_c, Fr.gs, zbv, zbw, zbx, zby, zbz, zca, zcb, zcc, zcd, zce, zcf, zcg, zch, zci, zcj, zck, zcl, zcm, zcn, zco, zcp, zcq, zcr, zcs, zct, zcu, zcv, zcw, zcx, zcy, zcz, zda, zdb, zdc, zdd, zde, zdf, zdg, zdh, zdi, zdj, zdk, zdl, zdm, zdn, one_tt, one_ff, zdo, nthD, zdp, zdq, zdr, zds, zdt, zdu, zdv, zdw, ne_eq, not_false_eq_true, zdx, zdy, zdz, bsl0, zea, zeb, zec, zed, zee, zef, List.length_cons, List.length_nil, Nat.zero_add, Nat.le_refl, Nat.reduceLeDiff, Nat.add_zero, Option.map_some, Option.map_none, Int.ofNat_lt, Int.ofNat_le, Prod.mk.injEq, and_false, false_and, decide_true, decide_false, Bool.not_true, Bool.not_false, Nat.reduceLT, Nat.reduceEqDiff, Nat.reduceAdd, Nat.reduceSub, if_true, if_false, reduceIte, Int.cast_ofNat_Int, Nat.reduceBEq, Nat.reduceMul, Nat.reduceDiv, Nat.reduceMod, and_true, true_and, and_self, reduceCtorEq, eq_self, zeg, zeh, zei, zej, zek, zel, zem, zen, e0, e1, e7]
        · have hall : ∀ (j : Nat) (y : List Lt), ls[j]? = some y → Law.checkC y = 0 := fun j y hy => hno j y (by
            rcases Nat.lt_or_ge j ls.length with h | h
            · omega
            · rw [List.getElem?_eq_none h] at hy; cases hy) hy
          obtain ⟨b1, b2, b3⟩ := head3_eq hd
          obtain ⟨c, ls', hls⟩ : ∃ c ls', ls = c :: ls' := by
            cases ls with
            | nil => exact absurd rfl b1
            | cons c ls' => exact ⟨c, ls', rfl⟩
          have hcc : ∀ l ∈ ls, l.length ≤ 100 := fun l hm => by
            obtain ⟨j, hj, e⟩ := List.getElem_of_mem hm
            have := hall j l (by rw [List.getElem?_eq_getElem hj, e])
            unfold Law.checkC at this
            by_cases h : l.length > 100
            · rw [if_pos h] at this; cases this
            · omega
          have s2' := s2
          rw [hls] at s2'
          obtain ⟨h3, hres, g3⟩ := f32 u g2.ok s2' (r.grew hk g2) (by rw [hls] at b3; simp at b3; omega) (by omega) (by rw [← hls]; exact hcc)
          cases hr : Law.resolveAll c ls' pv with
          | none =>
            rw [hr] at hres
            have c28 : FnTo (PrL u) 32 [v, w] h2 (.tup [.snil, .bool false]) h3 := hres
            have c1 := f29_2 u (h := h3) (a := 29) (b := 0) (E := 29) rfl
            have gB := (Grew.refl g3.ok).new (.cells [.int .i64 29, .int .i64 0] 0 0 .rw 3)
            have h29 : ¬ ((29 : Int) = 0) := by omega
            have h100 : ¬ ((100 : Int) < 0) := by omega
            have vn : vLen false .snil = some (.int .i64 0) := rfl
            simp only [zaa, zab, zac, zad, zae, zaf, zag, zah, zai, zaj, zak, zal, zam, zan, zao, zap, zaq, zar, zas, zat, zau, zav, zaw, zax, zay, zaz, zba, zbb, zbc, zbd, zbe, zbf, zbg, zbh, zbi, zbj, zbk, zbl, zbm, zbn, zbo, zbp, zbq, zbr, zbs, zbt, zbu, X.ev_t, X.ev_c, Fr.gs, zbv, zbw, zbx, zby, zbz, zca, zcb, zcc, zcd, zce, zcf, zcg, zch, zci, zcj, zck, zcl, zcm, zcn, zco, zcp, zcq, zcr, zcs, zct, zcu, zcv, zcw, zcx, zcy, zcz, zda, zdb, zdc, zdd, zde, zdf, zdg, zdh, zdi, zdj, zdk, zdl, zdm, zdn, one_tt, one_ff, zdo, nthD, zdp, zdq, zdr, zds, zdt, zdu, zdv, zdw, ne_eq, not_false_eq_true, zdx, zdy, zdz, bsl0, zea, zeb, zec, zed, zee, zef, List.length_cons, List.length_nil, Nat.zero_add, Nat.le_refl, Nat.reduceLeDiff, Nat.add_zero, Option.map_some, Option.map_none, Int.ofNat_lt, Int.ofNat_le, Prod.mk.injEq, and_false, false_and, decide_true, decide_false, Bool.not_true, Bool.not_false, Nat.reduceLT, Nat.reduceEqDiff, Nat.reduceAdd, Nat.reduceSub, if_true, if_false, reduceIte, Int.cast_ofNat_Int, Nat.reduceBEq, Nat.reduceMul, Nat.reduceDiv, Nat.reduceMod, and_true, true_and, and_self, reduceCtorEq, eq_self, zeg, zeh, zei, zej, zek, zel, zem, zen, e0, e1, e7, s2.vlen, hlt, c28.cl, tup0, tup1, (f30 u _ _ _).cl, vn, h100, h29, c1.cl]
            refine res3 hls hd hall (g2.trans (g3.trans gB)) (fun _ => rfl) (fun out h => by rw [hr] at h; cases h)
          | some out =>
            rw [hr] at hres
            obtain ⟨v', c28, ow⟩ := hres
            by_cases ho : 100 < out.length
            · have c1 := f29_2 u (h := h3) (a := 0) (b := 5) (E := 5) rfl
              have gB := (Grew.refl g3.ok).new (.cells [.int .i64 0, .int .i64 5] 0 0 .rw 3)
              have h5 : ¬ ((5 : Int) = 0) := by omega
              have ho' : (100 : Int) < (out.length : Int) := by omega
              simp only [zaa, zab, zac, zad, zae, zaf, zag, zah, zai, zaj, zak, zal, zam, zan, zao, zap, zaq, zar, zas, zat, zau, zav, zaw, zax, zay, zaz, zba, zbb, zbc, zbd, zbe, zbf, zbg, zbh, zbi, zbj, zbk, zbl, zbm, zbn, zbo, zbp, zbq, zbr, zbs, zbt, zbu, X.ev_t, X.ev_c, Fr.gs, zbv, zbw, zbx, zby, zbz, zca, zcb, zcc, zcd, zce, zcf, zcg, zch, zci, zcj, zck, zcl, zcm, zcn, zco, zcp, zcq, zcr, zcs, zct, zcu, zcv, zcw, zcx, zcy, zcz, zda, zdb, zdc, zdd, zde, zdf, zdg, zdh, zdi, zdj, zdk, zdl, zdm, zdn, one_tt, one_ff, zdo, nthD, zdp, zdq, zdr, zds, zdt, zdu, zdv, zdw, ne_eq, not_false_eq_true, zdx, zdy, zdz, bsl0, zea, zeb, zec, zed, zee, zef, List.length_cons, List.length_nil, Nat.zero_add, Nat.le_refl, Nat.reduceLeDiff, Nat.add_zero, Option.map_some, Option.map_none, Int.ofNat_lt, Int.ofNat_le, Prod.mk.injEq, and_false, false_and, decide_true, decide_false, Bool.not_true, Bool.not_false, Nat.reduceLT, Nat.reduceEqDiff, Nat.reduceAdd, Nat.reduceSub, if_true, if_false, reduceIte, Int.cast_ofNat_Int, Nat.reduceBEq, Nat.reduceMul, Nat.reduceDiv, Nat.reduceMod, and_true, true_and, and_self, reduceCtorEq, eq_self, zeg, zeh, zei, zej, zek, zel, zem, zen, e0, e1, e7, s2.vlen, hlt, c28.cl, tup0, tup1, (f30 u _ _ _).cl, ow.lits.vlen, ho', h5, c1.cl]
              refine res3 hls hd hall (g2.trans (g3.trans gB)) (fun h => by rw [hr] at h; cases h) (fun o h => by rw [hr] at h; cases h; exact ⟨fun _ => rfl, fun h => absurd ho h⟩)
            · have c1 := f29_2 u (h := h3) (a := 0) (b := 0) (E := 0) rfl
              have gB := (Grew.refl g3.ok).new (.cells [.int .i64 0, .int .i64 0] 0 0 .rw 3)
              have ho' : ¬ (100 : Int) < (out.length : Int) := by omega
              simp only [zaa, zab, zac, zad, zae, zaf, zag, zah, zai, zaj, zak, zal, zam, zan, zao, zap, zaq, zar, zas, zat, zau, zav, zaw, zax, zay, zaz, zba, zbb, zbc, zbd, zbe, zbf, zbg, zbh, zbi, zbj, zbk, zbl, zbm, zbn, zbo, zbp, zbq, zbr, zbs, zbt, zbu, X.ev_t, X.ev_c, Fr.gs, zbv, zbw, zbx, zby, zbz, zca, zcb, zcc, zcd, zce, zcf, zcg, zch, zci, zcj, zck, zcl, zcm, zcn, zco, zcp, zcq, zcr, zcs, zct, zcu, zcv, zcw, zcx, zcy, zcz, zda, zdb, zdc, zdd, zde, zdf, zdg, zdh, zdi, zdj, zdk, zdl, zdm, zdn, one_tt, one_ff, zdo, nthD, zdp, zdq, zdr, zds, zdt, zdu, zdv, zdw, ne_eq, not_false_eq_true, zdx, zdy, zdz, bsl0, zea, zeb, zec, zed, zee, zef, List.length_cons, List.length_nil, Nat.zero_add, Nat.le_refl, Nat.reduceLeDiff, Nat.add_zero, Option.map_some, Option.map_none, Int.ofNat_lt, Int.ofNat_le, Prod.mk.injEq, and_false, false_and, decide_true, decide_false, Bool.not_true, Bool.not_false, Nat.reduceLT, Nat.reduceEqDiff, Nat.reduceAdd, Nat.reduceSub, if_true, if_false, reduceIte, Int.cast_ofNat_Int, Nat.reduceBEq, Nat.reduceMul, Nat.reduceDiv, Nat.reduceMod, and_true, true_and, and_self, reduceCtorEq, eq_self, zeg, zeh, zei, zej, zek, zel, zem, zen, e0, e1, e7, s2.vlen, hlt, c28.cl, tup0, tup1, (f30 u _ _ _).cl, ow.lits.vlen, ho', c1.cl]
              refine res3 hls hd hall (g2.trans (g3.trans gB)) (fun h => by rw [hr] at h; cases h) (fun o h => by rw [hr] at h; cases h; exact ⟨fun h => absurd h ho, fun _ => ⟨v', rfl, (ow.grew g3.ok gB).lits⟩⟩)
      all_goals simp only [zaa, zab, zac, zad, zae, zaf, zag, zah, zai, zaj, zak, zal, zam, zan, zao, zap, zaq, zar, zas, zat, zau, zav, zaw, zax, zay, zaz, zba, zbb, zbc, zbd, zbe, zbf, zbg, zbh, zbi, zbj, zbk, zbl, zbm, zbn, zbo, zbp, zbq, zbr, zbs, zbt, zbu, X.ev_t, X.ev_c, Fr.gs, zbv, zbw, zbx, zby, zbz, zca, zcb, zcc, zcd, zce, zcf, zcg, zch, zci, zcj, zck, zcl, zcm, zcn, zco, zcp, zcq, zcr, zcs, zct, zcu, zcv, zcw, zcx, zcy, zcz, zda, zdb, zdc, zdd, zde, zdf, zdg, zdh, zdi, zdj, zdk, zdl, zdm, zdn, one_tt, one_ff, zdo, nthD, zdp, zdq, zdr, zds, zdt, zdu, zdv, zdw, ne_eq, not_false_eq_true, zdx, zdy, zdz, bsl0, zea, zeb, zec, zed, zee, zef, List.length_cons, List.length_nil, Nat.zero_add, Nat.le_refl, Nat.reduceLeDiff, Nat.add_zero, Option.map_some, Option.map_none, Int.ofNat_lt, Int.ofNat_le, Prod.mk.injEq, and_false, false_and, decide_true, decide_false, Bool.not_true, Bool.not_false, Nat.reduceLT, Nat.reduceEqDiff, Nat.reduceAdd, Nat.reduceSub, if_true, if_false, reduceIte, Int.cast_ofNat_Int, Nat.reduceBEq, Nat.reduceMul, Nat.reduceDiv, Nat.reduceMod, and_true, true_and, and_self, reduceCtorEq, eq_self, zeg, zeh, zei, zej, zek, zel, zem, zen]
  obtain ⟨x, h', a, q⟩ := key.to
  exact ⟨x, h', a, q⟩
end Go.Im
open Go
set_option maxRecDepth 20000
namespace Go.Im
theorem OwnL.only {b : Nat} {h h' : H} {v : V} {l : List Lt} (o : OwnL b h v l) (g : ∀ f xs ver dead, h.get f = some (.cells xs ver dead .rw 54) → h'.get f = h.get f) : OwnL b h' v l := by
  rcases o with a | ⟨f, ver, off, cap, e, hb, o⟩
  · exact .inl a
  · obtain ⟨xs, dead, q1, q⟩ := id o
    exact .inr ⟨f, ver, off, cap, e, hb, o.keep (g f xs ver dead q1)⟩
/-- a slice of slices that grows at its end -/
def OutS (b : Nat) (h : H) (v : V) (vs : List V) : Prop := (v = .snil ∧ vs = []) ∨ ∃ f ver dead, v = .sl f ver 0 vs.length 1 none ∧ h.get f = some (.cells vs ver dead .rw 25) ∧ dead ≤ ver ∧ b ≤ pNat f
theorem OutS.grew {b : Nat} {h h' : H} {v : V} {vs : List V} (o : OutS b h v vs) (hk : h.ok) (g : Grew h h') : OutS b h' v vs := by
  rcases o with a | ⟨f, ver, dead, e, q, q2, q3⟩
  · exact .inl a
  · exact .inr ⟨f, ver, dead, e, g.keep hk q, q2, q3⟩
theorem out_app {b : Nat} {h0 h : H} {v x : V} {vs : List V} (o : OutS b h v vs) (g0 : Grew h0 h) (hb : pNat h0.next ≤ b) (hbn : b ≤ pNat h.next) (hn : vs.length ≤ 1000) :
    ∃ v' h', appV (h.new (.cells [x] 0 0 .rw 25)) 25 1 24 v (.sl h.next 0 0 1 1 (some 1)) = some (v', h') ∧ OutS b h' v' (vs ++ [x]) ∧ Grew h0 h' ∧ b ≤ pNat h'.next ∧ ∀ f xs ver dead, h.get f = some (.cells xs ver dead .rw 54) → h'.get f = h.get f := by
  have hk := g0.ok
  have g1 := g0.new (.cells [x] 0 0 .rw 25)
  have hsrc : appV (h.new (.cells [x] 0 0 .rw 25)) 25 1 24 v (.sl h.next 0 0 1 1 (some 1)) = append (h.new (.cells [x] 0 0 .rw 25)) 25 1 24 1 [x] v := by
    have : srcCells (h.new (.cells [x] 0 0 .rw 25)) 1 1 (.sl h.next 0 0 1 1 (some 1)) = some [x] := by
      have hl := live_at (k := 0) (H.get_new_same h (.cells [x] 0 0 .rw 25)) (Nat.le_refl _) (Nat.le_refl _)
      show (match Nat.beq 1 1 && Nat.ble 1 1 with
        | true => rangeO (live (h.new (.cells [x] 0 0 .rw 25)) h.next 0) 0 (1 * 1)
        | false => none) = _
      rw [hl]; rfl
    unfold appV
    show (match srcCells (h.new (.cells [x] 0 0 .rw 25)) 1 1 (.sl h.next 0 0 1 1 (some 1)) with
      | some new => append (h.new (.cells [x] 0 0 .rw 25)) 25 1 24 1 new v
      | none => none) = _
    rw [this]
  rw [hsrc]
  rcases o with ⟨rfl, rfl⟩ | ⟨f, ver, dead, rfl, q1, q2, q3⟩
  · refine ⟨.sl (h.new (.cells [x] 0 0 .rw 25)).next 0 0 1 1 none, (h.new (.cells [x] 0 0 .rw 25)).new (.cells [x] 0 0 .rw 25), rfl, .inr ⟨_, 0, 0, rfl, H.get_new_same _ _, Nat.le_refl _, ?_⟩, g1.new _, ?_, fun f xs ver dead e => ?_⟩
    · rw [zdu, pSucc_nat]; omega
    · simp only [zdu, pSucc_nat]; omega
    · have := hk.lt e
      rw [H.get_new_ne _ _ (by rintro rfl; rw [zdu, pSucc_nat] at this; omega), H.get_new_ne _ _ (by rintro rfl; omega)]
  · have hlt := hk.lt q1
    have hf1 : (h.new (.cells [x] 0 0 .rw 25)).get f = some (.cells vs ver dead .rw 25) := by rw [H.get_new_ne _ _ (by rintro rfl; omega)]; exact q1
    have e1 : decide (vs.length + 1 ≤ 1099511627776) = true := by simp; omega
    have e2 : decide ((vs.length + 1) * 24 ≤ 1099511627776) = true := by simp; omega
    refine ⟨.sl f (ver + 1) 0 (vs.length + 1) 1 none, (h.new (.cells [x] 0 0 .rw 25)).set f (.cells (vs ++ [x]) (ver + 1) dead .rw 25), ?_, .inr ⟨f, ver + 1, dead, by simp, H.get_set_same _ _ _, by omega, q3⟩, g1.set (Nat.le_trans hb q3) (by rw [zdu, pSucc_nat]; omega) _, ?_, fun g xs ver' dead' e => ?_⟩
    · unfold append
      simp only [beq_dec, ble_dec, e1, e2, decide_true, Bool.and_self]
      show appU _ 25 1 1 [x] f ver 0 vs.length = _
      unfold appU
      rw [hf1]
      simp only [beq_dec, Md.isRw, ble_dec, q2, decide_true, Bool.and_self, Nat.mul_one, Nat.zero_add]
    · rw [next_set, zdu, pSucc_nat]; omega
    · have hne : g ≠ f := by rintro rfl; rw [q1] at e; simp at e
      have := hk.lt e
      rw [H.get_set_ne _ _ fun q => hne q.symm, H.get_new_ne _ _ (by rintro rfl; omega)]
theorem bsl1S {b : Nat} {h : H} {x : V} {l : List Lt} (o : OwnL b h x l) : bsliceV 25 1 1 [.snil] [(0, 1, x)] = some (.cells [x] 0 0 .rw 25, fun f => .sl f 0 0 1 1 (some 1)) := by
  rcases o with ⟨rfl, _⟩ | ⟨f, ver, off, cap, rfl, _⟩ <;> rfl
theorem out_clauses {b : Nat} {h : H} {v : V} {vs : List V} {ls : List (List Lt)} (o : OutS b h v vs) (hl : vs.length = ls.length) (hs : ∀ (i : Nat) (x : V) (l : List Lt), vs[i]? = some x → ls[i]? = some l → LitsOf h x l) : ClausesOf h v ls := by
  refine ⟨vs, ⟨fun e he => by obtain ⟨x, _, rfl⟩ := List.mem_map.1 he; rfl, ?_⟩, hl, hs⟩
  rcases o with ⟨rfl, rfl⟩ | ⟨f, ver, dead, rfl, q1, q2, q3⟩
  · exact .inl ⟨rfl, rfl⟩
  · have hfl : (vs.map fun x => [x]).flatten = vs := by
      clear hl hs q1
      induction vs with
      | nil => rfl
      | cons x vs ih => simpa using ih
    refine .inr ⟨f, ver, 0, none, by simp, vs, live_at q1 q2 (Nat.le_refl _), ?_, ?_⟩
    · rw [hfl]; omega
    · rw [hfl, List.drop_zero, List.take_length]
theorem app_ints {h : H} {w : V} {pv : List Int} (hk : h.ok) (r : IntsOf h w pv) (hn : pv.length ≤ 1000) : ∃ v' h', appV (h.new (.cells [] 0 0 .rw 3)) 3 1 8 (.sl h.next 0 0 0 1 (some 0)) w = some (v', h') ∧ IntsOf h' v' pv ∧ Grew h h' := by
  have g1 : Grew h (h.new (.cells [] 0 0 .rw 3)) := (Grew.refl hk).new _
  have r1 := r.grew hk g1
  have hfl : (pv.map fun n => [V.int .i64 n]).flatten = pv.map fun n => V.int .i64 n := by
    clear r r1 hn
    induction pv with
    | nil => rfl
    | cons x l ih => simp [ih]
  have hlen : (pv.map fun n => V.int .i64 n).length = pv.length := by simp
  have hsrc : srcLen w = some pv.length ∧ srcCells (h.new (.cells [] 0 0 .rw 3)) 1 pv.length w = some (pv.map fun n => V.int .i64 n) := by
    obtain ⟨hl, ⟨rfl, e⟩ | ⟨f, k, off, cap, rfl, c⟩⟩ := r1
    · have : pv = [] := by simpa using e
      subst this
      exact ⟨rfl, rfl⟩
    · rw [List.length_map]
      refine ⟨rfl, ?_⟩
      have := c.all (n := pv.length * 1) (by rw [hfl]; simp)
      rw [hfl] at this
      simp only [srcCells, beq_dec, ble_dec, Nat.le_refl, decide_true, Bool.and_self, this]
  have happ : appV (h.new (.cells [] 0 0 .rw 3)) 3 1 8 (.sl h.next 0 0 0 1 (some 0)) w = append (h.new (.cells [] 0 0 .rw 3)) 3 1 8 pv.length (pv.map fun n => V.int .i64 n) (.sl h.next 0 0 0 1 (some 0)) := by
    unfold appV
    rw [hsrc.1]
    simp only
    rw [hsrc.2]
  rw [happ]
  have e1 : decide (0 + pv.length ≤ 1099511627776) = true := by simp; omega
  have e2 : decide ((0 + pv.length) * 8 ≤ 1099511627776) = true := by simp; omega
  by_cases h0 : pv.length = 0
  · have : pv = [] := List.eq_nil_of_length_eq_zero h0
    subst this
    refine ⟨.sl h.next 0 0 0 1 (some 0), h.new (.cells [] 0 0 .rw 3), ?_, ints_new (l := []) rfl, g1⟩
    rfl
  · refine ⟨.sl (h.new (.cells [] 0 0 .rw 3)).next 0 0 pv.length 1 none, (h.new (.cells [] 0 0 .rw 3)).new (.cells (pv.map fun n => V.int .i64 n) 0 0 .rw 3), ?_, ints_new rfl, g1.new _⟩
    have hl := live_at (k := 0) (H.get_new_same h (.cells [] 0 0 .rw 3)) (Nat.le_refl _) (Nat.le_refl _)
    have hn : decide (pv.length ≤ 0) = false := by simp; intro e; simp [e] at h0
    have hz : decide (pv.length = 0) = false := by simp [h0]
    unfold append
    simp only [beq_dec, ble_dec, e1, e2, hz, decide_true, Bool.and_self]
    unfold appK
    simp only [ble_dec, Nat.zero_add, hn, hl]
    rfl
theorem Resolve_len (l : List (List Lt)) (pv : List Int) : (Law.Resolve l pv).1.length ≤ 100 := by
  unfold Law.Resolve
  split
  · simp
  split
  · simp
  split
  · simp
  split
  · simp
  split
  · simp
  split
  · simp
  split
  · simp
  · simp only; omega
variable (u : Ob)
theorem f4 {h : H} (hl : lies h u = true) : FnTo (PrL u) 4 [] h (.bool true) h := by
  refine (wFn_spec (v := .bool true) (h' := h) ?_ ⟨rfl, rfl⟩).is
  show (match lies h u with
    | true => some (V.bool true, h)
    | false => none) = _
  rw [hl]
/-- **the law holds on the ideal machine** -/
theorem f3 {v w : V} {ls : List (List Lt)} {pv : List Int} {h : H} (hk : h.ok) (hu : lies h u = true) (s : ClausesOf h v ls) (r : IntsOf h w pv) (hl : ls.length < 4611686018427387904) :
    ∃ h', FnTo (PrL u) 3 [v, w] h (.bool true) h' ∧ Grew h h' := by
  have key : wFn (PrL u) 3 [v, w] h fun x h' => x = .bool true ∧ Grew h h' := by
    refine wFn_run rfl F3_eq rfl ?_
    have c4 := f4 u hu
    by_cases h1 : 102 < ls.length
    · have h1' : (102 : Int) < (ls.length : Int) := by omega
      simp only [F3, zaa, zab, zac, zad, zae, zaf, zag, zah, zai, zaj, zak, zal, zam, zan, zao, zap, zaq, zar, zas, zat, zau, zav, zaw, zax, zay, zaz, zba, zbb, zbc, zbd, zbe, zbf, zbg, zbh, zbi, zbj, zbk, zbl, zbm, zbn, zbo, zbp, zbq, zbr, zbs, zbt, zbu, X.ev_t, X.ev_c, Fr.gs, zbv, zbw, zbx, zby, zbz, zca, zcb, zcc, zcd, zce, zcf, zcg, zch, zci, zcj, zck, zcl, zcm, zcn, zco, zcp, zcq, zcr, zcs, zct, zcu, zcv, zcw, zcx, zcy, zcz, zda, zdb, zdc, zdd, zde, zdf, zdg, zdh, zdi, zdj, zdk, zdl, zdm, zdn, one_tt, one_ff, zdo, nthD, zdp, zdq, zdr, zds, zdt, zdu, zdv, zdw, ne_eq, not_false_eq_true, zdx, zdy, zdz, bsl0, zea, zeb, zec, zed, zee, zef, List.length_cons, List.length_nil, Nat.zero_add, Nat.le_refl, Nat.reduceLeDiff, Nat.add_zero, Option.map_some, Option.map_none, Int.ofNat_lt, Int.ofNat_le, Prod.mk.injEq, and_false, false_and, decide_true, decide_false, Bool.not_true, Bool.not_false, Nat.reduceLT, Nat.reduceEqDiff, Nat.reduceAdd, Nat.reduceSub, if_true, if_false, reduceIte, Int.cast_ofNat_Int, Nat.reduceBEq, Nat.reduceMul, Nat.reduceDiv, Nat.reduceMod, and_true, true_and, and_self, reduceCtorEq, eq_self, zeg, zeh, zei, zej, zek, zel, zem, zen, c4.cl, s.vlen, h1']
      exact .refl hk
    have h1' : ¬ (102 : Int) < (ls.length : Int) := by omega
    by_cases h2 : 102 < pv.length
    · have h2' : (102 : Int) < (pv.length : Int) := by omega
      simp only [F3, zaa, zab, zac, zad, zae, zaf, zag, zah, zai, zaj, zak, zal, zam, zan, zao, zap, zaq, zar, zas, zat, zau, zav, zaw, zax, zay, zaz, zba, zbb, zbc, zbd, zbe, zbf, zbg, zbh, zbi, zbj, zbk, zbl, zbm, zbn, zbo, zbp, zbq, zbr, zbs, zbt, zbu, X.ev_t, X.ev_c, Fr.gs, zbv, zbw, zbx, zby, zbz, zca, zcb, zcc, zcd, zce, zcf, zcg, zch, zci, zcj, zck, zcl, zcm, zcn, zco, zcp, zcq, zcr, zcs, zct, zcu, zcv, zcw, zcx, zcy, zcz, zda, zdb, zdc, zdd, zde, zdf, zdg, zdh, zdi, zdj, zdk, zdl, zdm, zdn, one_tt, one_ff, zdo, nthD, zdp, zdq, zdr, zds, zdt, zdu, zdv, zdw, ne_eq, not_false_eq_true, zdx, zdy, zdz, bsl0, zea, zeb, zec, zed, zee, zef, List.length_cons, List.length_nil, Nat.zero_add, Nat.le_refl, Nat.reduceLeDiff, Nat.add_zero, Option.map_some, Option.map_none, Int.ofNat_lt, Int.ofNat_le, Prod.mk.injEq, and_false, false_and, decide_true, decide_false, Bool.not_true, Bool.not_false, Nat.reduceLT, Nat.reduceEqDiff, Nat.reduceAdd, Nat.reduceSub, if_true, if_false, reduceIte, Int.cast_ofNat_Int, Nat.reduceBEq, Nat.reduceMul, Nat.reduceDiv, Nat.reduceMod, and_true, true_and, and_self, reduceCtorEq, eq_self, zeg, zeh, zei, zej, zek, zel, zem, zen, c4.cl, s.vlen, h1', r.vlen, h2']
      exact .refl hk
    have h2' : ¬ (102 : Int) < (pv.length : Int) := by omega
    simp only [F3, zaa, zab, zac, zad, zae, zaf, zag, zah, zai, zaj, zak, zal, zam, zan, zao, zap, zaq, zar, zas, zat, zau, zav, zaw, zax, zay, zaz, zba, zbb, zbc, zbd, zbe, zbf, zbg, zbh, zbi, zbj, zbk, zbl, zbm, zbn, zbo, zbp, zbq, zbr, zbs, zbt, zbu, X.ev_t, X.ev_c, Fr.gs, zbv, zbw, zbx, zby, zbz, zca, zcb, zcc, zcd, zce, zcf, zcg, zch, zci, zcj, zck, zcl, zcm, zcn, zco, zcp, zcq, zcr, zcs, zct, zcu, zcv, zcw, zcx, zcy, zcz, zda, zdb, zdc, zdd, zde, zdf, zdg, zdh, zdi, zdj, zdk, zdl, zdm, zdn, one_tt, one_ff, zdo, nthD, zdp, zdq, zdr, zds, zdt, zdu, zdv, zdw, ne_eq, not_false_eq_true, zdx, zdy, zdz, bsl0, zea, zeb, zec, zed, zee, zef, List.length_cons, List.length_nil, Nat.zero_add, Nat.le_refl, Nat.reduceLeDiff, Nat.add_zero, Option.map_some, Option.map_none, Int.ofNat_lt, Int.ofNat_le, Prod.mk.injEq, and_false, false_and, decide_true, decide_false, Bool.not_true, Bool.not_false, Nat.reduceLT, Nat.reduceEqDiff, Nat.reduceAdd, Nat.reduceSub, if_true, if_false, reduceIte, Int.cast_ofNat_Int, Nat.reduceBEq, Nat.reduceMul, Nat.reduceDiv, Nat.reduceMod, and_true, true_and, and_self, reduceCtorEq, eq_self, zeg, zeh, zei, zej, zek, zel, zem, zen, c4.cl, s.vlen, h1', r.vlen, h2']
    refine wk_loop (fun m t => ∃ (i : Nat) (fr : Fr) (h1 : H) (o : V) (vs : List V), t = ⟨fr, [], h1⟩ ∧ Grew h h1 ∧ i ≤ ls.length ∧ m = ls.length - i ∧ OutS (pNat h.next) h1 o vs ∧ vs.length = i ∧ (∀ (j : Nat) (x : V) (l : List Lt), vs[j]? = some x → ls[j]? = some l → OwnL (pNat h.next) h1 x l ∧ l.length ≤ 101) ∧
      fr.get (sOf 0) = v ∧ fr.get (sOf 1) = w ∧ fr.get (sOf 5) = o ∧ fr.get (sOf 25) = v ∧ fr.get (sOf 26) = .int .i64 (ls.length : Nat) ∧ fr.get (sOf 27) = .int .i64 (i : Nat)) ?_ ⟨0, _, h, .snil, [], rfl, .refl hk, Nat.zero_le _, rfl, .inl ⟨rfl, rfl⟩, rfl, fun j x l hx => by simp at hx, ?_, ?_, ?_, ?_, ?_, ?_⟩
    · rintro m t ⟨i, fr, h1, o, vs, rfl, g1, hi, rfl, ho, hvl, hvs, e0, e1, e5, e25, e26, e27⟩
      have s1 := s.grew hk g1
      by_cases hlt : i < ls.length
      · obtain ⟨c, hci⟩ : ∃ c, ls[i]? = some c := ⟨ls[i], List.getElem?_eq_getElem hlt⟩
        obtain ⟨cv, hcv, sc⟩ := s1.load hci
        by_cases hc : 101 < c.length
        · have hc' : (101 : Int) < (c.length : Int) := by omega
          simp only [zaa, zab, zac, zad, zae, zaf, zag, zah, zai, zaj, zak, zal, zam, zan, zao, zap, zaq, zar, zas, zat, zau, zav, zaw, zax, zay, zaz, zba, zbb, zbc, zbd, zbe, zbf, zbg, zbh, zbi, zbj, zbk, zbl, zbm, zbn, zbo, zbp, zbq, zbr, zbs, zbt, zbu, X.ev_t, X.ev_c, Fr.gs, zbv, zbw, zbx, zby, zbz, zca, zcb, zcc, zcd, zce, zcf, zcg, zch, zci, zcj, zck, zcl, zcm, zcn, zco, zcp, zcq, zcr, zcs, zct, zcu, zcv, zcw, zcx, zcy, zcz, zda, zdb, zdc, zdd, zde, zdf, zdg, zdh, zdi, zdj, zdk, zdl, zdm, zdn, one_tt, one_ff, zdo, nthD, zdp, zdq, zdr, zds, zdt, zdu, zdv, zdw, ne_eq, not_false_eq_true, zdx, zdy, zdz, bsl0, zea, zeb, zec, zed, zee, zef, List.length_cons, List.length_nil, Nat.zero_add, Nat.le_refl, Nat.reduceLeDiff, Nat.add_zero, Option.map_some, Option.map_none, Int.ofNat_lt, Int.ofNat_le, Prod.mk.injEq, and_false, false_and, decide_true, decide_false, Bool.not_true, Bool.not_false, Nat.reduceLT, Nat.reduceEqDiff, Nat.reduceAdd, Nat.reduceSub, if_true, if_false, reduceIte, Int.cast_ofNat_Int, Nat.reduceBEq, Nat.reduceMul, Nat.reduceDiv, Nat.reduceMod, and_true, true_and, and_self, reduceCtorEq, eq_self, zeg, zeh, zei, zej, zek, zel, zem, zen, e0, e1, e5, e25, e26, e27, hlt, s1.addr hlt, hcv, sc.vlen, hc']
          exact g1
        · have hc' : ¬ (101 : Int) < (c.length : Int) := by omega
          have gE : Grew h1 (h1.new (.cells [] 0 0 .rw 54)) := (Grew.refl g1.ok).new _
          obtain ⟨v37, h2, a1, o37, g2⟩ := app_grew (own_empty g1.ok) (sc.grew g1.ok gE) gE (Nat.le_refl _) gE.next (by simp; omega)
          obtain ⟨v39, h3, a2, o39, g3, n3, k3⟩ := out_app (x := v37) (ho.grew g1.ok g2) (g1.trans g2) (Nat.le_refl _) (g1.trans g2).next (by omega)
          simp only [zaa, zab, zac, zad, zae, zaf, zag, zah, zai, zaj, zak, zal, zam, zan, zao, zap, zaq, zar, zas, zat, zau, zav, zaw, zax, zay, zaz, zba, zbb, zbc, zbd, zbe, zbf, zbg, zbh, zbi, zbj, zbk, zbl, zbm, zbn, zbo, zbp, zbq, zbr, zbs, zbt, zbu, X.ev_t, X.ev_c, Fr.gs, zbv, zbw, zbx, zby, zbz, zca, zcb, zcc, zcd, zce, zcf, zcg, zch, zci, zcj, zck, zcl, zcm, zcn, zco, zcp, zcq, zcr, zcs, zct, zcu, zcv, zcw, zcx, zcy, zcz, zda, zdb, zdc, zdd, zde, zdf, zdg, zdh, zdi, zdj, zdk, zdl, zdm, zdn, one_tt, one_ff, zdo, nthD, zdp, zdq, zdr, zds, zdt, zdu, zdv, zdw, ne_eq, not_false_eq_true, zdx, zdy, zdz, bsl0, zea, zeb, zec, zed, zee, zef, List.length_cons, List.length_nil, Nat.zero_add, Nat.le_refl, Nat.reduceLeDiff, Nat.add_zero, Option.map_some, Option.map_none, Int.ofNat_lt, Int.ofNat_le, Prod.mk.injEq, and_false, false_and, decide_true, decide_false, Bool.not_true, Bool.not_false, Nat.reduceLT, Nat.reduceEqDiff, Nat.reduceAdd, Nat.reduceSub, if_true, if_false, reduceIte, Int.cast_ofNat_Int, Nat.reduceBEq, Nat.reduceMul, Nat.reduceDiv, Nat.reduceMod, and_true, true_and, and_self, reduceCtorEq, eq_self, zeg, zeh, zei, zej, zek, zel, zem, zen, e0, e1, e5, e25, e26, e27, hlt, s1.addr hlt, hcv, sc.vlen, hc', a1, bsl1S o37, a2, wrap_succ (show i < 9223372036854775807 by omega)]
          refine ⟨ls.length - (i + 1), by omega, i + 1, _, h3, v39, vs ++ [v37], rfl, g3, by omega, rfl, o39, by simp [hvl], fun j x l hx hlj => ?_, ?_, ?_, ?_, ?_, ?_, ?_⟩
          · rcases Nat.lt_or_ge j vs.length with hj | hj
            · rw [List.getElem?_append_left hj] at hx
              obtain ⟨q1, q2⟩ := hvs j x l hx hlj
              exact ⟨(q1.grew g1.ok g2).only k3, q2⟩
            · rw [List.getElem?_append_right hj] at hx
              have hj0 : j - vs.length = 0 := by
                rcases Nat.eq_zero_or_pos (j - vs.length) with h | h
                · exact h
                · rw [List.getElem?_eq_none (by simp; omega)] at hx; cases hx
              have hji : j = i := by omega
              rw [hj0] at hx
              simp at hx
              subst hx; subst hji
              rw [hci] at hlj; cases hlj
              exact ⟨(o37.only k3).mono g1.next, by omega⟩
          all_goals simp only [zaa, zab, zac, zad, zae, zaf, zag, zah, zai, zaj, zak, zal, zam, zan, zao, zap, zaq, zar, zas, zat, zau, zav, zaw, zax, zay, zaz, zba, zbb, zbc, zbd, zbe, zbf, zbg, zbh, zbi, zbj, zbk, zbl, zbm, zbn, zbo, zbp, zbq, zbr, zbs, zbt, zbu, X.ev_t, X.ev_c, Fr.gs, zbv, zbw, zbx, zby, zbz, zca, zcb, zcc, zcd, zce, zcf, zcg, zch, zci, zcj, zck, zcl, zcm, zcn, zco, zcp, zcq, zcr, zcs, zct, zcu, zcv, zcw, zcx, zcy, zcz, zda, zdb, zdc, zdd, zde, zdf, zdg, zdh, zdi, zdj, zdk, zdl, zdm, zdn, one_tt, one_ff, zdo, nthD, zdp, zdq, zdr, zds, zdt, zdu, zdv, zdw, ne_eq, not_false_eq_true, zdx, zdy, zdz, bsl0, zea, zeb, zec, zed, zee, zef, List.length_cons, List.length_nil, Nat.zero_add, Nat.le_refl, Nat.reduceLeDiff, Nat.add_zero, Option.map_some, Option.map_none, Int.ofNat_lt, Int.ofNat_le, Prod.mk.injEq, and_false, false_and, decide_true, decide_false, Bool.not_true, Bool.not_false, Nat.reduceLT, Nat.reduceEqDiff, Nat.reduceAdd, Nat.reduceSub, if_true, if_false, reduceIte, Int.cast_ofNat_Int, Nat.reduceBEq, Nat.reduceMul, Nat.reduceDiv, Nat.reduceMod, and_true, true_and, and_self, reduceCtorEq, eq_self, zeg, zeh, zei, zej, zek, zel, zem, zen, e0, e1, e25, e26]
      · have hil : i = ls.length := by omega
        have so : ClausesOf h1 o ls := out_clauses ho (by omega) fun j x l hx hlj => (hvs j x l hx hlj).1.lits
        have hcs : ∀ l ∈ ls, l.length ≤ 101 := fun l hm => by
          obtain ⟨j, hj, e⟩ := List.getElem_of_mem hm
          have hjv : j < vs.length := by omega
          exact (hvs j _ l (List.getElem?_eq_getElem hjv) (by rw [List.getElem?_eq_getElem hj, e])).2
        obtain ⟨v45, h2, a1, r45, g2⟩ := app_ints g1.ok (r.grew hk g1) (by omega)
        obtain ⟨x5, h3, c5, e5', x5e, l5, g3⟩ := f5 u g2.ok (so.grew g1.ok g2) r45 (by omega) (by omega) hcs
        have g13 := g1.trans (g2.trans g3)
        obtain ⟨x6, h4, c6, e6', x6e, l6, g4⟩ := f6 u g3.ok (s.grew hk g13) (r.grew hk g13) (by omega) (by omega) hcs
        subst x5e; subst x6e
        have hrl := Resolve_len ls pv
        have c7 := f7 u (l5.grew g3.ok g4) l6 (by omega) (by omega)
        have hnlt : ¬ (ls.length < ls.length) := Nat.lt_irrefl _
        simp only [zaa, zab, zac, zad, zae, zaf, zag, zah, zai, zaj, zak, zal, zam, zan, zao, zap, zaq, zar, zas, zat, zau, zav, zaw, zax, zay, zaz, zba, zbb, zbc, zbd, zbe, zbf, zbg, zbh, zbi, zbj, zbk, zbl, zbm, zbn, zbo, zbp, zbq, zbr, zbs, zbt, zbu, X.ev_t, X.ev_c, Fr.gs, zbv, zbw, zbx, zby, zbz, zca, zcb, zcc, zcd, zce, zcf, zcg, zch, zci, zcj, zck, zcl, zcm, zcn, zco, zcp, zcq, zcr, zcs, zct, zcu, zcv, zcw, zcx, zcy, zcz, zda, zdb, zdc, zdd, zde, zdf, zdg, zdh, zdi, zdj, zdk, zdl, zdm, zdn, one_tt, one_ff, zdo, nthD, zdp, zdq, zdr, zds, zdt, zdu, zdv, zdw, ne_eq, not_false_eq_true, zdx, zdy, zdz, bsl0, zea, zeb, zec, zed, zee, zef, List.length_cons, List.length_nil, Nat.zero_add, Nat.le_refl, Nat.reduceLeDiff, Nat.add_zero, Option.map_some, Option.map_none, Int.ofNat_lt, Int.ofNat_le, Prod.mk.injEq, and_false, false_and, decide_true, decide_false, Bool.not_true, Bool.not_false, Nat.reduceLT, Nat.reduceEqDiff, Nat.reduceAdd, Nat.reduceSub, if_true, if_false, reduceIte, Int.cast_ofNat_Int, Nat.reduceBEq, Nat.reduceMul, Nat.reduceDiv, Nat.reduceMod, and_true, true_and, and_self, reduceCtorEq, eq_self, zeg, zeh, zei, zej, zek, zel, zem, zen, e0, e1, e5, e25, e26, e27, hil, hnlt, Int.lt_irrefl, a1, c5.cl, tup0, tup1, c6.cl, c7.cl]
        exact g13.trans g4
    all_goals simp only [zaa, zab, zac, zad, zae, zaf, zag, zah, zai, zaj, zak, zal, zam, zan, zao, zap, zaq, zar, zas, zat, zau, zav, zaw, zax, zay, zaz, zba, zbb, zbc, zbd, zbe, zbf, zbg, zbh, zbi, zbj, zbk, zbl, zbm, zbn, zbo, zbp, zbq, zbr, zbs, zbt, zbu, X.ev_t, X.ev_c, Fr.gs, zbv, zbw, zbx, zby, zbz, zca, zcb, zcc, zcd, zce, zcf, zcg, zch, zci, zcj, zck, zcl, zcm, zcn, zco, zcp, zcq, zcr, zcs, zct, zcu, zcv, zcw, zcx, zcy, zcz, zda, zdb, zdc, zdd, zde, zdf, zdg, zdh, zdi, zdj, zdk, zdl, zdm, zdn, one_tt, one_ff, zdo, nthD, zdp, zdq, zdr, zds, zdt, zdu, zdv, zdw, ne_eq, not_false_eq_true, zdx, zdy, zdz, bsl0, zea, zeb, zec, zed, zee, zef, List.length_cons, List.length_nil, Nat.zero_add, Nat.le_refl, Nat.reduceLeDiff, Nat.add_zero, Option.map_some, Option.map_none, Int.ofNat_lt, Int.ofNat_le, Prod.mk.injEq, and_false, false_and, decide_true, decide_false, Bool.not_true, Bool.not_false, Nat.reduceLT, Nat.reduceEqDiff, Nat.reduceAdd, Nat.reduceSub, if_true, if_false, reduceIte, Int.cast_ofNat_Int, Nat.reduceBEq, Nat.reduceMul, Nat.reduceDiv, Nat.reduceMod, and_true, true_and, and_self, reduceCtorEq, eq_self, zeg, zeh, zei, zej, zek, zel, zem, zen]
  obtain ⟨x, h', a, rfl, g⟩ := key.to
  exact ⟨h', a, g⟩
end Go.Im
