/- A part of the proof that ProofResolves holds for every input of the given program: Lp, C1, C2, C3, C4, Ow, Ow2, C5. -/
import Derived.Test.YtmdaoiabedkpcaaGreatDoorQ03
import Derived.Test.YtmdaoiabedkpcaaGreatDoorQ05
set_option linter.unusedVariables false
set_option linter.unusedSimpArgs false
open Go
namespace Go.Im
/-! the machine's program for the law: with what awake and slices.SortFunc answer -/
noncomputable def spAwake (u : Ob) : Sp := fun args h => match args with
  | [] => match lies h u with
    | true => some (.bool true, h)
    | false => none
  | _ => none
noncomputable def PrL (u : Ob) : Prog := { Pr0 with spec := fun g args h => match Nat.beq g 4 with
  | true => spAwake u args h
  | false => match Nat.beq g 187 with
    | true => spSortL 77 args h
    | false => specK ids g args h }
theorem lies_grew {h h' : H} (g : Grew h h') (hk : h.ok) : ∀ {u : Ob}, lies h u = true → lies h' u = true
  | [], _ => rfl
  | (f, o) :: u, hl => by
    have hl' : (match h.get f with
      | some o1 => match O.same o1 o with
        | true => lies h u
        | false => false
      | none => false) = true := hl
    show (match h'.get f with
      | some o1 => match O.same o1 o with
        | true => lies h' u
        | false => false
      | none => false) = true
    cases hg : h.get f with
    | none => rw [hg] at hl'; cases hl'
    | some o1 =>
      rw [hg] at hl'
      rw [g.keep hk hg]
      simp only at hl' ⊢
      split at hl'
      · rename_i hs
        exact lies_grew g hk hl'
      · cases hl'
end Go.Im
open Go
set_option maxRecDepth 20000
namespace Go.Im
variable (u : Ob)
abbrev bx (x : Lt) : O := .cells [.int .i64 x.1, .bool x.2] 0 0 .rw 54
def cmpL (x y : Lt) : Int := if x.1 ≠ y.1 then (if x.1 < y.1 then -1 else if y.1 < x.1 then 1 else 0) else if x = y then 0 else if y.2 then -1 else 1
abbrev lv (x : Lt) : V := .agg [.int .i64 x.1, .bool x.2]
theorem f24 (b : Bool) (e : Int) (h : H) : FnTo (PrL u) 24 [.bool b, .int .i64 e] h (.int .i64 (if b = true then e else 0)) h := by
  refine (wFn_run rfl F24_eq rfl ?_).is
  simp only [F24, zaa, zab, zac, zad, zae, zaf, zag, zah, zai, zaj, zak, zal, zam, zan, zao, zap, zaq, zar, zas, zat, zau, zav, zaw, zax, zay, zaz, zba, zbb, zbc, zbd, zbe, zbf, zbg, zbh, zbi, zbj, zbk, zbl, zbm, zbn, zbo, zbp, zbq, zbr, zbs, zbt, zbu, X.ev_t, X.ev_c, Fr.gs, zbv, zbw, zbx, zby, zbz, zca, zcb, zcc, zcd, zce, zcf, zcg, zch, zci, zcj, zck, zcl, zcm, zcn, zco, zcp, zcq, zcr, zcs, zct, zcu, zcv, zcw, zcx, zcy, zcz, zda, zdb, zdc, zdd, zde, zdf, zdg, zdh, zdi, zdj, zdk, zdl, zdm, zdn, one_tt, one_ff, zdo, nthD, zdp, zdq, zdr, zds, zdt, zdu, zdv, zdw, ne_eq, not_false_eq_true, zdx, zdy, zdz, bsl0, zea, zeb, zec, zed, zee, zef, List.length_cons, List.length_nil, Nat.zero_add, Nat.le_refl, Nat.reduceLeDiff, Nat.add_zero, Option.map_some, Option.map_none, Int.ofNat_lt, Int.ofNat_le, Prod.mk.injEq, and_false, false_and, decide_true, decide_false, Bool.not_true, Bool.not_false, Nat.reduceLT, Nat.reduceEqDiff, Nat.reduceAdd, Nat.reduceSub, if_true, if_false, reduceIte, Int.cast_ofNat_Int, Nat.reduceBEq, Nat.reduceMul, Nat.reduceDiv, Nat.reduceMod, and_true, true_and, and_self, reduceCtorEq, eq_self, zeg, zeh, zei, zej, zek, zel, zem, zen]
  rw [wCd_bool]
  refine ⟨fun hb => ?_, fun hb => ?_⟩ <;> subst hb <;> simp only [zaa, zab, zac, zad, zae, zaf, zag, zah, zai, zaj, zak, zal, zam, zan, zao, zap, zaq, zar, zas, zat, zau, zav, zaw, zax, zay, zaz, zba, zbb, zbc, zbd, zbe, zbf, zbg, zbh, zbi, zbj, zbk, zbl, zbm, zbn, zbo, zbp, zbq, zbr, zbs, zbt, zbu, X.ev_t, X.ev_c, Fr.gs, zbv, zbw, zbx, zby, zbz, zca, zcb, zcc, zcd, zce, zcf, zcg, zch, zci, zcj, zck, zcl, zcm, zcn, zco, zcp, zcq, zcr, zcs, zct, zcu, zcv, zcw, zcx, zcy, zcz, zda, zdb, zdc, zdd, zde, zdf, zdg, zdh, zdi, zdj, zdk, zdl, zdm, zdn, one_tt, one_ff, zdo, nthD, zdp, zdq, zdr, zds, zdt, zdu, zdv, zdw, ne_eq, not_false_eq_true, zdx, zdy, zdz, bsl0, zea, zeb, zec, zed, zee, zef, List.length_cons, List.length_nil, Nat.zero_add, Nat.le_refl, Nat.reduceLeDiff, Nat.add_zero, Option.map_some, Option.map_none, Int.ofNat_lt, Int.ofNat_le, Prod.mk.injEq, and_false, false_and, decide_true, decide_false, Bool.not_true, Bool.not_false, Nat.reduceLT, Nat.reduceEqDiff, Nat.reduceAdd, Nat.reduceSub, if_true, if_false, reduceIte, Int.cast_ofNat_Int, Nat.reduceBEq, Nat.reduceMul, Nat.reduceDiv, Nat.reduceMod, and_true, true_and, and_self, reduceCtorEq, eq_self, zeg, zeh, zei, zej, zek, zel, zem, zen] <;> simp
theorem f30 (b : Bool) (e : Int) (h : H) : FnTo (PrL u) 30 [.bool b, .int .i64 e] h (.int .i64 (if b = true then e else 0)) h := by
  refine (wFn_run rfl F30_eq rfl ?_).is
  simp only [F30, zaa, zab, zac, zad, zae, zaf, zag, zah, zai, zaj, zak, zal, zam, zan, zao, zap, zaq, zar, zas, zat, zau, zav, zaw, zax, zay, zaz, zba, zbb, zbc, zbd, zbe, zbf, zbg, zbh, zbi, zbj, zbk, zbl, zbm, zbn, zbo, zbp, zbq, zbr, zbs, zbt, zbu, X.ev_t, X.ev_c, Fr.gs, zbv, zbw, zbx, zby, zbz, zca, zcb, zcc, zcd, zce, zcf, zcg, zch, zci, zcj, zck, zcl, zcm, zcn, zco, zcp, zcq, zcr, zcs, zct, zcu, zcv, zcw, zcx, zcy, zcz, zda, zdb, zdc, zdd, zde, zdf, zdg, zdh, zdi, zdj, zdk, zdl, zdm, zdn, one_tt, one_ff, zdo, nthD, zdp, zdq, zdr, zds, zdt, zdu, zdv, zdw, ne_eq, not_false_eq_true, zdx, zdy, zdz, bsl0, zea, zeb, zec, zed, zee, zef, List.length_cons, List.length_nil, Nat.zero_add, Nat.le_refl, Nat.reduceLeDiff, Nat.add_zero, Option.map_some, Option.map_none, Int.ofNat_lt, Int.ofNat_le, Prod.mk.injEq, and_false, false_and, decide_true, decide_false, Bool.not_true, Bool.not_false, Nat.reduceLT, Nat.reduceEqDiff, Nat.reduceAdd, Nat.reduceSub, if_true, if_false, reduceIte, Int.cast_ofNat_Int, Nat.reduceBEq, Nat.reduceMul, Nat.reduceDiv, Nat.reduceMod, and_true, true_and, and_self, reduceCtorEq, eq_self, zeg, zeh, zei, zej, zek, zel, zem, zen]
  rw [wCd_bool]
  refine ⟨fun hb => ?_, fun hb => ?_⟩ <;> subst hb <;> simp only [zaa, zab, zac, zad, zae, zaf, zag, zah, zai, zaj, zak, zal, zam, zan, zao, zap, zaq, zar, zas, zat, zau, zav, zaw, zax, zay, zaz, zba, zbb, zbc, zbd, zbe, zbf, zbg, zbh, zbi, zbj, zbk, zbl, zbm, zbn, zbo, zbp, zbq, zbr, zbs, zbt, zbu, X.ev_t, X.ev_c, Fr.gs, zbv, zbw, zbx, zby, zbz, zca, zcb, zcc, zcd, zce, zcf, zcg, zch, zci, zcj, zck, zcl, zcm, zcn, zco, zcp, zcq, zcr, zcs, zct, zcu, zcv, zcw, zcx, zcy, zcz, zda, zdb, zdc, zdd, zde, zdf, zdg, zdh, zdi, zdj, zdk, zdl, zdm, zdn, one_tt, one_ff, zdo, nthD, zdp, zdq, zdr, zds, zdt, zdu, zdv, zdw, ne_eq, not_false_eq_true, zdx, zdy, zdz, bsl0, zea, zeb, zec, zed, zee, zef, List.length_cons, List.length_nil, Nat.zero_add, Nat.le_refl, Nat.reduceLeDiff, Nat.add_zero, Option.map_some, Option.map_none, Int.ofNat_lt, Int.ofNat_le, Prod.mk.injEq, and_false, false_and, decide_true, decide_false, Bool.not_true, Bool.not_false, Nat.reduceLT, Nat.reduceEqDiff, Nat.reduceAdd, Nat.reduceSub, if_true, if_false, reduceIte, Int.cast_ofNat_Int, Nat.reduceBEq, Nat.reduceMul, Nat.reduceDiv, Nat.reduceMod, and_true, true_and, and_self, reduceCtorEq, eq_self, zeg, zeh, zei, zej, zek, zel, zem, zen] <;> simp
theorem f26 (x : Lt) (h : H) : FnTo (PrL u) 26 [lv x] h (.bool (decide (x.1 < 0))) (h.new (bx x)) := by
  refine (wFn_run rfl F26_eq rfl ?_).is
  simp only [F26, zaa, zab, zac, zad, zae, zaf, zag, zah, zai, zaj, zak, zal, zam, zan, zao, zap, zaq, zar, zas, zat, zau, zav, zaw, zax, zay, zaz, zba, zbb, zbc, zbd, zbe, zbf, zbg, zbh, zbi, zbj, zbk, zbl, zbm, zbn, zbo, zbp, zbq, zbr, zbs, zbt, zbu, X.ev_t, X.ev_c, Fr.gs, zbv, zbw, zbx, zby, zbz, zca, zcb, zcc, zcd, zce, zcf, zcg, zch, zci, zcj, zck, zcl, zcm, zcn, zco, zcp, zcq, zcr, zcs, zct, zcu, zcv, zcw, zcx, zcy, zcz, zda, zdb, zdc, zdd, zde, zdf, zdg, zdh, zdi, zdj, zdk, zdl, zdm, zdn, one_tt, one_ff, zdo, nthD, zdp, zdq, zdr, zds, zdt, zdu, zdv, zdw, ne_eq, not_false_eq_true, zdx, zdy, zdz, bsl0, zea, zeb, zec, zed, zee, zef, List.length_cons, List.length_nil, Nat.zero_add, Nat.le_refl, Nat.reduceLeDiff, Nat.add_zero, Option.map_some, Option.map_none, Int.ofNat_lt, Int.ofNat_le, Prod.mk.injEq, and_false, false_and, decide_true, decide_false, Bool.not_true, Bool.not_false, Nat.reduceLT, Nat.reduceEqDiff, Nat.reduceAdd, Nat.reduceSub, if_true, if_false, reduceIte, Int.cast_ofNat_Int, Nat.reduceBEq, Nat.reduceMul, Nat.reduceDiv, Nat.reduceMod, and_true, true_and, and_self, reduceCtorEq, eq_self, zeg, zeh, zei, zej, zek, zel, zem, zen]
theorem f303 (a : Int) (h : H) : FnTo (PrL u) 303 [.int .i64 a] h (.bool false) h := by
  refine (wFn_run rfl F303_eq rfl ?_).is
  simp only [F303, zaa, zab, zac, zad, zae, zaf, zag, zah, zai, zaj, zak, zal, zam, zan, zao, zap, zaq, zar, zas, zat, zau, zav, zaw, zax, zay, zaz, zba, zbb, zbc, zbd, zbe, zbf, zbg, zbh, zbi, zbj, zbk, zbl, zbm, zbn, zbo, zbp, zbq, zbr, zbs, zbt, zbu, X.ev_t, X.ev_c, Fr.gs, zbv, zbw, zbx, zby, zbz, zca, zcb, zcc, zcd, zce, zcf, zcg, zch, zci, zcj, zck, zcl, zcm, zcn, zco, zcp, zcq, zcr, zcs, zct, zcu, zcv, zcw, zcx, zcy, zcz, zda, zdb, zdc, zdd, zde, zdf, zdg, zdh, zdi, zdj, zdk, zdl, zdm, zdn, one_tt, one_ff, zdo, nthD, zdp, zdq, zdr, zds, zdt, zdu, zdv, zdw, ne_eq, not_false_eq_true, zdx, zdy, zdz, bsl0, zea, zeb, zec, zed, zee, zef, List.length_cons, List.length_nil, Nat.zero_add, Nat.le_refl, Nat.reduceLeDiff, Nat.add_zero, Option.map_some, Option.map_none, Int.ofNat_lt, Int.ofNat_le, Prod.mk.injEq, and_false, false_and, decide_true, decide_false, Bool.not_true, Bool.not_false, Nat.reduceLT, Nat.reduceEqDiff, Nat.reduceAdd, Nat.reduceSub, if_true, if_false, reduceIte, Int.cast_ofNat_Int, Nat.reduceBEq, Nat.reduceMul, Nat.reduceDiv, Nat.reduceMod, and_true, true_and, and_self, reduceCtorEq, eq_self, zeg, zeh, zei, zej, zek, zel, zem, zen]
theorem f185 (a b : Int) (h : H) : FnTo (PrL u) 185 [.int .i64 a, .int .i64 b] h (.int .i64 (if a < b then -1 else if b < a then 1 else 0)) h := by
  refine (wFn_run rfl F185_eq rfl ?_).is
  simp only [F185, zaa, zab, zac, zad, zae, zaf, zag, zah, zai, zaj, zak, zal, zam, zan, zao, zap, zaq, zar, zas, zat, zau, zav, zaw, zax, zay, zaz, zba, zbb, zbc, zbd, zbe, zbf, zbg, zbh, zbi, zbj, zbk, zbl, zbm, zbn, zbo, zbp, zbq, zbr, zbs, zbt, zbu, X.ev_t, X.ev_c, Fr.gs, zbv, zbw, zbx, zby, zbz, zca, zcb, zcc, zcd, zce, zcf, zcg, zch, zci, zcj, zck, zcl, zcm, zcn, zco, zcp, zcq, zcr, zcs, zct, zcu, zcv, zcw, zcx, zcy, zcz, zda, zdb, zdc, zdd, zde, zdf, zdg, zdh, zdi, zdj, zdk, zdl, zdm, zdn, one_tt, one_ff, zdo, nthD, zdp, zdq, zdr, zds, zdt, zdu, zdv, zdw, ne_eq, not_false_eq_true, zdx, zdy, zdz, bsl0, zea, zeb, zec, zed, zee, zef, List.length_cons, List.length_nil, Nat.zero_add, Nat.le_refl, Nat.reduceLeDiff, Nat.add_zero, Option.map_some, Option.map_none, Int.ofNat_lt, Int.ofNat_le, Prod.mk.injEq, and_false, false_and, decide_true, decide_false, Bool.not_true, Bool.not_false, Nat.reduceLT, Nat.reduceEqDiff, Nat.reduceAdd, Nat.reduceSub, if_true, if_false, reduceIte, Int.cast_ofNat_Int, Nat.reduceBEq, Nat.reduceMul, Nat.reduceDiv, Nat.reduceMod, and_true, true_and, and_self, reduceCtorEq, eq_self, zeg, zeh, zei, zej, zek, zel, zem, zen, (f303 u _ _).cl]
  simp only [wCd_bool, zaa, zab, zac, zad, zae, zaf, zag, zah, zai, zaj, zak, zal, zam, zan, zao, zap, zaq, zar, zas, zat, zau, zav, zaw, zax, zay, zaz, zba, zbb, zbc, zbd, zbe, zbf, zbg, zbh, zbi, zbj, zbk, zbl, zbm, zbn, zbo, zbp, zbq, zbr, zbs, zbt, zbu, X.ev_t, X.ev_c, Fr.gs, zbv, zbw, zbx, zby, zbz, zca, zcb, zcc, zcd, zce, zcf, zcg, zch, zci, zcj, zck, zcl, zcm, zcn, zco, zcp, zcq, zcr, zcs, zct, zcu, zcv, zcw, zcx, zcy, zcz, zda, zdb, zdc, zdd, zde, zdf, zdg, zdh, zdi, zdj, zdk, zdl, zdm, zdn, one_tt, one_ff, zdo, nthD, zdp, zdq, zdr, zds, zdt, zdu, zdv, zdw, ne_eq, not_false_eq_true, zdx, zdy, zdz, bsl0, zea, zeb, zec, zed, zee, zef, List.length_cons, List.length_nil, Nat.zero_add, Nat.le_refl, Nat.reduceLeDiff, Nat.add_zero, Option.map_some, Option.map_none, Int.ofNat_lt, Int.ofNat_le, Prod.mk.injEq, and_false, false_and, decide_true, decide_false, Bool.not_true, Bool.not_false, Nat.reduceLT, Nat.reduceEqDiff, Nat.reduceAdd, Nat.reduceSub, if_true, if_false, reduceIte, Int.cast_ofNat_Int, Nat.reduceBEq, Nat.reduceMul, Nat.reduceDiv, Nat.reduceMod, and_true, true_and, and_self, reduceCtorEq, eq_self, zeg, zeh, zei, zej, zek, zel, zem, zen]
  by_cases h1 : a < b <;> by_cases h2 : b < a <;> simp [h1, h2]
theorem f77 (x y : Lt) (h : H) : FnTo (PrL u) 77 [lv x, lv y] h (.int .i64 (cmpL x y)) ((h.new (bx x)).new (bx y)) := by
  obtain ⟨a, b⟩ := x
  obtain ⟨c, d⟩ := y
  refine (wFn_run rfl F77_eq rfl ?_).is
  by_cases e : a = c
  · subst e
    cases b <;> cases d <;> simp only [F77, zaa, zab, zac, zad, zae, zaf, zag, zah, zai, zaj, zak, zal, zam, zan, zao, zap, zaq, zar, zas, zat, zau, zav, zaw, zax, zay, zaz, zba, zbb, zbc, zbd, zbe, zbf, zbg, zbh, zbi, zbj, zbk, zbl, zbm, zbn, zbo, zbp, zbq, zbr, zbs, zbt, zbu, X.ev_t, X.ev_c, Fr.gs, zbv, zbw, zbx, zby, zbz, zca, zcb, zcc, zcd, zce, zcf, zcg, zch, zci, zcj, zck, zcl, zcm, zcn, zco, zcp, zcq, zcr, zcs, zct, zcu, zcv, zcw, zcx, zcy, zcz, zda, zdb, zdc, zdd, zde, zdf, zdg, zdh, zdi, zdj, zdk, zdl, zdm, zdn, one_tt, one_ff, zdo, nthD, zdp, zdq, zdr, zds, zdt, zdu, zdv, zdw, ne_eq, not_false_eq_true, zdx, zdy, zdz, bsl0, zea, zeb, zec, zed, zee, zef, List.length_cons, List.length_nil, Nat.zero_add, Nat.le_refl, Nat.reduceLeDiff, Nat.add_zero, Option.map_some, Option.map_none, Int.ofNat_lt, Int.ofNat_le, Prod.mk.injEq, and_false, false_and, decide_true, decide_false, Bool.not_true, Bool.not_false, Nat.reduceLT, Nat.reduceEqDiff, Nat.reduceAdd, Nat.reduceSub, if_true, if_false, reduceIte, Int.cast_ofNat_Int, Nat.reduceBEq, Nat.reduceMul, Nat.reduceDiv, Nat.reduceMod, and_true, true_and, and_self, reduceCtorEq, eq_self, zeg, zeh, zei, zej, zek, zel, zem, zen] <;> simp [cmpL]
  · simp only [F77, zaa, zab, zac, zad, zae, zaf, zag, zah, zai, zaj, zak, zal, zam, zan, zao, zap, zaq, zar, zas, zat, zau, zav, zaw, zax, zay, zaz, zba, zbb, zbc, zbd, zbe, zbf, zbg, zbh, zbi, zbj, zbk, zbl, zbm, zbn, zbo, zbp, zbq, zbr, zbs, zbt, zbu, X.ev_t, X.ev_c, Fr.gs, zbv, zbw, zbx, zby, zbz, zca, zcb, zcc, zcd, zce, zcf, zcg, zch, zci, zcj, zck, zcl, zcm, zcn, zco, zcp, zcq, zcr, zcs, zct, zcu, zcv, zcw, zcx, zcy, zcz, zda, zdb, zdc, zdd, zde, zdf, zdg, zdh, zdi, zdj, zdk, zdl, zdm, zdn, one_tt, one_ff, zdo, nthD, zdp, zdq, zdr, zds, zdt, zdu, zdv, zdw, ne_eq, not_false_eq_true, zdx, zdy, zdz, bsl0, zea, zeb, zec, zed, zee, zef, List.length_cons, List.length_nil, Nat.zero_add, Nat.le_refl, Nat.reduceLeDiff, Nat.add_zero, Option.map_some, Option.map_none, Int.ofNat_lt, Int.ofNat_le, Prod.mk.injEq, and_false, false_and, decide_true, decide_false, Bool.not_true, Bool.not_false, Nat.reduceLT, Nat.reduceEqDiff, Nat.reduceAdd, Nat.reduceSub, if_true, if_false, reduceIte, Int.cast_ofNat_Int, Nat.reduceBEq, Nat.reduceMul, Nat.reduceDiv, Nat.reduceMod, and_true, true_and, and_self, reduceCtorEq, eq_self, zeg, zeh, zei, zej, zek, zel, zem, zen, (f185 u _ _ _).cl, e]
    simp [cmpL, e]
theorem f84 (x y : Lt) (h : H) : FnTo (PrL u) 84 [lv x, lv y] h (.bool (Law.lt x y)) ((h.new (bx x)).new (bx y)) := by
  obtain ⟨a, b⟩ := x
  obtain ⟨c, d⟩ := y
  refine (wFn_run rfl F84_eq rfl ?_).is
  by_cases e : a < c
  · simp only [F84, zaa, zab, zac, zad, zae, zaf, zag, zah, zai, zaj, zak, zal, zam, zan, zao, zap, zaq, zar, zas, zat, zau, zav, zaw, zax, zay, zaz, zba, zbb, zbc, zbd, zbe, zbf, zbg, zbh, zbi, zbj, zbk, zbl, zbm, zbn, zbo, zbp, zbq, zbr, zbs, zbt, zbu, X.ev_t, X.ev_c, Fr.gs, zbv, zbw, zbx, zby, zbz, zca, zcb, zcc, zcd, zce, zcf, zcg, zch, zci, zcj, zck, zcl, zcm, zcn, zco, zcp, zcq, zcr, zcs, zct, zcu, zcv, zcw, zcx, zcy, zcz, zda, zdb, zdc, zdd, zde, zdf, zdg, zdh, zdi, zdj, zdk, zdl, zdm, zdn, one_tt, one_ff, zdo, nthD, zdp, zdq, zdr, zds, zdt, zdu, zdv, zdw, ne_eq, not_false_eq_true, zdx, zdy, zdz, bsl0, zea, zeb, zec, zed, zee, zef, List.length_cons, List.length_nil, Nat.zero_add, Nat.le_refl, Nat.reduceLeDiff, Nat.add_zero, Option.map_some, Option.map_none, Int.ofNat_lt, Int.ofNat_le, Prod.mk.injEq, and_false, false_and, decide_true, decide_false, Bool.not_true, Bool.not_false, Nat.reduceLT, Nat.reduceEqDiff, Nat.reduceAdd, Nat.reduceSub, if_true, if_false, reduceIte, Int.cast_ofNat_Int, Nat.reduceBEq, Nat.reduceMul, Nat.reduceDiv, Nat.reduceMod, and_true, true_and, and_self, reduceCtorEq, eq_self, zeg, zeh, zei, zej, zek, zel, zem, zen, e]
    simp [Law.lt, e]
  · by_cases e2 : a = c
    · subst e2
      cases b <;> cases d <;> simp only [F84, zaa, zab, zac, zad, zae, zaf, zag, zah, zai, zaj, zak, zal, zam, zan, zao, zap, zaq, zar, zas, zat, zau, zav, zaw, zax, zay, zaz, zba, zbb, zbc, zbd, zbe, zbf, zbg, zbh, zbi, zbj, zbk, zbl, zbm, zbn, zbo, zbp, zbq, zbr, zbs, zbt, zbu, X.ev_t, X.ev_c, Fr.gs, zbv, zbw, zbx, zby, zbz, zca, zcb, zcc, zcd, zce, zcf, zcg, zch, zci, zcj, zck, zcl, zcm, zcn, zco, zcp, zcq, zcr, zcs, zct, zcu, zcv, zcw, zcx, zcy, zcz, zda, zdb, zdc, zdd, zde, zdf, zdg, zdh, zdi, zdj, zdk, zdl, zdm, zdn, one_tt, one_ff, zdo, nthD, zdp, zdq, zdr, zds, zdt, zdu, zdv, zdw, ne_eq, not_false_eq_true, zdx, zdy, zdz, bsl0, zea, zeb, zec, zed, zee, zef, List.length_cons, List.length_nil, Nat.zero_add, Nat.le_refl, Nat.reduceLeDiff, Nat.add_zero, Option.map_some, Option.map_none, Int.ofNat_lt, Int.ofNat_le, Prod.mk.injEq, and_false, false_and, decide_true, decide_false, Bool.not_true, Bool.not_false, Nat.reduceLT, Nat.reduceEqDiff, Nat.reduceAdd, Nat.reduceSub, if_true, if_false, reduceIte, Int.cast_ofNat_Int, Nat.reduceBEq, Nat.reduceMul, Nat.reduceDiv, Nat.reduceMod, and_true, true_and, and_self, reduceCtorEq, eq_self, zeg, zeh, zei, zej, zek, zel, zem, zen, e] <;> simp [Law.lt]
    · simp only [F84, zaa, zab, zac, zad, zae, zaf, zag, zah, zai, zaj, zak, zal, zam, zan, zao, zap, zaq, zar, zas, zat, zau, zav, zaw, zax, zay, zaz, zba, zbb, zbc, zbd, zbe, zbf, zbg, zbh, zbi, zbj, zbk, zbl, zbm, zbn, zbo, zbp, zbq, zbr, zbs, zbt, zbu, X.ev_t, X.ev_c, Fr.gs, zbv, zbw, zbx, zby, zbz, zca, zcb, zcc, zcd, zce, zcf, zcg, zch, zci, zcj, zck, zcl, zcm, zcn, zco, zcp, zcq, zcr, zcs, zct, zcu, zcv, zcw, zcx, zcy, zcz, zda, zdb, zdc, zdd, zde, zdf, zdg, zdh, zdi, zdj, zdk, zdl, zdm, zdn, one_tt, one_ff, zdo, nthD, zdp, zdq, zdr, zds, zdt, zdu, zdv, zdw, ne_eq, not_false_eq_true, zdx, zdy, zdz, bsl0, zea, zeb, zec, zed, zee, zef, List.length_cons, List.length_nil, Nat.zero_add, Nat.le_refl, Nat.reduceLeDiff, Nat.add_zero, Option.map_some, Option.map_none, Int.ofNat_lt, Int.ofNat_le, Prod.mk.injEq, and_false, false_and, decide_true, decide_false, Bool.not_true, Bool.not_false, Nat.reduceLT, Nat.reduceEqDiff, Nat.reduceAdd, Nat.reduceSub, if_true, if_false, reduceIte, Int.cast_ofNat_Int, Nat.reduceBEq, Nat.reduceMul, Nat.reduceDiv, Nat.reduceMod, and_true, true_and, and_self, reduceCtorEq, eq_self, zeg, zeh, zei, zej, zek, zel, zem, zen, e, e2]
      simp [Law.lt, e, e2]
end Go.Im
open Go
set_option maxRecDepth 20000
namespace Go.Im
def litC (x : Lt) : List V := [.int .i64 x.1, .bool x.2]
def LitsOf (h : H) (v : V) (l : List Lt) : Prop := SlOf h v 2 (l.map litC)
theorem LitsOf.grew {h h' : H} {v : V} {l : List Lt} (s : LitsOf h v l) (hk : h.ok) (g : Grew h h') : LitsOf h' v l := SlOf.grew s hk g
theorem LitsOf.vlen {h : H} {v : V} {l : List Lt} (s : LitsOf h v l) : vLen false v = some (.int .i64 (l.length : Nat)) := by
  have := SlOf.vlen s; simpa using this
theorem LitsOf.addr {h : H} {v : V} {l : List Lt} (s : LitsOf h v l) {i : Nat} (hi : i < l.length) : vIasl 2 v (.int .i64 (i : Int)) = some (elP v 2 i) := SlOf.addr s (by simpa using hi)
theorem LitsOf.load {h : H} {v : V} {l : List Lt} (s : LitsOf h v l) {i : Nat} {x : Lt} (hx : l[i]? = some x) : ldV h true 2 (elP v 2 i) = some (lv x) := by
  have := SlOf.load s (i := i) (e := litC x) (by simp [hx]) true
  rw [this]; rfl
theorem LitsOf.load0 {h : H} {v : V} {l : List Lt} (s : LitsOf h v l) {i : Nat} {x : Lt} (hx : l[i]? = some x) : ∃ a, vFaddr 0 1 (elP v 2 i) = some a ∧ ldV h false 1 a = some (.int .i64 x.1) := by
  obtain ⟨hl, ⟨rfl, e⟩ | ⟨f, k, off, cap, rfl, c⟩⟩ := id s
  · have : l = [] := by simpa using e
    subst this; simp at hx
  · refine ⟨.ptr f k (off + i * 2 + 0) 1, by simp [elP, vFaddr, ble_dec], ?_⟩
    have h1 := SlOf.elem s (i := i) (e := litC x) (by simp [hx])
    cases hlv : live h f k with
    | none => rw [hlv] at h1; cases h1
    | some xs =>
      rw [hlv] at h1
      have h2 := range_spec h1
      have hr : Im.range xs (off + i * 2) 1 = some [.int .i64 x.1] := by
        have hlen : 2 ≤ (xs.drop (off + i * 2)).length := h2.1
        unfold Im.range
        rw [ldrop_eq, ltake_some _ _ (by omega)]
        have e2 : litC x = (xs.drop (off + i * 2)).take 2 := h2.2
        have e3 : ((xs.drop (off + i * 2)).take 2).take 1 = (litC x).take 1 := by rw [← e2]
        rw [List.take_take] at e3
        simpa [litC] using e3
      simp only [ldV, ble_dec, Nat.le_refl, decide_true, hlv, Nat.add_zero]
      show one false (Im.range xs (off + i * 2) 1) = _
      rw [hr]; rfl
def idxI (p : Lt → Bool) (l : List Lt) : Int := match l.findIdx? p with
  | some i => (i : Int)
  | none => -1
theorem idxI_some {p : Lt → Bool} {l : List Lt} {i : Nat} {x : Lt} (hx : l[i]? = some x) (hp : p x = true) (hno : ∀ j y, j < i → l[j]? = some y → p y = false) : idxI p l = i := by
  have hi : i < l.length := by
    rcases Nat.lt_or_ge i l.length with h | h
    · exact h
    · rw [List.getElem?_eq_none h] at hx; cases hx
  have : l.findIdx? p = some i := by
    rw [List.findIdx?_eq_some_iff_getElem]
    rw [List.getElem?_eq_getElem hi] at hx
    refine ⟨hi, ?_, fun j hj => ?_⟩
    · cases hx; exact hp
    · have := hno j l[j] hj (List.getElem?_eq_getElem (by omega))
      simp [this]
  simp [idxI, this]
theorem idxI_none {p : Lt → Bool} {l : List Lt} (hno : ∀ j y, j < l.length → l[j]? = some y → p y = false) : idxI p l = -1 := by
  have : l.findIdx? p = none := by
    rw [List.findIdx?_eq_none_iff]
    intro x hx
    obtain ⟨j, hj, e⟩ := List.getElem_of_mem hx
    exact hno j x hj (by rw [List.getElem?_eq_getElem hj, e])
  simp [idxI, this]
variable (u : Ob)
/-- slices.Index -/
theorem f186 {v : V} {l : List Lt} (x : Lt) {h : H} (hk : h.ok) (s : LitsOf h v l) (hn : l.length < 4611686018427387904) : FnTo (PrL u) 186 [v, lv x] h (.int .i64 (idxI (fun y => decide (x = y)) l)) (h.new (bx x)) := by
  have g1 : Grew h (h.new (bx x)) := (Grew.refl hk).new _
  have s1 := s.grew hk g1
  refine (wFn_run rfl F186_eq rfl ?_).is
  simp only [F186, zaa, zab, zac, zad, zae, zaf, zag, zah, zai, zaj, zak, zal, zam, zan, zao, zap, zaq, zar, zas, zat, zau, zav, zaw, zax, zay, zaz, zba, zbb, zbc, zbd, zbe, zbf, zbg, zbh, zbi, zbj, zbk, zbl, zbm, zbn, zbo, zbp, zbq, zbr, zbs, zbt, zbu, X.ev_t, X.ev_c, Fr.gs, zbv, zbw, zbx, zby, zbz, zca, zcb, zcc, zcd, zce, zcf, zcg, zch, zci, zcj, zck, zcl, zcm, zcn, zco, zcp, zcq, zcr, zcs, zct, zcu, zcv, zcw, zcx, zcy, zcz, zda, zdb, zdc, zdd, zde, zdf, zdg, zdh, zdi, zdj, zdk, zdl, zdm, zdn, one_tt, one_ff, zdo, nthD, zdp, zdq, zdr, zds, zdt, zdu, zdv, zdw, ne_eq, not_false_eq_true, zdx, zdy, zdz, bsl0, zea, zeb, zec, zed, zee, zef, List.length_cons, List.length_nil, Nat.zero_add, Nat.le_refl, Nat.reduceLeDiff, Nat.add_zero, Option.map_some, Option.map_none, Int.ofNat_lt, Int.ofNat_le, Prod.mk.injEq, and_false, false_and, decide_true, decide_false, Bool.not_true, Bool.not_false, Nat.reduceLT, Nat.reduceEqDiff, Nat.reduceAdd, Nat.reduceSub, if_true, if_false, reduceIte, Int.cast_ofNat_Int, Nat.reduceBEq, Nat.reduceMul, Nat.reduceDiv, Nat.reduceMod, and_true, true_and, and_self, reduceCtorEq, eq_self, zeg, zeh, zei, zej, zek, zel, zem, zen, s.vlen]
  refine wk_loop (fun m t => ∃ (i : Nat) (fr : Fr), t = ⟨fr, [], h.new (bx x)⟩ ∧ i ≤ l.length ∧ m = l.length - i ∧ (∀ j y, j < i → l[j]? = some y → decide (x = y) = false) ∧
    fr.get (sOf 0) = v ∧ fr.get (sOf 3) = .ptr h.next 0 0 2 ∧ fr.get (sOf 6) = v ∧ fr.get (sOf 7) = .int .i64 (l.length : Nat) ∧ fr.get (sOf 8) = .int .i64 (i : Nat)) ?_ ⟨0, _, rfl, Nat.zero_le _, rfl, fun j y h => absurd h (Nat.not_lt_zero _), ?_, ?_, ?_, ?_, ?_⟩
  · rintro m t ⟨i, fr, rfl, hi, rfl, hno, e0, e3, e6, e7, e8⟩
    by_cases hlt : i < l.length
    · obtain ⟨y, hy⟩ : ∃ y, l[i]? = some y := ⟨l[i], List.getElem?_eq_getElem hlt⟩
      by_cases hxy : x = y
      · subst hxy
        simp only [zaa, zab, zac, zad, zae, zaf, zag, zah, zai, zaj, zak, zal, zam, zan, zao, zap, zaq, zar, zas, zat, zau, zav, zaw, zax, zay, zaz, zba, zbb, zbc, zbd, zbe, zbf, zbg, zbh, zbi, zbj, zbk, zbl, zbm, zbn, zbo, zbp, zbq, zbr, zbs, zbt, zbu, X.ev_t, X.ev_c, Fr.gs, zbv, zbw, zbx, zby, zbz, zca, zcb, zcc, zcd, zce, zcf, zcg, zch, zci, zcj, zck, zcl, zcm, zcn, zco, zcp, zcq, zcr, zcs, zct, zcu, zcv, zcw, zcx, zcy, zcz, zda, zdb, zdc, zdd, zde, zdf, zdg, zdh, zdi, zdj, zdk, zdl, zdm, zdn, one_tt, one_ff, zdo, nthD, zdp, zdq, zdr, zds, zdt, zdu, zdv, zdw, ne_eq, not_false_eq_true, zdx, zdy, zdz, bsl0, zea, zeb, zec, zed, zee, zef, List.length_cons, List.length_nil, Nat.zero_add, Nat.le_refl, Nat.reduceLeDiff, Nat.add_zero, Option.map_some, Option.map_none, Int.ofNat_lt, Int.ofNat_le, Prod.mk.injEq, and_false, false_and, decide_true, decide_false, Bool.not_true, Bool.not_false, Nat.reduceLT, Nat.reduceEqDiff, Nat.reduceAdd, Nat.reduceSub, if_true, if_false, reduceIte, Int.cast_ofNat_Int, Nat.reduceBEq, Nat.reduceMul, Nat.reduceDiv, Nat.reduceMod, and_true, true_and, and_self, reduceCtorEq, eq_self, zeg, zeh, zei, zej, zek, zel, zem, zen, e0, e3, e6, e7, e8, hlt, s1.addr hlt, s1.load hy]
        rw [idxI_some hy (by simp) hno]
      · simp only [zaa, zab, zac, zad, zae, zaf, zag, zah, zai, zaj, zak, zal, zam, zan, zao, zap, zaq, zar, zas, zat, zau, zav, zaw, zax, zay, zaz, zba, zbb, zbc, zbd, zbe, zbf, zbg, zbh, zbi, zbj, zbk, zbl, zbm, zbn, zbo, zbp, zbq, zbr, zbs, zbt, zbu, X.ev_t, X.ev_c, Fr.gs, zbv, zbw, zbx, zby, zbz, zca, zcb, zcc, zcd, zce, zcf, zcg, zch, zci, zcj, zck, zcl, zcm, zcn, zco, zcp, zcq, zcr, zcs, zct, zcu, zcv, zcw, zcx, zcy, zcz, zda, zdb, zdc, zdd, zde, zdf, zdg, zdh, zdi, zdj, zdk, zdl, zdm, zdn, one_tt, one_ff, zdo, nthD, zdp, zdq, zdr, zds, zdt, zdu, zdv, zdw, ne_eq, not_false_eq_true, zdx, zdy, zdz, bsl0, zea, zeb, zec, zed, zee, zef, List.length_cons, List.length_nil, Nat.zero_add, Nat.le_refl, Nat.reduceLeDiff, Nat.add_zero, Option.map_some, Option.map_none, Int.ofNat_lt, Int.ofNat_le, Prod.mk.injEq, and_false, false_and, decide_true, decide_false, Bool.not_true, Bool.not_false, Nat.reduceLT, Nat.reduceEqDiff, Nat.reduceAdd, Nat.reduceSub, if_true, if_false, reduceIte, Int.cast_ofNat_Int, Nat.reduceBEq, Nat.reduceMul, Nat.reduceDiv, Nat.reduceMod, and_true, true_and, and_self, reduceCtorEq, eq_self, zeg, zeh, zei, zej, zek, zel, zem, zen, e0, e3, e6, e7, e8, hlt, s1.addr hlt, s1.load hy, hxy, wrap_succ (show i < 9223372036854775807 by omega)]
        refine ⟨l.length - (i + 1), by omega, i + 1, _, rfl, by omega, rfl, fun j z hj hz => ?_, ?_, ?_, ?_, ?_, ?_⟩
        · rcases Nat.lt_or_ge j i with h | h
          · exact hno j z h hz
          · have : j = i := by omega
            subst this; rw [hy] at hz; cases hz; simp [hxy]
        all_goals simp only [zaa, zab, zac, zad, zae, zaf, zag, zah, zai, zaj, zak, zal, zam, zan, zao, zap, zaq, zar, zas, zat, zau, zav, zaw, zax, zay, zaz, zba, zbb, zbc, zbd, zbe, zbf, zbg, zbh, zbi, zbj, zbk, zbl, zbm, zbn, zbo, zbp, zbq, zbr, zbs, zbt, zbu, X.ev_t, X.ev_c, Fr.gs, zbv, zbw, zbx, zby, zbz, zca, zcb, zcc, zcd, zce, zcf, zcg, zch, zci, zcj, zck, zcl, zcm, zcn, zco, zcp, zcq, zcr, zcs, zct, zcu, zcv, zcw, zcx, zcy, zcz, zda, zdb, zdc, zdd, zde, zdf, zdg, zdh, zdi, zdj, zdk, zdl, zdm, zdn, one_tt, one_ff, zdo, nthD, zdp, zdq, zdr, zds, zdt, zdu, zdv, zdw, ne_eq, not_false_eq_true, zdx, zdy, zdz, bsl0, zea, zeb, zec, zed, zee, zef, List.length_cons, List.length_nil, Nat.zero_add, Nat.le_refl, Nat.reduceLeDiff, Nat.add_zero, Option.map_some, Option.map_none, Int.ofNat_lt, Int.ofNat_le, Prod.mk.injEq, and_false, false_and, decide_true, decide_false, Bool.not_true, Bool.not_false, Nat.reduceLT, Nat.reduceEqDiff, Nat.reduceAdd, Nat.reduceSub, if_true, if_false, reduceIte, Int.cast_ofNat_Int, Nat.reduceBEq, Nat.reduceMul, Nat.reduceDiv, Nat.reduceMod, and_true, true_and, and_self, reduceCtorEq, eq_self, zeg, zeh, zei, zej, zek, zel, zem, zen, e0, e3, e6, e7]
    · simp only [zaa, zab, zac, zad, zae, zaf, zag, zah, zai, zaj, zak, zal, zam, zan, zao, zap, zaq, zar, zas, zat, zau, zav, zaw, zax, zay, zaz, zba, zbb, zbc, zbd, zbe, zbf, zbg, zbh, zbi, zbj, zbk, zbl, zbm, zbn, zbo, zbp, zbq, zbr, zbs, zbt, zbu, X.ev_t, X.ev_c, Fr.gs, zbv, zbw, zbx, zby, zbz, zca, zcb, zcc, zcd, zce, zcf, zcg, zch, zci, zcj, zck, zcl, zcm, zcn, zco, zcp, zcq, zcr, zcs, zct, zcu, zcv, zcw, zcx, zcy, zcz, zda, zdb, zdc, zdd, zde, zdf, zdg, zdh, zdi, zdj, zdk, zdl, zdm, zdn, one_tt, one_ff, zdo, nthD, zdp, zdq, zdr, zds, zdt, zdu, zdv, zdw, ne_eq, not_false_eq_true, zdx, zdy, zdz, bsl0, zea, zeb, zec, zed, zee, zef, List.length_cons, List.length_nil, Nat.zero_add, Nat.le_refl, Nat.reduceLeDiff, Nat.add_zero, Option.map_some, Option.map_none, Int.ofNat_lt, Int.ofNat_le, Prod.mk.injEq, and_false, false_and, decide_true, decide_false, Bool.not_true, Bool.not_false, Nat.reduceLT, Nat.reduceEqDiff, Nat.reduceAdd, Nat.reduceSub, if_true, if_false, reduceIte, Int.cast_ofNat_Int, Nat.reduceBEq, Nat.reduceMul, Nat.reduceDiv, Nat.reduceMod, and_true, true_and, and_self, reduceCtorEq, eq_self, zeg, zeh, zei, zej, zek, zel, zem, zen, e0, e3, e6, e7, e8, hlt]
      rw [idxI_none fun j y hj hy => hno j y (by omega) hy]
      rfl
  all_goals simp only [zaa, zab, zac, zad, zae, zaf, zag, zah, zai, zaj, zak, zal, zam, zan, zao, zap, zaq, zar, zas, zat, zau, zav, zaw, zax, zay, zaz, zba, zbb, zbc, zbd, zbe, zbf, zbg, zbh, zbi, zbj, zbk, zbl, zbm, zbn, zbo, zbp, zbq, zbr, zbs, zbt, zbu, X.ev_t, X.ev_c, Fr.gs, zbv, zbw, zbx, zby, zbz, zca, zcb, zcc, zcd, zce, zcf, zcg, zch, zci, zcj, zck, zcl, zcm, zcn, zco, zcp, zcq, zcr, zcs, zct, zcu, zcv, zcw, zcx, zcy, zcz, zda, zdb, zdc, zdd, zde, zdf, zdg, zdh, zdi, zdj, zdk, zdl, zdm, zdn, one_tt, one_ff, zdo, nthD, zdp, zdq, zdr, zds, zdt, zdu, zdv, zdw, ne_eq, not_false_eq_true, zdx, zdy, zdz, bsl0, zea, zeb, zec, zed, zee, zef, List.length_cons, List.length_nil, Nat.zero_add, Nat.le_refl, Nat.reduceLeDiff, Nat.add_zero, Option.map_some, Option.map_none, Int.ofNat_lt, Int.ofNat_le, Prod.mk.injEq, and_false, false_and, decide_true, decide_false, Bool.not_true, Bool.not_false, Nat.reduceLT, Nat.reduceEqDiff, Nat.reduceAdd, Nat.reduceSub, if_true, if_false, reduceIte, Int.cast_ofNat_Int, Nat.reduceBEq, Nat.reduceMul, Nat.reduceDiv, Nat.reduceMod, and_true, true_and, and_self, reduceCtorEq, eq_self, zeg, zeh, zei, zej, zek, zel, zem, zen]

/-- a predicate as a function value -/
def PredOk (Pr : Prog) (fv : V) (p : Lt → Bool) (h : H) : Prop := ∀ h1, Grew h h1 → ∀ x, ∃ h2, VTo Pr fv [lv x] h1 (.bool (p x)) h2 ∧ Grew h1 h2
theorem PredOk.grew {Pr : Prog} {fv : V} {p : Lt → Bool} {h h' : H} (a : PredOk Pr fv p h) (g : Grew h h') : PredOk Pr fv p h' := fun h1 g1 x => a h1 (g.trans g1) x
/-- slices.IndexFunc -/
theorem f76 {fv v : V} {p : Lt → Bool} {l : List Lt} {h : H} (hk : h.ok) (s : LitsOf h v l) (hp : PredOk (PrL u) fv p h) (hn : l.length < 4611686018427387904) : ∃ h', FnTo (PrL u) 76 [v, fv] h (.int .i64 (idxI p l)) h' ∧ Grew h h' := by
  have key : wFn (PrL u) 76 [v, fv] h fun x y => x = .int .i64 (idxI p l) ∧ Grew h y := by
    refine wFn_run rfl F76_eq rfl ?_
    simp only [F76, zaa, zab, zac, zad, zae, zaf, zag, zah, zai, zaj, zak, zal, zam, zan, zao, zap, zaq, zar, zas, zat, zau, zav, zaw, zax, zay, zaz, zba, zbb, zbc, zbd, zbe, zbf, zbg, zbh, zbi, zbj, zbk, zbl, zbm, zbn, zbo, zbp, zbq, zbr, zbs, zbt, zbu, X.ev_t, X.ev_c, Fr.gs, zbv, zbw, zbx, zby, zbz, zca, zcb, zcc, zcd, zce, zcf, zcg, zch, zci, zcj, zck, zcl, zcm, zcn, zco, zcp, zcq, zcr, zcs, zct, zcu, zcv, zcw, zcx, zcy, zcz, zda, zdb, zdc, zdd, zde, zdf, zdg, zdh, zdi, zdj, zdk, zdl, zdm, zdn, one_tt, one_ff, zdo, nthD, zdp, zdq, zdr, zds, zdt, zdu, zdv, zdw, ne_eq, not_false_eq_true, zdx, zdy, zdz, bsl0, zea, zeb, zec, zed, zee, zef, List.length_cons, List.length_nil, Nat.zero_add, Nat.le_refl, Nat.reduceLeDiff, Nat.add_zero, Option.map_some, Option.map_none, Int.ofNat_lt, Int.ofNat_le, Prod.mk.injEq, and_false, false_and, decide_true, decide_false, Bool.not_true, Bool.not_false, Nat.reduceLT, Nat.reduceEqDiff, Nat.reduceAdd, Nat.reduceSub, if_true, if_false, reduceIte, Int.cast_ofNat_Int, Nat.reduceBEq, Nat.reduceMul, Nat.reduceDiv, Nat.reduceMod, and_true, true_and, and_self, reduceCtorEq, eq_self, zeg, zeh, zei, zej, zek, zel, zem, zen, s.vlen]
    refine wk_loop (fun m t => ∃ (i : Nat) (fr : Fr) (h1 : H), t = ⟨fr, [], h1⟩ ∧ Grew h h1 ∧ i ≤ l.length ∧ m = l.length - i ∧ (∀ j y, j < i → l[j]? = some y → p y = false) ∧
      fr.get (sOf 0) = v ∧ fr.get (sOf 1) = fv ∧ fr.get (sOf 6) = v ∧ fr.get (sOf 7) = .int .i64 (l.length : Nat) ∧ fr.get (sOf 8) = .int .i64 (i : Nat)) ?_ ⟨0, _, h, rfl, .refl hk, Nat.zero_le _, rfl, fun j y h => absurd h (Nat.not_lt_zero _), ?_, ?_, ?_, ?_, ?_⟩
    · rintro m t ⟨i, fr, h1, rfl, g1, hi, rfl, hno, e0, e1, e6, e7, e8⟩
      have s1 := s.grew hk g1
      by_cases hlt : i < l.length
      · obtain ⟨y, hy⟩ : ∃ y, l[i]? = some y := ⟨l[i], List.getElem?_eq_getElem hlt⟩
        obtain ⟨h2, hc, g2⟩ := hp h1 g1 y
        cases hpy : p y with
        | true =>
          rw [hpy] at hc
          simp only [zaa, zab, zac, zad, zae, zaf, zag, zah, zai, zaj, zak, zal, zam, zan, zao, zap, zaq, zar, zas, zat, zau, zav, zaw, zax, zay, zaz, zba, zbb, zbc, zbd, zbe, zbf, zbg, zbh, zbi, zbj, zbk, zbl, zbm, zbn, zbo, zbp, zbq, zbr, zbs, zbt, zbu, X.ev_t, X.ev_c, Fr.gs, zbv, zbw, zbx, zby, zbz, zca, zcb, zcc, zcd, zce, zcf, zcg, zch, zci, zcj, zck, zcl, zcm, zcn, zco, zcp, zcq, zcr, zcs, zct, zcu, zcv, zcw, zcx, zcy, zcz, zda, zdb, zdc, zdd, zde, zdf, zdg, zdh, zdi, zdj, zdk, zdl, zdm, zdn, one_tt, one_ff, zdo, nthD, zdp, zdq, zdr, zds, zdt, zdu, zdv, zdw, ne_eq, not_false_eq_true, zdx, zdy, zdz, bsl0, zea, zeb, zec, zed, zee, zef, List.length_cons, List.length_nil, Nat.zero_add, Nat.le_refl, Nat.reduceLeDiff, Nat.add_zero, Option.map_some, Option.map_none, Int.ofNat_lt, Int.ofNat_le, Prod.mk.injEq, and_false, false_and, decide_true, decide_false, Bool.not_true, Bool.not_false, Nat.reduceLT, Nat.reduceEqDiff, Nat.reduceAdd, Nat.reduceSub, if_true, if_false, reduceIte, Int.cast_ofNat_Int, Nat.reduceBEq, Nat.reduceMul, Nat.reduceDiv, Nat.reduceMod, and_true, true_and, and_self, reduceCtorEq, eq_self, zeg, zeh, zei, zej, zek, zel, zem, zen, e0, e1, e6, e7, e8, hlt, s1.addr hlt, s1.load hy, hc.cl]
          exact ⟨by rw [idxI_some hy hpy hno], g1.trans g2⟩
        | false =>
          rw [hpy] at hc
          simp only [zaa, zab, zac, zad, zae, zaf, zag, zah, zai, zaj, zak, zal, zam, zan, zao, zap, zaq, zar, zas, zat, zau, zav, zaw, zax, zay, zaz, zba, zbb, zbc, zbd, zbe, zbf, zbg, zbh, zbi, zbj, zbk, zbl, zbm, zbn, zbo, zbp, zbq, zbr, zbs, zbt, zbu, X.ev_t, X.ev_c, Fr.gs, zbv, zbw, zbx, zby, zbz, zca, zcb, zcc, zcd, zce, zcf, zcg, zch, zci, zcj, zck, zcl, zcm, zcn, zco, zcp, zcq, zcr, zcs, zct, zcu, zcv, zcw, zcx, zcy, zcz, zda, zdb, zdc, zdd, zde, zdf, zdg, zdh, zdi, zdj, zdk, zdl, zdm, zdn, one_tt, one_ff, zdo, nthD, zdp, zdq, zdr, zds, zdt, zdu, zdv, zdw, ne_eq, not_false_eq_true, zdx, zdy, zdz, bsl0, zea, zeb, zec, zed, zee, zef, List.length_cons, List.length_nil, Nat.zero_add, Nat.le_refl, Nat.reduceLeDiff, Nat.add_zero, Option.map_some, Option.map_none, Int.ofNat_lt, Int.ofNat_le, Prod.mk.injEq, and_false, false_and, decide_true, decide_false, Bool.not_true, Bool.not_false, Nat.reduceLT, Nat.reduceEqDiff, Nat.reduceAdd, Nat.reduceSub, if_true, if_false, reduceIte, Int.cast_ofNat_Int, Nat.reduceBEq, Nat.reduceMul, Nat.reduceDiv, Nat.reduceMod, and_true, true_and, and_self, reduceCtorEq, eq_self, zeg, zeh, zei, zej, zek, zel, zem, zen, e0, e1, e6, e7, e8, hlt, s1.addr hlt, s1.load hy, hc.cl, wrap_succ (show i < 9223372036854775807 by omega)]
          refine ⟨l.length - (i + 1), by omega, i + 1, _, h2, rfl, g1.trans g2, by omega, rfl, fun j z hj hz => ?_, ?_, ?_, ?_, ?_, ?_⟩
          · rcases Nat.lt_or_ge j i with h | h
            · exact hno j z h hz
            · have : j = i := by omega
              subst this; rw [hy] at hz; cases hz; exact hpy
          all_goals simp only [zaa, zab, zac, zad, zae, zaf, zag, zah, zai, zaj, zak, zal, zam, zan, zao, zap, zaq, zar, zas, zat, zau, zav, zaw, zax, zay, zaz, zba, zbb, zbc, zbd, zbe, zbf, zbg, zbh, zbi, zbj, zbk, zbl, zbm, zbn, zbo, zbp, zbq, zbr, zbs, zbt, zbu, X.ev_t, X.ev_c, Fr.gs, zbv, zbw, zbx, zby, zbz, zca, zcb, zcc, zcd, zce, zcf, zcg, zch, zci, zcj, zck, zcl, zcm, zcn, zco, zcp, zcq, zcr, zcs, zct, zcu, zcv, zcw, zcx, zcy, zcz, zda, zdb, zdc, zdd, zde, zdf, zdg, zdh, zdi, zdj, zdk, zdl, zdm, zdn, one_tt, one_ff, zdo, nthD, zdp, zdq, zdr, zds, zdt, zdu, zdv, zdw, ne_eq, not_false_eq_true, zdx, zdy, zdz, bsl0, zea, zeb, zec, zed, zee, zef, List.length_cons, List.length_nil, Nat.zero_add, Nat.le_refl, Nat.reduceLeDiff, Nat.add_zero, Option.map_some, Option.map_none, Int.ofNat_lt, Int.ofNat_le, Prod.mk.injEq, and_false, false_and, decide_true, decide_false, Bool.not_true, Bool.not_false, Nat.reduceLT, Nat.reduceEqDiff, Nat.reduceAdd, Nat.reduceSub, if_true, if_false, reduceIte, Int.cast_ofNat_Int, Nat.reduceBEq, Nat.reduceMul, Nat.reduceDiv, Nat.reduceMod, and_true, true_and, and_self, reduceCtorEq, eq_self, zeg, zeh, zei, zej, zek, zel, zem, zen, e0, e1, e6, e7]
      · simp only [zaa, zab, zac, zad, zae, zaf, zag, zah, zai, zaj, zak, zal, zam, zan, zao, zap, zaq, zar, zas, zat, zau, zav, zaw, zax, zay, zaz, zba, zbb, zbc, zbd, zbe, zbf, zbg, zbh, zbi, zbj, zbk, zbl, zbm, zbn, zbo, zbp, zbq, zbr, zbs, zbt, zbu, X.ev_t, X.ev_c, Fr.gs, zbv, zbw, zbx, zby, zbz, zca, zcb, zcc, zcd, zce, zcf, zcg, zch, zci, zcj, zck, zcl, zcm, zcn, zco, zcp, zcq, zcr, zcs, zct, zcu, zcv, zcw, zcx, zcy, zcz, zda, zdb, zdc, zdd, zde, zdf, zdg, zdh, zdi, zdj, zdk, zdl, zdm, zdn, one_tt, one_ff, zdo, nthD, zdp, zdq, zdr, zds, zdt, zdu, zdv, zdw, ne_eq, not_false_eq_true, zdx, zdy, zdz, bsl0, zea, zeb, zec, zed, zee, zef, List.length_cons, List.length_nil, Nat.zero_add, Nat.le_refl, Nat.reduceLeDiff, Nat.add_zero, Option.map_some, Option.map_none, Int.ofNat_lt, Int.ofNat_le, Prod.mk.injEq, and_false, false_and, decide_true, decide_false, Bool.not_true, Bool.not_false, Nat.reduceLT, Nat.reduceEqDiff, Nat.reduceAdd, Nat.reduceSub, if_true, if_false, reduceIte, Int.cast_ofNat_Int, Nat.reduceBEq, Nat.reduceMul, Nat.reduceDiv, Nat.reduceMod, and_true, true_and, and_self, reduceCtorEq, eq_self, zeg, zeh, zei, zej, zek, zel, zem, zen, e0, e1, e6, e7, e8, hlt]
        exact ⟨by rw [idxI_none fun j y hj hy => hno j y (by omega) hy]; rfl, g1⟩
    all_goals simp only [zaa, zab, zac, zad, zae, zaf, zag, zah, zai, zaj, zak, zal, zam, zan, zao, zap, zaq, zar, zas, zat, zau, zav, zaw, zax, zay, zaz, zba, zbb, zbc, zbd, zbe, zbf, zbg, zbh, zbi, zbj, zbk, zbl, zbm, zbn, zbo, zbp, zbq, zbr, zbs, zbt, zbu, X.ev_t, X.ev_c, Fr.gs, zbv, zbw, zbx, zby, zbz, zca, zcb, zcc, zcd, zce, zcf, zcg, zch, zci, zcj, zck, zcl, zcm, zcn, zco, zcp, zcq, zcr, zcs, zct, zcu, zcv, zcw, zcx, zcy, zcz, zda, zdb, zdc, zdd, zde, zdf, zdg, zdh, zdi, zdj, zdk, zdl, zdm, zdn, one_tt, one_ff, zdo, nthD, zdp, zdq, zdr, zds, zdt, zdu, zdv, zdw, ne_eq, not_false_eq_true, zdx, zdy, zdz, bsl0, zea, zeb, zec, zed, zee, zef, List.length_cons, List.length_nil, Nat.zero_add, Nat.le_refl, Nat.reduceLeDiff, Nat.add_zero, Option.map_some, Option.map_none, Int.ofNat_lt, Int.ofNat_le, Prod.mk.injEq, and_false, false_and, decide_true, decide_false, Bool.not_true, Bool.not_false, Nat.reduceLT, Nat.reduceEqDiff, Nat.reduceAdd, Nat.reduceSub, if_true, if_false, reduceIte, Int.cast_ofNat_Int, Nat.reduceBEq, Nat.reduceMul, Nat.reduceDiv, Nat.reduceMod, and_true, true_and, and_self, reduceCtorEq, eq_self, zeg, zeh, zei, zej, zek, zel, zem, zen]
  obtain ⟨x, h', a, rfl, g⟩ := key.to
  exact ⟨h', a, g⟩
theorem idxI_geq (p : Lt → Bool) (l : List Lt) : decide (0 ≤ idxI p l) = l.any p := by
  unfold idxI
  cases hf : l.findIdx? p with
  | none =>
    rw [List.findIdx?_eq_none_iff] at hf
    have : l.any p = false := by rw [List.any_eq_false]; intro x hx; simp [hf x hx]
    rw [this]; rfl
  | some i =>
    rw [List.findIdx?_eq_some_iff_getElem] at hf
    obtain ⟨hi, hp, _⟩ := hf
    have : l.any p = true := by rw [List.any_eq_true]; exact ⟨_, List.getElem_mem hi, hp⟩
    rw [this]; simp
/-- slices.ContainsFunc -/
theorem f25 {fv v : V} {p : Lt → Bool} {l : List Lt} {h : H} (hk : h.ok) (s : LitsOf h v l) (hp : PredOk (PrL u) fv p h) (hn : l.length < 4611686018427387904) : ∃ h', FnTo (PrL u) 25 [v, fv] h (.bool (l.any p)) h' ∧ Grew h h' := by
  obtain ⟨h', hc, g⟩ := f76 u hk s hp hn
  refine ⟨h', (wFn_run rfl F25_eq rfl ?_).is, g⟩
  simp only [F25, zaa, zab, zac, zad, zae, zaf, zag, zah, zai, zaj, zak, zal, zam, zan, zao, zap, zaq, zar, zas, zat, zau, zav, zaw, zax, zay, zaz, zba, zbb, zbc, zbd, zbe, zbf, zbg, zbh, zbi, zbj, zbk, zbl, zbm, zbn, zbo, zbp, zbq, zbr, zbs, zbt, zbu, X.ev_t, X.ev_c, Fr.gs, zbv, zbw, zbx, zby, zbz, zca, zcb, zcc, zcd, zce, zcf, zcg, zch, zci, zcj, zck, zcl, zcm, zcn, zco, zcp, zcq, zcr, zcs, zct, zcu, zcv, zcw, zcx, zcy, zcz, zda, zdb, zdc, zdd, zde, zdf, zdg, zdh, zdi, zdj, zdk, zdl, zdm, zdn, one_tt, one_ff, zdo, nthD, zdp, zdq, zdr, zds, zdt, zdu, zdv, zdw, ne_eq, not_false_eq_true, zdx, zdy, zdz, bsl0, zea, zeb, zec, zed, zee, zef, List.length_cons, List.length_nil, Nat.zero_add, Nat.le_refl, Nat.reduceLeDiff, Nat.add_zero, Option.map_some, Option.map_none, Int.ofNat_lt, Int.ofNat_le, Prod.mk.injEq, and_false, false_and, decide_true, decide_false, Bool.not_true, Bool.not_false, Nat.reduceLT, Nat.reduceEqDiff, Nat.reduceAdd, Nat.reduceSub, if_true, if_false, reduceIte, Int.cast_ofNat_Int, Nat.reduceBEq, Nat.reduceMul, Nat.reduceDiv, Nat.reduceMod, and_true, true_and, and_self, reduceCtorEq, eq_self, zeg, zeh, zei, zej, zek, zel, zem, zen, hc.cl, idxI_geq]
/-- slices.Contains -/
theorem f79 {v : V} {l : List Lt} (x : Lt) {h : H} (hk : h.ok) (s : LitsOf h v l) (hn : l.length < 4611686018427387904) : ∃ h', FnTo (PrL u) 79 [v, lv x] h (.bool (decide (x ∈ l))) h' ∧ Grew h h' := by
  have g1 : Grew h (h.new (bx x)) := (Grew.refl hk).new _
  have hc := f186 u x (g1.ok) (s.grew hk g1) hn
  refine ⟨(h.new (bx x)).new (bx x), (wFn_run rfl F79_eq rfl ?_).is, g1.new _⟩
  have e : (l.any fun y => decide (x = y)) = decide (x ∈ l) := by
    rw [Bool.eq_iff_iff]; simp
  simp only [F79, zaa, zab, zac, zad, zae, zaf, zag, zah, zai, zaj, zak, zal, zam, zan, zao, zap, zaq, zar, zas, zat, zau, zav, zaw, zax, zay, zaz, zba, zbb, zbc, zbd, zbe, zbf, zbg, zbh, zbi, zbj, zbk, zbl, zbm, zbn, zbo, zbp, zbq, zbr, zbs, zbt, zbu, X.ev_t, X.ev_c, Fr.gs, zbv, zbw, zbx, zby, zbz, zca, zcb, zcc, zcd, zce, zcf, zcg, zch, zci, zcj, zck, zcl, zcm, zcn, zco, zcp, zcq, zcr, zcs, zct, zcu, zcv, zcw, zcx, zcy, zcz, zda, zdb, zdc, zdd, zde, zdf, zdg, zdh, zdi, zdj, zdk, zdl, zdm, zdn, one_tt, one_ff, zdo, nthD, zdp, zdq, zdr, zds, zdt, zdu, zdv, zdw, ne_eq, not_false_eq_true, zdx, zdy, zdz, bsl0, zea, zeb, zec, zed, zee, zef, List.length_cons, List.length_nil, Nat.zero_add, Nat.le_refl, Nat.reduceLeDiff, Nat.add_zero, Option.map_some, Option.map_none, Int.ofNat_lt, Int.ofNat_le, Prod.mk.injEq, and_false, false_and, decide_true, decide_false, Bool.not_true, Bool.not_false, Nat.reduceLT, Nat.reduceEqDiff, Nat.reduceAdd, Nat.reduceSub, if_true, if_false, reduceIte, Int.cast_ofNat_Int, Nat.reduceBEq, Nat.reduceMul, Nat.reduceDiv, Nat.reduceMod, and_true, true_and, and_self, reduceCtorEq, eq_self, zeg, zeh, zei, zej, zek, zel, zem, zen, hc.cl, idxI_geq, e]
end Go.Im
open Go
set_option maxRecDepth 20000
namespace Go.Im
def IntsOf (h : H) (v : V) (l : List Int) : Prop := SlOf h v 1 (l.map fun n => [.int .i64 n])
theorem IntsOf.grew {h h' : H} {v : V} {l : List Int} (s : IntsOf h v l) (hk : h.ok) (g : Grew h h') : IntsOf h' v l := SlOf.grew s hk g
theorem IntsOf.vlen {h : H} {v : V} {l : List Int} (s : IntsOf h v l) : vLen false v = some (.int .i64 (l.length : Nat)) := by
  have := SlOf.vlen s; simpa using this
theorem IntsOf.addr {h : H} {v : V} {l : List Int} (s : IntsOf h v l) {i : Nat} (hi : i < l.length) : vIasl 1 v (.int .i64 (i : Int)) = some (elP v 1 i) := SlOf.addr s (by simpa using hi)
theorem IntsOf.load {h : H} {v : V} {l : List Int} (s : IntsOf h v l) {i : Nat} {x : Int} (hx : l[i]? = some x) : ldV h false 1 (elP v 1 i) = some (.int .i64 x) := by
  have := SlOf.load s (i := i) (e := [.int .i64 x]) (by simp [hx]) false
  rw [this]; rfl
theorem ints_new {h : H} {ty : TypeId} {l : List Int} {n : Nat} (hn : n = l.length) {c : Option Nat} : IntsOf (h.new (.cells (l.map fun n => .int .i64 n) 0 0 .rw ty)) (.sl h.next 0 0 n 1 c) l := by
  subst hn
  refine ⟨by simp, .inr ⟨h.next, 0, 0, c, by simp, l.map fun n => .int .i64 n, ?_, ?_, ?_⟩⟩
  · exact live_at (H.get_new_same _ _) (Nat.le_refl _) (Nat.le_refl _)
  · have : (List.map (fun n => [V.int .i64 n]) l).flatten.length = l.length := by rw [flatten_len (es := 1) (by simp)]; simp
    rw [this]; simp
  · have e : (List.map (fun n => [V.int .i64 n]) l).flatten = l.map fun n => V.int .i64 n := by
      induction l with
      | nil => rfl
      | cons x l ih => simp [ih]
    rw [e]; simp only [List.drop_zero, List.length_map]; exact List.take_of_length_le (by simp)
def firstI : List Int → Int
  | [] => 0
  | e :: es => if e = 0 then firstI es else e
theorem firstI_at : ∀ {l : List Int} {i : Nat} {x : Int}, l[i]? = some x → x ≠ 0 → (∀ j y, j < i → l[j]? = some y → y = 0) → firstI l = x
  | [], i, x, h, _, _ => by simp at h
  | e :: l, 0, x, h, hx, _ => by simp at h; subst h; simp [firstI, hx]
  | e :: l, i + 1, x, h, hx, hno => by
    have he : e = 0 := hno 0 e (by omega) (by simp)
    subst he
    simp only [firstI, if_true]
    exact firstI_at (by simpa using h) hx fun j y hj hy => hno (j + 1) y (by omega) (by simpa using hy)
theorem firstI_zero : ∀ {l : List Int}, (∀ j y, j < l.length → l[j]? = some y → y = 0) → firstI l = 0
  | [], _ => rfl
  | e :: l, hno => by
    have he : e = 0 := hno 0 e (by simp) (by simp)
    subst he
    simp only [firstI, if_true]
    exact firstI_zero fun j y hj hy => hno (j + 1) y (by simpa using hj) (by simpa using hy)
variable (u : Ob)
theorem f23 {v : V} {l : List Int} {h : H} (s : IntsOf h v l) (hn : l.length < 4611686018427387904) : FnTo (PrL u) 23 [v] h (.int .i64 (firstI l)) h := by
  refine (wFn_run rfl F23_eq rfl ?_).is
  simp only [F23, zaa, zab, zac, zad, zae, zaf, zag, zah, zai, zaj, zak, zal, zam, zan, zao, zap, zaq, zar, zas, zat, zau, zav, zaw, zax, zay, zaz, zba, zbb, zbc, zbd, zbe, zbf, zbg, zbh, zbi, zbj, zbk, zbl, zbm, zbn, zbo, zbp, zbq, zbr, zbs, zbt, zbu, X.ev_t, X.ev_c, Fr.gs, zbv, zbw, zbx, zby, zbz, zca, zcb, zcc, zcd, zce, zcf, zcg, zch, zci, zcj, zck, zcl, zcm, zcn, zco, zcp, zcq, zcr, zcs, zct, zcu, zcv, zcw, zcx, zcy, zcz, zda, zdb, zdc, zdd, zde, zdf, zdg, zdh, zdi, zdj, zdk, zdl, zdm, zdn, one_tt, one_ff, zdo, nthD, zdp, zdq, zdr, zds, zdt, zdu, zdv, zdw, ne_eq, not_false_eq_true, zdx, zdy, zdz, bsl0, zea, zeb, zec, zed, zee, zef, List.length_cons, List.length_nil, Nat.zero_add, Nat.le_refl, Nat.reduceLeDiff, Nat.add_zero, Option.map_some, Option.map_none, Int.ofNat_lt, Int.ofNat_le, Prod.mk.injEq, and_false, false_and, decide_true, decide_false, Bool.not_true, Bool.not_false, Nat.reduceLT, Nat.reduceEqDiff, Nat.reduceAdd, Nat.reduceSub, if_true, if_false, reduceIte, Int.cast_ofNat_Int, Nat.reduceBEq, Nat.reduceMul, Nat.reduceDiv, Nat.reduceMod, and_true, true_and, and_self, reduceCtorEq, eq_self, zeg, zeh, zei, zej, zek, zel, zem, zen, s.vlen]
  refine wk_loop (fun m t => ∃ (i : Nat) (fr : Fr), t = ⟨fr, [], h⟩ ∧ i ≤ l.length ∧ m = l.length - i ∧ (∀ j y, j < i → l[j]? = some y → y = 0) ∧
    fr.get (sOf 5) = v ∧ fr.get (sOf 6) = .int .i64 (l.length : Nat) ∧ fr.get (sOf 7) = .int .i64 (i : Nat)) ?_ ⟨0, _, rfl, Nat.zero_le _, rfl, fun j y h => absurd h (Nat.not_lt_zero _), ?_, ?_, ?_⟩
  · rintro m t ⟨i, fr, rfl, hi, rfl, hno, e5, e6, e7⟩
    by_cases hlt : i < l.length
    · obtain ⟨y, hy⟩ : ∃ y, l[i]? = some y := ⟨l[i], List.getElem?_eq_getElem hlt⟩
      by_cases hxy : y = 0
      · subst hxy
        simp only [zaa, zab, zac, zad, zae, zaf, zag, zah, zai, zaj, zak, zal, zam, zan, zao, zap, zaq, zar, zas, zat, zau, zav, zaw, zax, zay, zaz, zba, zbb, zbc, zbd, zbe, zbf, zbg, zbh, zbi, zbj, zbk, zbl, zbm, zbn, zbo, zbp, zbq, zbr, zbs, zbt, zbu, X.ev_t, X.ev_c, Fr.gs, zbv, zbw, zbx, zby, zbz, zca, zcb, zcc, zcd, zce, zcf, zcg, zch, zci, zcj, zck, zcl, zcm, zcn, zco, zcp, zcq, zcr, zcs, zct, zcu, zcv, zcw, zcx, zcy, zcz, zda, zdb, zdc, zdd, zde, zdf, zdg, zdh, zdi, zdj, zdk, zdl, zdm, zdn, one_tt, one_ff, zdo, nthD, zdp, zdq, zdr, zds, zdt, zdu, zdv, zdw, ne_eq, not_false_eq_true, zdx, zdy, zdz, bsl0, zea, zeb, zec, zed, zee, zef, List.length_cons, List.length_nil, Nat.zero_add, Nat.le_refl, Nat.reduceLeDiff, Nat.add_zero, Option.map_some, Option.map_none, Int.ofNat_lt, Int.ofNat_le, Prod.mk.injEq, and_false, false_and, decide_true, decide_false, Bool.not_true, Bool.not_false, Nat.reduceLT, Nat.reduceEqDiff, Nat.reduceAdd, Nat.reduceSub, if_true, if_false, reduceIte, Int.cast_ofNat_Int, Nat.reduceBEq, Nat.reduceMul, Nat.reduceDiv, Nat.reduceMod, and_true, true_and, and_self, reduceCtorEq, eq_self, zeg, zeh, zei, zej, zek, zel, zem, zen, e5, e6, e7, hlt, s.addr hlt, s.load hy, wrap_succ (show i < 9223372036854775807 by omega)]
        refine ⟨l.length - (i + 1), by omega, i + 1, _, rfl, by omega, rfl, fun j z hj hz => ?_, ?_, ?_, ?_⟩
        · rcases Nat.lt_or_ge j i with h | h
          · exact hno j z h hz
          · have : j = i := by omega
            subst this; rw [hy] at hz; cases hz; rfl
        all_goals simp only [zaa, zab, zac, zad, zae, zaf, zag, zah, zai, zaj, zak, zal, zam, zan, zao, zap, zaq, zar, zas, zat, zau, zav, zaw, zax, zay, zaz, zba, zbb, zbc, zbd, zbe, zbf, zbg, zbh, zbi, zbj, zbk, zbl, zbm, zbn, zbo, zbp, zbq, zbr, zbs, zbt, zbu, X.ev_t, X.ev_c, Fr.gs, zbv, zbw, zbx, zby, zbz, zca, zcb, zcc, zcd, zce, zcf, zcg, zch, zci, zcj, zck, zcl, zcm, zcn, zco, zcp, zcq, zcr, zcs, zct, zcu, zcv, zcw, zcx, zcy, zcz, zda, zdb, zdc, zdd, zde, zdf, zdg, zdh, zdi, zdj, zdk, zdl, zdm, zdn, one_tt, one_ff, zdo, nthD, zdp, zdq, zdr, zds, zdt, zdu, zdv, zdw, ne_eq, not_false_eq_true, zdx, zdy, zdz, bsl0, zea, zeb, zec, zed, zee, zef, List.length_cons, List.length_nil, Nat.zero_add, Nat.le_refl, Nat.reduceLeDiff, Nat.add_zero, Option.map_some, Option.map_none, Int.ofNat_lt, Int.ofNat_le, Prod.mk.injEq, and_false, false_and, decide_true, decide_false, Bool.not_true, Bool.not_false, Nat.reduceLT, Nat.reduceEqDiff, Nat.reduceAdd, Nat.reduceSub, if_true, if_false, reduceIte, Int.cast_ofNat_Int, Nat.reduceBEq, Nat.reduceMul, Nat.reduceDiv, Nat.reduceMod, and_true, true_and, and_self, reduceCtorEq, eq_self, zeg, zeh, zei, zej, zek, zel, zem, zen, e5, e6]
      · simp only [zaa, zab, zac, zad, zae, zaf, zag, zah, zai, zaj, zak, zal, zam, zan, zao, zap, zaq, zar, zas, zat, zau, zav, zaw, zax, zay, zaz, zba, zbb, zbc, zbd, zbe, zbf, zbg, zbh, zbi, zbj, zbk, zbl, zbm, zbn, zbo, zbp, zbq, zbr, zbs, zbt, zbu, X.ev_t, X.ev_c, Fr.gs, zbv, zbw, zbx, zby, zbz, zca, zcb, zcc, zcd, zce, zcf, zcg, zch, zci, zcj, zck, zcl, zcm, zcn, zco, zcp, zcq, zcr, zcs, zct, zcu, zcv, zcw, zcx, zcy, zcz, zda, zdb, zdc, zdd, zde, zdf, zdg, zdh, zdi, zdj, zdk, zdl, zdm, zdn, one_tt, one_ff, zdo, nthD, zdp, zdq, zdr, zds, zdt, zdu, zdv, zdw, ne_eq, not_false_eq_true, zdx, zdy, zdz, bsl0, zea, zeb, zec, zed, zee, zef, List.length_cons, List.length_nil, Nat.zero_add, Nat.le_refl, Nat.reduceLeDiff, Nat.add_zero, Option.map_some, Option.map_none, Int.ofNat_lt, Int.ofNat_le, Prod.mk.injEq, and_false, false_and, decide_true, decide_false, Bool.not_true, Bool.not_false, Nat.reduceLT, Nat.reduceEqDiff, Nat.reduceAdd, Nat.reduceSub, if_true, if_false, reduceIte, Int.cast_ofNat_Int, Nat.reduceBEq, Nat.reduceMul, Nat.reduceDiv, Nat.reduceMod, and_true, true_and, and_self, reduceCtorEq, eq_self, zeg, zeh, zei, zej, zek, zel, zem, zen, e5, e6, e7, hlt, s.addr hlt, s.load hy, hxy]
        rw [firstI_at hy hxy hno]
    · simp only [zaa, zab, zac, zad, zae, zaf, zag, zah, zai, zaj, zak, zal, zam, zan, zao, zap, zaq, zar, zas, zat, zau, zav, zaw, zax, zay, zaz, zba, zbb, zbc, zbd, zbe, zbf, zbg, zbh, zbi, zbj, zbk, zbl, zbm, zbn, zbo, zbp, zbq, zbr, zbs, zbt, zbu, X.ev_t, X.ev_c, Fr.gs, zbv, zbw, zbx, zby, zbz, zca, zcb, zcc, zcd, zce, zcf, zcg, zch, zci, zcj, zck, zcl, zcm, zcn, zco, zcp, zcq, zcr, zcs, zct, zcu, zcv, zcw, zcx, zcy, zcz, zda, zdb, zdc, zdd, zde, zdf, zdg, zdh, zdi, zdj, zdk, zdl, zdm, zdn, one_tt, one_ff, zdo, nthD, zdp, zdq, zdr, zds, zdt, zdu, zdv, zdw, ne_eq, not_false_eq_true, zdx, zdy, zdz, bsl0, zea, zeb, zec, zed, zee, zef, List.length_cons, List.length_nil, Nat.zero_add, Nat.le_refl, Nat.reduceLeDiff, Nat.add_zero, Option.map_some, Option.map_none, Int.ofNat_lt, Int.ofNat_le, Prod.mk.injEq, and_false, false_and, decide_true, decide_false, Bool.not_true, Bool.not_false, Nat.reduceLT, Nat.reduceEqDiff, Nat.reduceAdd, Nat.reduceSub, if_true, if_false, reduceIte, Int.cast_ofNat_Int, Nat.reduceBEq, Nat.reduceMul, Nat.reduceDiv, Nat.reduceMod, and_true, true_and, and_self, reduceCtorEq, eq_self, zeg, zeh, zei, zej, zek, zel, zem, zen, e5, e6, e7, hlt]
      rw [firstI_zero fun j y hj hy => hno j y (by omega) hy]
  all_goals simp only [zaa, zab, zac, zad, zae, zaf, zag, zah, zai, zaj, zak, zal, zam, zan, zao, zap, zaq, zar, zas, zat, zau, zav, zaw, zax, zay, zaz, zba, zbb, zbc, zbd, zbe, zbf, zbg, zbh, zbi, zbj, zbk, zbl, zbm, zbn, zbo, zbp, zbq, zbr, zbs, zbt, zbu, X.ev_t, X.ev_c, Fr.gs, zbv, zbw, zbx, zby, zbz, zca, zcb, zcc, zcd, zce, zcf, zcg, zch, zci, zcj, zck, zcl, zcm, zcn, zco, zcp, zcq, zcr, zcs, zct, zcu, zcv, zcw, zcx, zcy, zcz, zda, zdb, zdc, zdd, zde, zdf, zdg, zdh, zdi, zdj, zdk, zdl, zdm, zdn, one_tt, one_ff, zdo, nthD, zdp, zdq, zdr, zds, zdt, zdu, zdv, zdw, ne_eq, not_false_eq_true, zdx, zdy, zdz, bsl0, zea, zeb, zec, zed, zee, zef, List.length_cons, List.length_nil, Nat.zero_add, Nat.le_refl, Nat.reduceLeDiff, Nat.add_zero, Option.map_some, Option.map_none, Int.ofNat_lt, Int.ofNat_le, Prod.mk.injEq, and_false, false_and, decide_true, decide_false, Bool.not_true, Bool.not_false, Nat.reduceLT, Nat.reduceEqDiff, Nat.reduceAdd, Nat.reduceSub, if_true, if_false, reduceIte, Int.cast_ofNat_Int, Nat.reduceBEq, Nat.reduceMul, Nat.reduceDiv, Nat.reduceMod, and_true, true_and, and_self, reduceCtorEq, eq_self, zeg, zeh, zei, zej, zek, zel, zem, zen]
theorem f29 {v : V} {l : List Int} {h : H} (s : IntsOf h v l) (hn : l.length < 4611686018427387904) : FnTo (PrL u) 29 [v] h (.int .i64 (firstI l)) h := by
  refine (wFn_run rfl F29_eq rfl ?_).is
  simp only [F29, zaa, zab, zac, zad, zae, zaf, zag, zah, zai, zaj, zak, zal, zam, zan, zao, zap, zaq, zar, zas, zat, zau, zav, zaw, zax, zay, zaz, zba, zbb, zbc, zbd, zbe, zbf, zbg, zbh, zbi, zbj, zbk, zbl, zbm, zbn, zbo, zbp, zbq, zbr, zbs, zbt, zbu, X.ev_t, X.ev_c, Fr.gs, zbv, zbw, zbx, zby, zbz, zca, zcb, zcc, zcd, zce, zcf, zcg, zch, zci, zcj, zck, zcl, zcm, zcn, zco, zcp, zcq, zcr, zcs, zct, zcu, zcv, zcw, zcx, zcy, zcz, zda, zdb, zdc, zdd, zde, zdf, zdg, zdh, zdi, zdj, zdk, zdl, zdm, zdn, one_tt, one_ff, zdo, nthD, zdp, zdq, zdr, zds, zdt, zdu, zdv, zdw, ne_eq, not_false_eq_true, zdx, zdy, zdz, bsl0, zea, zeb, zec, zed, zee, zef, List.length_cons, List.length_nil, Nat.zero_add, Nat.le_refl, Nat.reduceLeDiff, Nat.add_zero, Option.map_some, Option.map_none, Int.ofNat_lt, Int.ofNat_le, Prod.mk.injEq, and_false, false_and, decide_true, decide_false, Bool.not_true, Bool.not_false, Nat.reduceLT, Nat.reduceEqDiff, Nat.reduceAdd, Nat.reduceSub, if_true, if_false, reduceIte, Int.cast_ofNat_Int, Nat.reduceBEq, Nat.reduceMul, Nat.reduceDiv, Nat.reduceMod, and_true, true_and, and_self, reduceCtorEq, eq_self, zeg, zeh, zei, zej, zek, zel, zem, zen, s.vlen]
  refine wk_loop (fun m t => ∃ (i : Nat) (fr : Fr), t = ⟨fr, [], h⟩ ∧ i ≤ l.length ∧ m = l.length - i ∧ (∀ j y, j < i → l[j]? = some y → y = 0) ∧
    fr.get (sOf 0) = v ∧ fr.get (sOf 3) = .int .i64 (i : Nat)) ?_ ⟨0, _, rfl, Nat.zero_le _, rfl, fun j y h => absurd h (Nat.not_lt_zero _), ?_, ?_⟩
  · rintro m t ⟨i, fr, rfl, hi, rfl, hno, e0, e3⟩
    by_cases hlt : i < l.length
    · obtain ⟨y, hy⟩ : ∃ y, l[i]? = some y := ⟨l[i], List.getElem?_eq_getElem hlt⟩
      by_cases hxy : y = 0
      · subst hxy
        simp only [zaa, zab, zac, zad, zae, zaf, zag, zah, zai, zaj, zak, zal, zam, zan, zao, zap, zaq, zar, zas, zat, zau, zav, zaw, zax, zay, zaz, zba, zbb, zbc, zbd, zbe, zbf, zbg, zbh, zbi, zbj, zbk, zbl, zbm, zbn, zbo, zbp, zbq, zbr, zbs, zbt, zbu, X.ev_t, X.ev_c, Fr.gs, zbv, zbw, zbx, zby, zbz, zca, zcb, zcc, zcd, zce, zcf, zcg, zch, zci, zcj, zck, zcl, zcm, zcn, zco, zcp, zcq, zcr, zcs, zct, zcu, zcv, zcw, zcx, zcy, zcz, zda, zdb, zdc, zdd, zde, zdf, zdg, zdh, zdi, zdj, zdk, zdl, zdm, zdn, one_tt, one_ff, zdo, nthD, zdp, zdq, zdr, zds, zdt, zdu, zdv, zdw, ne_eq, not_false_eq_true, zdx, zdy, zdz, bsl0, zea, zeb, zec, zed, zee, zef, List.length_cons, List.length_nil, Nat.zero_add, Nat.le_refl, Nat.reduceLeDiff, Nat.add_zero, Option.map_some, Option.map_none, Int.ofNat_lt, Int.ofNat_le, Prod.mk.injEq, and_false, false_and, decide_true, decide_false, Bool.not_true, Bool.not_false, Nat.reduceLT, Nat.reduceEqDiff, Nat.reduceAdd, Nat.reduceSub, if_true, if_false, reduceIte, Int.cast_ofNat_Int, Nat.reduceBEq, Nat.reduceMul, Nat.reduceDiv, Nat.reduceMod, and_true, true_and, and_self, reduceCtorEq, eq_self, zeg, zeh, zei, zej, zek, zel, zem, zen, e0, e3, s.vlen, hlt, s.addr hlt, s.load hy, wrap_succ (show i < 9223372036854775807 by omega)]
        refine ⟨l.length - (i + 1), by omega, i + 1, _, rfl, by omega, rfl, fun j z hj hz => ?_, ?_, ?_⟩
        · rcases Nat.lt_or_ge j i with h | h
          · exact hno j z h hz
          · have : j = i := by omega
            subst this; rw [hy] at hz; cases hz; rfl
        all_goals simp only [zaa, zab, zac, zad, zae, zaf, zag, zah, zai, zaj, zak, zal, zam, zan, zao, zap, zaq, zar, zas, zat, zau, zav, zaw, zax, zay, zaz, zba, zbb, zbc, zbd, zbe, zbf, zbg, zbh, zbi, zbj, zbk, zbl, zbm, zbn, zbo, zbp, zbq, zbr, zbs, zbt, zbu, X.ev_t, X.ev_c, Fr.gs, zbv, zbw, zbx, zby, zbz, zca, zcb, zcc, zcd, zce, zcf, zcg, zch, zci, zcj, zck, zcl, zcm, zcn, zco, zcp, zcq, zcr, zcs, zct, zcu, zcv, zcw, zcx, zcy, zcz, zda, zdb, zdc, zdd, zde, zdf, zdg, zdh, zdi, zdj, zdk, zdl, zdm, zdn, one_tt, one_ff, zdo, nthD, zdp, zdq, zdr, zds, zdt, zdu, zdv, zdw, ne_eq, not_false_eq_true, zdx, zdy, zdz, bsl0, zea, zeb, zec, zed, zee, zef, List.length_cons, List.length_nil, Nat.zero_add, Nat.le_refl, Nat.reduceLeDiff, Nat.add_zero, Option.map_some, Option.map_none, Int.ofNat_lt, Int.ofNat_le, Prod.mk.injEq, and_false, false_and, decide_true, decide_false, Bool.not_true, Bool.not_false, Nat.reduceLT, Nat.reduceEqDiff, Nat.reduceAdd, Nat.reduceSub, if_true, if_false, reduceIte, Int.cast_ofNat_Int, Nat.reduceBEq, Nat.reduceMul, Nat.reduceDiv, Nat.reduceMod, and_true, true_and, and_self, reduceCtorEq, eq_self, zeg, zeh, zei, zej, zek, zel, zem, zen, e0]
      · simp only [zaa, zab, zac, zad, zae, zaf, zag, zah, zai, zaj, zak, zal, zam, zan, zao, zap, zaq, zar, zas, zat, zau, zav, zaw, zax, zay, zaz, zba, zbb, zbc, zbd, zbe, zbf, zbg, zbh, zbi, zbj, zbk, zbl, zbm, zbn, zbo, zbp, zbq, zbr, zbs, zbt, zbu, X.ev_t, X.ev_c, Fr.gs, zbv, zbw, zbx, zby, zbz, zca, zcb, zcc, zcd, zce, zcf, zcg, zch, zci, zcj, zck, zcl, zcm, zcn, zco, zcp, zcq, zcr, zcs, zct, zcu, zcv, zcw, zcx, zcy, zcz, zda, zdb, zdc, zdd, zde, zdf, zdg, zdh, zdi, zdj, zdk, zdl, zdm, zdn, one_tt, one_ff, zdo, nthD, zdp, zdq, zdr, zds, zdt, zdu, zdv, zdw, ne_eq, not_false_eq_true, zdx, zdy, zdz, bsl0, zea, zeb, zec, zed, zee, zef, List.length_cons, List.length_nil, Nat.zero_add, Nat.le_refl, Nat.reduceLeDiff, Nat.add_zero, Option.map_some, Option.map_none, Int.ofNat_lt, Int.ofNat_le, Prod.mk.injEq, and_false, false_and, decide_true, decide_false, Bool.not_true, Bool.not_false, Nat.reduceLT, Nat.reduceEqDiff, Nat.reduceAdd, Nat.reduceSub, if_true, if_false, reduceIte, Int.cast_ofNat_Int, Nat.reduceBEq, Nat.reduceMul, Nat.reduceDiv, Nat.reduceMod, and_true, true_and, and_self, reduceCtorEq, eq_self, zeg, zeh, zei, zej, zek, zel, zem, zen, e0, e3, s.vlen, hlt, s.addr hlt, s.load hy, hxy]
        rw [firstI_at hy hxy hno]
    · simp only [zaa, zab, zac, zad, zae, zaf, zag, zah, zai, zaj, zak, zal, zam, zan, zao, zap, zaq, zar, zas, zat, zau, zav, zaw, zax, zay, zaz, zba, zbb, zbc, zbd, zbe, zbf, zbg, zbh, zbi, zbj, zbk, zbl, zbm, zbn, zbo, zbp, zbq, zbr, zbs, zbt, zbu, X.ev_t, X.ev_c, Fr.gs, zbv, zbw, zbx, zby, zbz, zca, zcb, zcc, zcd, zce, zcf, zcg, zch, zci, zcj, zck, zcl, zcm, zcn, zco, zcp, zcq, zcr, zcs, zct, zcu, zcv, zcw, zcx, zcy, zcz, zda, zdb, zdc, zdd, zde, zdf, zdg, zdh, zdi, zdj, zdk, zdl, zdm, zdn, one_tt, one_ff, zdo, nthD, zdp, zdq, zdr, zds, zdt, zdu, zdv, zdw, ne_eq, not_false_eq_true, zdx, zdy, zdz, bsl0, zea, zeb, zec, zed, zee, zef, List.length_cons, List.length_nil, Nat.zero_add, Nat.le_refl, Nat.reduceLeDiff, Nat.add_zero, Option.map_some, Option.map_none, Int.ofNat_lt, Int.ofNat_le, Prod.mk.injEq, and_false, false_and, decide_true, decide_false, Bool.not_true, Bool.not_false, Nat.reduceLT, Nat.reduceEqDiff, Nat.reduceAdd, Nat.reduceSub, if_true, if_false, reduceIte, Int.cast_ofNat_Int, Nat.reduceBEq, Nat.reduceMul, Nat.reduceDiv, Nat.reduceMod, and_true, true_and, and_self, reduceCtorEq, eq_self, zeg, zeh, zei, zej, zek, zel, zem, zen, e0, e3, s.vlen, hlt]
      rw [firstI_zero fun j y hj hy => hno j y (by omega) hy]
  all_goals simp only [zaa, zab, zac, zad, zae, zaf, zag, zah, zai, zaj, zak, zal, zam, zan, zao, zap, zaq, zar, zas, zat, zau, zav, zaw, zax, zay, zaz, zba, zbb, zbc, zbd, zbe, zbf, zbg, zbh, zbi, zbj, zbk, zbl, zbm, zbn, zbo, zbp, zbq, zbr, zbs, zbt, zbu, X.ev_t, X.ev_c, Fr.gs, zbv, zbw, zbx, zby, zbz, zca, zcb, zcc, zcd, zce, zcf, zcg, zch, zci, zcj, zck, zcl, zcm, zcn, zco, zcp, zcq, zcr, zcs, zct, zcu, zcv, zcw, zcx, zcy, zcz, zda, zdb, zdc, zdd, zde, zdf, zdg, zdh, zdi, zdj, zdk, zdl, zdm, zdn, one_tt, one_ff, zdo, nthD, zdp, zdq, zdr, zds, zdt, zdu, zdv, zdw, ne_eq, not_false_eq_true, zdx, zdy, zdz, bsl0, zea, zeb, zec, zed, zee, zef, List.length_cons, List.length_nil, Nat.zero_add, Nat.le_refl, Nat.reduceLeDiff, Nat.add_zero, Option.map_some, Option.map_none, Int.ofNat_lt, Int.ofNat_le, Prod.mk.injEq, and_false, false_and, decide_true, decide_false, Bool.not_true, Bool.not_false, Nat.reduceLT, Nat.reduceEqDiff, Nat.reduceAdd, Nat.reduceSub, if_true, if_false, reduceIte, Int.cast_ofNat_Int, Nat.reduceBEq, Nat.reduceMul, Nat.reduceDiv, Nat.reduceMod, and_true, true_and, and_self, reduceCtorEq, eq_self, zeg, zeh, zei, zej, zek, zel, zem, zen]
theorem f85 (a : Int) (h : H) : FnTo (PrL u) 85 [.int .i64 a] h (lv (a, false)) (h.new (bx (a, false))) := by
  refine (wFn_run rfl F85_eq rfl ?_).is
  simp only [F85, zaa, zab, zac, zad, zae, zaf, zag, zah, zai, zaj, zak, zal, zam, zan, zao, zap, zaq, zar, zas, zat, zau, zav, zaw, zax, zay, zaz, zba, zbb, zbc, zbd, zbe, zbf, zbg, zbh, zbi, zbj, zbk, zbl, zbm, zbn, zbo, zbp, zbq, zbr, zbs, zbt, zbu, X.ev_t, X.ev_c, Fr.gs, zbv, zbw, zbx, zby, zbz, zca, zcb, zcc, zcd, zce, zcf, zcg, zch, zci, zcj, zck, zcl, zcm, zcn, zco, zcp, zcq, zcr, zcs, zct, zcu, zcv, zcw, zcx, zcy, zcz, zda, zdb, zdc, zdd, zde, zdf, zdg, zdh, zdi, zdj, zdk, zdl, zdm, zdn, one_tt, one_ff, zdo, nthD, zdp, zdq, zdr, zds, zdt, zdu, zdv, zdw, ne_eq, not_false_eq_true, zdx, zdy, zdz, bsl0, zea, zeb, zec, zed, zee, zef, List.length_cons, List.length_nil, Nat.zero_add, Nat.le_refl, Nat.reduceLeDiff, Nat.add_zero, Option.map_some, Option.map_none, Int.ofNat_lt, Int.ofNat_le, Prod.mk.injEq, and_false, false_and, decide_true, decide_false, Bool.not_true, Bool.not_false, Nat.reduceLT, Nat.reduceEqDiff, Nat.reduceAdd, Nat.reduceSub, if_true, if_false, reduceIte, Int.cast_ofNat_Int, Nat.reduceBEq, Nat.reduceMul, Nat.reduceDiv, Nat.reduceMod, and_true, true_and, and_self, reduceCtorEq, eq_self, zeg, zeh, zei, zej, zek, zel, zem, zen]
theorem f86 (a : Int) (h : H) : FnTo (PrL u) 86 [.int .i64 a] h (lv (a, true)) (h.new (bx (a, true))) := by
  refine (wFn_run rfl F86_eq rfl ?_).is
  simp only [F86, zaa, zab, zac, zad, zae, zaf, zag, zah, zai, zaj, zak, zal, zam, zan, zao, zap, zaq, zar, zas, zat, zau, zav, zaw, zax, zay, zaz, zba, zbb, zbc, zbd, zbe, zbf, zbg, zbh, zbi, zbj, zbk, zbl, zbm, zbn, zbo, zbp, zbq, zbr, zbs, zbt, zbu, X.ev_t, X.ev_c, Fr.gs, zbv, zbw, zbx, zby, zbz, zca, zcb, zcc, zcd, zce, zcf, zcg, zch, zci, zcj, zck, zcl, zcm, zcn, zco, zcp, zcq, zcr, zcs, zct, zcu, zcv, zcw, zcx, zcy, zcz, zda, zdb, zdc, zdd, zde, zdf, zdg, zdh, zdi, zdj, zdk, zdl, zdm, zdn, one_tt, one_ff, zdo, nthD, zdp, zdq, zdr, zds, zdt, zdu, zdv, zdw, ne_eq, not_false_eq_true, zdx, zdy, zdz, bsl0, zea, zeb, zec, zed, zee, zef, List.length_cons, List.length_nil, Nat.zero_add, Nat.le_refl, Nat.reduceLeDiff, Nat.add_zero, Option.map_some, Option.map_none, Int.ofNat_lt, Int.ofNat_le, Prod.mk.injEq, and_false, false_and, decide_true, decide_false, Bool.not_true, Bool.not_false, Nat.reduceLT, Nat.reduceEqDiff, Nat.reduceAdd, Nat.reduceSub, if_true, if_false, reduceIte, Int.cast_ofNat_Int, Nat.reduceBEq, Nat.reduceMul, Nat.reduceDiv, Nat.reduceMod, and_true, true_and, and_self, reduceCtorEq, eq_self, zeg, zeh, zei, zej, zek, zel, zem, zen]
end Go.Im
open Go
set_option maxRecDepth 20000
namespace Go.Im
theorem ascB_true : ∀ {l : List Lt}, (∀ j x y, l[j]? = some x → l[j + 1]? = some y → Law.lt x y = true) → Law.ascB l = true
  | [], _ => rfl
  | [_], _ => rfl
  | a :: b :: l, h => by
    have h0 := h 0 a b rfl rfl
    have := ascB_true (l := b :: l) fun j x y hx hy => h (j + 1) x y (by simpa using hx) (by simpa using hy)
    simp [Law.ascB, h0, this]
theorem ascB_false : ∀ {l : List Lt} {j : Nat} {x y : Lt}, l[j]? = some x → l[j + 1]? = some y → Law.lt x y = false → Law.ascB l = false
  | [], j, x, y, h, _, _ => by simp at h
  | [a], j, x, y, _, h, _ => by simp at h
  | a :: b :: l, 0, x, y, hx, hy, h => by
    simp at hx hy; subst hx hy; simp [Law.ascB, h]
  | a :: b :: l, j + 1, x, y, hx, hy, h => by
    have := ascB_false (l := b :: l) (j := j) (x := x) (y := y) (by simpa using hx) (by simpa using hy) h
    simp [Law.ascB, this]
theorem cmpL_ge (x y : Lt) : decide (0 ≤ cmpL x y) = !Law.lt x y := by
  obtain ⟨a, b⟩ := x
  obtain ⟨c, d⟩ := y
  unfold cmpL Law.lt
  by_cases e : a = c
  · subst e
    cases b <;> cases d <;> simp
  · by_cases h1 : a < c
    · simp [e, h1]
    · by_cases h2 : c < a
      · simp [e, h1, h2]
      · exact absurd (show a = c by omega) e
variable (u : Ob)
/-- ascending -/
theorem f27 {v : V} {l : List Lt} {h : H} (hk : h.ok) (s : LitsOf h v l) (hn : l.length < 4611686018427387904) : ∃ h', FnTo (PrL u) 27 [v] h (.bool (Law.ascB l)) h' ∧ Grew h h' := by
  have key : wFn (PrL u) 27 [v] h fun x y => x = .bool (Law.ascB l) ∧ Grew h y := by
    refine wFn_run rfl F27_eq rfl ?_
    simp only [F27, zaa, zab, zac, zad, zae, zaf, zag, zah, zai, zaj, zak, zal, zam, zan, zao, zap, zaq, zar, zas, zat, zau, zav, zaw, zax, zay, zaz, zba, zbb, zbc, zbd, zbe, zbf, zbg, zbh, zbi, zbj, zbk, zbl, zbm, zbn, zbo, zbp, zbq, zbr, zbs, zbt, zbu, X.ev_t, X.ev_c, Fr.gs, zbv, zbw, zbx, zby, zbz, zca, zcb, zcc, zcd, zce, zcf, zcg, zch, zci, zcj, zck, zcl, zcm, zcn, zco, zcp, zcq, zcr, zcs, zct, zcu, zcv, zcw, zcx, zcy, zcz, zda, zdb, zdc, zdd, zde, zdf, zdg, zdh, zdi, zdj, zdk, zdl, zdm, zdn, one_tt, one_ff, zdo, nthD, zdp, zdq, zdr, zds, zdt, zdu, zdv, zdw, ne_eq, not_false_eq_true, zdx, zdy, zdz, bsl0, zea, zeb, zec, zed, zee, zef, List.length_cons, List.length_nil, Nat.zero_add, Nat.le_refl, Nat.reduceLeDiff, Nat.add_zero, Option.map_some, Option.map_none, Int.ofNat_lt, Int.ofNat_le, Prod.mk.injEq, and_false, false_and, decide_true, decide_false, Bool.not_true, Bool.not_false, Nat.reduceLT, Nat.reduceEqDiff, Nat.reduceAdd, Nat.reduceSub, if_true, if_false, reduceIte, Int.cast_ofNat_Int, Nat.reduceBEq, Nat.reduceMul, Nat.reduceDiv, Nat.reduceMod, and_true, true_and, and_self, reduceCtorEq, eq_self, zeg, zeh, zei, zej, zek, zel, zem, zen]
    refine wk_loop (fun m t => ∃ (i : Nat) (fr : Fr) (h1 : H), t = ⟨fr, [], h1⟩ ∧ Grew h h1 ∧ 1 ≤ i ∧ m = l.length - i ∧ (∀ j x y, j + 1 < i → l[j]? = some x → l[j + 1]? = some y → Law.lt x y = true) ∧
      fr.get (sOf 0) = v ∧ fr.get (sOf 3) = .int .i64 (i : Nat)) ?_ ⟨1, _, h, rfl, .refl hk, Nat.le_refl _, rfl, fun j x y h => by omega, ?_, ?_⟩
    · rintro m t ⟨i, fr, h1, rfl, g1, hi, rfl, hno, e0, e3⟩
      have s1 := s.grew hk g1
      by_cases hlt : i < l.length
      · obtain ⟨y, hy⟩ : ∃ y, l[i]? = some y := ⟨l[i], List.getElem?_eq_getElem hlt⟩
        obtain ⟨x, hx⟩ : ∃ x, l[i - 1]? = some x := ⟨l[i - 1], List.getElem?_eq_getElem (by omega)⟩
        have hi1 : i - 1 + 1 = i := by omega
        cases hxy : Law.lt x y with
        | false =>
          simp only [zaa, zab, zac, zad, zae, zaf, zag, zah, zai, zaj, zak, zal, zam, zan, zao, zap, zaq, zar, zas, zat, zau, zav, zaw, zax, zay, zaz, zba, zbb, zbc, zbd, zbe, zbf, zbg, zbh, zbi, zbj, zbk, zbl, zbm, zbn, zbo, zbp, zbq, zbr, zbs, zbt, zbu, X.ev_t, X.ev_c, Fr.gs, zbv, zbw, zbx, zby, zbz, zca, zcb, zcc, zcd, zce, zcf, zcg, zch, zci, zcj, zck, zcl, zcm, zcn, zco, zcp, zcq, zcr, zcs, zct, zcu, zcv, zcw, zcx, zcy, zcz, zda, zdb, zdc, zdd, zde, zdf, zdg, zdh, zdi, zdj, zdk, zdl, zdm, zdn, one_tt, one_ff, zdo, nthD, zdp, zdq, zdr, zds, zdt, zdu, zdv, zdw, ne_eq, not_false_eq_true, zdx, zdy, zdz, bsl0, zea, zeb, zec, zed, zee, zef, List.length_cons, List.length_nil, Nat.zero_add, Nat.le_refl, Nat.reduceLeDiff, Nat.add_zero, Option.map_some, Option.map_none, Int.ofNat_lt, Int.ofNat_le, Prod.mk.injEq, and_false, false_and, decide_true, decide_false, Bool.not_true, Bool.not_false, Nat.reduceLT, Nat.reduceEqDiff, Nat.reduceAdd, Nat.reduceSub, if_true, if_false, reduceIte, Int.cast_ofNat_Int, Nat.reduceBEq, Nat.reduceMul, Nat.reduceDiv, Nat.reduceMod, and_true, true_and, and_self, reduceCtorEq, eq_self, zeg, zeh, zei, zej, zek, zel, zem, zen, e0, e3, s.vlen, hlt, wrap_pred hi (show i < 9223372036854775807 by omega), s1.addr hlt, s1.addr (show i - 1 < l.length by omega), s1.load hy, s1.load hx, (f77 u x y _).dcl, cmpL_ge, hxy]
          exact ⟨by rw [ascB_false hx (by rw [hi1]; exact hy) hxy], (g1.new _).new _⟩
        | true =>
          simp only [zaa, zab, zac, zad, zae, zaf, zag, zah, zai, zaj, zak, zal, zam, zan, zao, zap, zaq, zar, zas, zat, zau, zav, zaw, zax, zay, zaz, zba, zbb, zbc, zbd, zbe, zbf, zbg, zbh, zbi, zbj, zbk, zbl, zbm, zbn, zbo, zbp, zbq, zbr, zbs, zbt, zbu, X.ev_t, X.ev_c, Fr.gs, zbv, zbw, zbx, zby, zbz, zca, zcb, zcc, zcd, zce, zcf, zcg, zch, zci, zcj, zck, zcl, zcm, zcn, zco, zcp, zcq, zcr, zcs, zct, zcu, zcv, zcw, zcx, zcy, zcz, zda, zdb, zdc, zdd, zde, zdf, zdg, zdh, zdi, zdj, zdk, zdl, zdm, zdn, one_tt, one_ff, zdo, nthD, zdp, zdq, zdr, zds, zdt, zdu, zdv, zdw, ne_eq, not_false_eq_true, zdx, zdy, zdz, bsl0, zea, zeb, zec, zed, zee, zef, List.length_cons, List.length_nil, Nat.zero_add, Nat.le_refl, Nat.reduceLeDiff, Nat.add_zero, Option.map_some, Option.map_none, Int.ofNat_lt, Int.ofNat_le, Prod.mk.injEq, and_false, false_and, decide_true, decide_false, Bool.not_true, Bool.not_false, Nat.reduceLT, Nat.reduceEqDiff, Nat.reduceAdd, Nat.reduceSub, if_true, if_false, reduceIte, Int.cast_ofNat_Int, Nat.reduceBEq, Nat.reduceMul, Nat.reduceDiv, Nat.reduceMod, and_true, true_and, and_self, reduceCtorEq, eq_self, zeg, zeh, zei, zej, zek, zel, zem, zen, e0, e3, s.vlen, hlt, wrap_pred hi (show i < 9223372036854775807 by omega), s1.addr hlt, s1.addr (show i - 1 < l.length by omega), s1.load hy, s1.load hx, (f77 u x y _).dcl, cmpL_ge, hxy, wrap_succ (show i < 9223372036854775807 by omega)]
          refine ⟨l.length - (i + 1), by omega, i + 1, _, _, rfl, (g1.new _).new _, by omega, rfl, fun j a b hj ha hb => ?_, ?_, ?_⟩
          · rcases Nat.lt_or_ge (j + 1) i with h | h
            · exact hno j a b h ha hb
            · have : j = i - 1 := by omega
              subst this; rw [hx] at ha; cases ha; rw [hi1, hy] at hb; cases hb; exact hxy
          all_goals simp only [zaa, zab, zac, zad, zae, zaf, zag, zah, zai, zaj, zak, zal, zam, zan, zao, zap, zaq, zar, zas, zat, zau, zav, zaw, zax, zay, zaz, zba, zbb, zbc, zbd, zbe, zbf, zbg, zbh, zbi, zbj, zbk, zbl, zbm, zbn, zbo, zbp, zbq, zbr, zbs, zbt, zbu, X.ev_t, X.ev_c, Fr.gs, zbv, zbw, zbx, zby, zbz, zca, zcb, zcc, zcd, zce, zcf, zcg, zch, zci, zcj, zck, zcl, zcm, zcn, zco, zcp, zcq, zcr, zcs, zct, zcu, zcv, zcw, zcx, zcy, zcz, zda, zdb, zdc, zdd, zde, zdf, zdg, zdh, zdi, zdj, zdk, zdl, zdm, zdn, one_tt, one_ff, zdo, nthD, zdp, zdq, zdr, zds, zdt, zdu, zdv, zdw, ne_eq, not_false_eq_true, zdx, zdy, zdz, bsl0, zea, zeb, zec, zed, zee, zef, List.length_cons, List.length_nil, Nat.zero_add, Nat.le_refl, Nat.reduceLeDiff, Nat.add_zero, Option.map_some, Option.map_none, Int.ofNat_lt, Int.ofNat_le, Prod.mk.injEq, and_false, false_and, decide_true, decide_false, Bool.not_true, Bool.not_false, Nat.reduceLT, Nat.reduceEqDiff, Nat.reduceAdd, Nat.reduceSub, if_true, if_false, reduceIte, Int.cast_ofNat_Int, Nat.reduceBEq, Nat.reduceMul, Nat.reduceDiv, Nat.reduceMod, and_true, true_and, and_self, reduceCtorEq, eq_self, zeg, zeh, zei, zej, zek, zel, zem, zen, e0]
      · simp only [zaa, zab, zac, zad, zae, zaf, zag, zah, zai, zaj, zak, zal, zam, zan, zao, zap, zaq, zar, zas, zat, zau, zav, zaw, zax, zay, zaz, zba, zbb, zbc, zbd, zbe, zbf, zbg, zbh, zbi, zbj, zbk, zbl, zbm, zbn, zbo, zbp, zbq, zbr, zbs, zbt, zbu, X.ev_t, X.ev_c, Fr.gs, zbv, zbw, zbx, zby, zbz, zca, zcb, zcc, zcd, zce, zcf, zcg, zch, zci, zcj, zck, zcl, zcm, zcn, zco, zcp, zcq, zcr, zcs, zct, zcu, zcv, zcw, zcx, zcy, zcz, zda, zdb, zdc, zdd, zde, zdf, zdg, zdh, zdi, zdj, zdk, zdl, zdm, zdn, one_tt, one_ff, zdo, nthD, zdp, zdq, zdr, zds, zdt, zdu, zdv, zdw, ne_eq, not_false_eq_true, zdx, zdy, zdz, bsl0, zea, zeb, zec, zed, zee, zef, List.length_cons, List.length_nil, Nat.zero_add, Nat.le_refl, Nat.reduceLeDiff, Nat.add_zero, Option.map_some, Option.map_none, Int.ofNat_lt, Int.ofNat_le, Prod.mk.injEq, and_false, false_and, decide_true, decide_false, Bool.not_true, Bool.not_false, Nat.reduceLT, Nat.reduceEqDiff, Nat.reduceAdd, Nat.reduceSub, if_true, if_false, reduceIte, Int.cast_ofNat_Int, Nat.reduceBEq, Nat.reduceMul, Nat.reduceDiv, Nat.reduceMod, and_true, true_and, and_self, reduceCtorEq, eq_self, zeg, zeh, zei, zej, zek, zel, zem, zen, e0, e3, s.vlen, hlt]
        refine ⟨?_, g1⟩
        rw [ascB_true fun j x y hx hy => hno j x y (by
          rcases Nat.lt_or_ge (j + 1) l.length with h | h
          · omega
          · rw [List.getElem?_eq_none h] at hy; cases hy) hx hy]
    all_goals simp only [zaa, zab, zac, zad, zae, zaf, zag, zah, zai, zaj, zak, zal, zam, zan, zao, zap, zaq, zar, zas, zat, zau, zav, zaw, zax, zay, zaz, zba, zbb, zbc, zbd, zbe, zbf, zbg, zbh, zbi, zbj, zbk, zbl, zbm, zbn, zbo, zbp, zbq, zbr, zbs, zbt, zbu, X.ev_t, X.ev_c, Fr.gs, zbv, zbw, zbx, zby, zbz, zca, zcb, zcc, zcd, zce, zcf, zcg, zch, zci, zcj, zck, zcl, zcm, zcn, zco, zcp, zcq, zcr, zcs, zct, zcu, zcv, zcw, zcx, zcy, zcz, zda, zdb, zdc, zdd, zde, zdf, zdg, zdh, zdi, zdj, zdk, zdl, zdm, zdn, one_tt, one_ff, zdo, nthD, zdp, zdq, zdr, zds, zdt, zdu, zdv, zdw, ne_eq, not_false_eq_true, zdx, zdy, zdz, bsl0, zea, zeb, zec, zed, zee, zef, List.length_cons, List.length_nil, Nat.zero_add, Nat.le_refl, Nat.reduceLeDiff, Nat.add_zero, Option.map_some, Option.map_none, Int.ofNat_lt, Int.ofNat_le, Prod.mk.injEq, and_false, false_and, decide_true, decide_false, Bool.not_true, Bool.not_false, Nat.reduceLT, Nat.reduceEqDiff, Nat.reduceAdd, Nat.reduceSub, if_true, if_false, reduceIte, Int.cast_ofNat_Int, Nat.reduceBEq, Nat.reduceMul, Nat.reduceDiv, Nat.reduceMod, and_true, true_and, and_self, reduceCtorEq, eq_self, zeg, zeh, zei, zej, zek, zel, zem, zen]
  obtain ⟨x, h', a, rfl, g⟩ := key.to
  exact ⟨h', a, g⟩
theorem f31 {v : V} {l : List Lt} {h : H} (hk : h.ok) (s : LitsOf h v l) (hn : l.length < 4611686018427387904) : ∃ h', FnTo (PrL u) 31 [v] h (.bool (Law.ascB l)) h' ∧ Grew h h' := by
  have key : wFn (PrL u) 31 [v] h fun x y => x = .bool (Law.ascB l) ∧ Grew h y := by
    refine wFn_run rfl F31_eq rfl ?_
    simp only [F31, zaa, zab, zac, zad, zae, zaf, zag, zah, zai, zaj, zak, zal, zam, zan, zao, zap, zaq, zar, zas, zat, zau, zav, zaw, zax, zay, zaz, zba, zbb, zbc, zbd, zbe, zbf, zbg, zbh, zbi, zbj, zbk, zbl, zbm, zbn, zbo, zbp, zbq, zbr, zbs, zbt, zbu, X.ev_t, X.ev_c, Fr.gs, zbv, zbw, zbx, zby, zbz, zca, zcb, zcc, zcd, zce, zcf, zcg, zch, zci, zcj, zck, zcl, zcm, zcn, zco, zcp, zcq, zcr, zcs, zct, zcu, zcv, zcw, zcx, zcy, zcz, zda, zdb, zdc, zdd, zde, zdf, zdg, zdh, zdi, zdj, zdk, zdl, zdm, zdn, one_tt, one_ff, zdo, nthD, zdp, zdq, zdr, zds, zdt, zdu, zdv, zdw, ne_eq, not_false_eq_true, zdx, zdy, zdz, bsl0, zea, zeb, zec, zed, zee, zef, List.length_cons, List.length_nil, Nat.zero_add, Nat.le_refl, Nat.reduceLeDiff, Nat.add_zero, Option.map_some, Option.map_none, Int.ofNat_lt, Int.ofNat_le, Prod.mk.injEq, and_false, false_and, decide_true, decide_false, Bool.not_true, Bool.not_false, Nat.reduceLT, Nat.reduceEqDiff, Nat.reduceAdd, Nat.reduceSub, if_true, if_false, reduceIte, Int.cast_ofNat_Int, Nat.reduceBEq, Nat.reduceMul, Nat.reduceDiv, Nat.reduceMod, and_true, true_and, and_self, reduceCtorEq, eq_self, zeg, zeh, zei, zej, zek, zel, zem, zen]
    refine wk_loop (fun m t => ∃ (i : Nat) (fr : Fr) (h1 : H), t = ⟨fr, [], h1⟩ ∧ Grew h h1 ∧ 1 ≤ i ∧ m = l.length - i ∧ (∀ j x y, j + 1 < i → l[j]? = some x → l[j + 1]? = some y → Law.lt x y = true) ∧
      fr.get (sOf 0) = v ∧ fr.get (sOf 3) = .int .i64 (i : Nat)) ?_ ⟨1, _, h, rfl, .refl hk, Nat.le_refl _, rfl, fun j x y h => by omega, ?_, ?_⟩
    · rintro m t ⟨i, fr, h1, rfl, g1, hi, rfl, hno, e0, e3⟩
      have s1 := s.grew hk g1
      by_cases hlt : i < l.length
      · obtain ⟨y, hy⟩ : ∃ y, l[i]? = some y := ⟨l[i], List.getElem?_eq_getElem hlt⟩
        obtain ⟨x, hx⟩ : ∃ x, l[i - 1]? = some x := ⟨l[i - 1], List.getElem?_eq_getElem (by omega)⟩
        have hi1 : i - 1 + 1 = i := by omega
        cases hxy : Law.lt x y with
        | false =>
          simp only [zaa, zab, zac, zad, zae, zaf, zag, zah, zai, zaj, zak, zal, zam, zan, zao, zap, zaq, zar, zas, zat, zau, zav, zaw, zax, zay, zaz, zba, zbb, zbc, zbd, zbe, zbf, zbg, zbh, zbi, zbj, zbk, zbl, zbm, zbn, zbo, zbp, zbq, zbr, zbs, zbt, zbu, X.ev_t, X.ev_c, Fr.gs, zbv, zbw, zbx, zby, zbz, zca, zcb, zcc, zcd, zce, zcf, zcg, zch, zci, zcj, zck, zcl, zcm, zcn, zco, zcp, zcq, zcr, zcs, zct, zcu, zcv, zcw, zcx, zcy, zcz, zda, zdb, zdc, zdd, zde, zdf, zdg, zdh, zdi, zdj, zdk, zdl, zdm, zdn, one_tt, one_ff, zdo, nthD, zdp, zdq, zdr, zds, zdt, zdu, zdv, zdw, ne_eq, not_false_eq_true, zdx, zdy, zdz, bsl0, zea, zeb, zec, zed, zee, zef, List.length_cons, List.length_nil, Nat.zero_add, Nat.le_refl, Nat.reduceLeDiff, Nat.add_zero, Option.map_some, Option.map_none, Int.ofNat_lt, Int.ofNat_le, Prod.mk.injEq, and_false, false_and, decide_true, decide_false, Bool.not_true, Bool.not_false, Nat.reduceLT, Nat.reduceEqDiff, Nat.reduceAdd, Nat.reduceSub, if_true, if_false, reduceIte, Int.cast_ofNat_Int, Nat.reduceBEq, Nat.reduceMul, Nat.reduceDiv, Nat.reduceMod, and_true, true_and, and_self, reduceCtorEq, eq_self, zeg, zeh, zei, zej, zek, zel, zem, zen, e0, e3, s.vlen, hlt, wrap_pred hi (show i < 9223372036854775807 by omega), s1.addr hlt, s1.addr (show i - 1 < l.length by omega), s1.load hy, s1.load hx, (f84 u x y _).dcl, hxy]
          exact ⟨by rw [ascB_false hx (by rw [hi1]; exact hy) hxy], (g1.new _).new _⟩
        | true =>
          simp only [zaa, zab, zac, zad, zae, zaf, zag, zah, zai, zaj, zak, zal, zam, zan, zao, zap, zaq, zar, zas, zat, zau, zav, zaw, zax, zay, zaz, zba, zbb, zbc, zbd, zbe, zbf, zbg, zbh, zbi, zbj, zbk, zbl, zbm, zbn, zbo, zbp, zbq, zbr, zbs, zbt, zbu, X.ev_t, X.ev_c, Fr.gs, zbv, zbw, zbx, zby, zbz, zca, zcb, zcc, zcd, zce, zcf, zcg, zch, zci, zcj, zck, zcl, zcm, zcn, zco, zcp, zcq, zcr, zcs, zct, zcu, zcv, zcw, zcx, zcy, zcz, zda, zdb, zdc, zdd, zde, zdf, zdg, zdh, zdi, zdj, zdk, zdl, zdm, zdn, one_tt, one_ff, zdo, nthD, zdp, zdq, zdr, zds, zdt, zdu, zdv, zdw, ne_eq, not_false_eq_true, zdx, zdy, zdz, bsl0, zea, zeb, zec, zed, zee, zef, List.length_cons, List.length_nil, Nat.zero_add, Nat.le_refl, Nat.reduceLeDiff, Nat.add_zero, Option.map_some, Option.map_none, Int.ofNat_lt, Int.ofNat_le, Prod.mk.injEq, and_false, false_and, decide_true, decide_false, Bool.not_true, Bool.not_false, Nat.reduceLT, Nat.reduceEqDiff, Nat.reduceAdd, Nat.reduceSub, if_true, if_false, reduceIte, Int.cast_ofNat_Int, Nat.reduceBEq, Nat.reduceMul, Nat.reduceDiv, Nat.reduceMod, and_true, true_and, and_self, reduceCtorEq, eq_self, zeg, zeh, zei, zej, zek, zel, zem, zen, e0, e3, s.vlen, hlt, wrap_pred hi (show i < 9223372036854775807 by omega), s1.addr hlt, s1.addr (show i - 1 < l.length by omega), s1.load hy, s1.load hx, (f84 u x y _).dcl, hxy, wrap_succ (show i < 9223372036854775807 by omega)]
          refine ⟨l.length - (i + 1), by omega, i + 1, _, _, rfl, (g1.new _).new _, by omega, rfl, fun j a b hj ha hb => ?_, ?_, ?_⟩
          · rcases Nat.lt_or_ge (j + 1) i with h | h
            · exact hno j a b h ha hb
            · have : j = i - 1 := by omega
              subst this; rw [hx] at ha; cases ha; rw [hi1, hy] at hb; cases hb; exact hxy
          all_goals simp only [zaa, zab, zac, zad, zae, zaf, zag, zah, zai, zaj, zak, zal, zam, zan, zao, zap, zaq, zar, zas, zat, zau, zav, zaw, zax, zay, zaz, zba, zbb, zbc, zbd, zbe, zbf, zbg, zbh, zbi, zbj, zbk, zbl, zbm, zbn, zbo, zbp, zbq, zbr, zbs, zbt, zbu, X.ev_t, X.ev_c, Fr.gs, zbv, zbw, zbx, zby, zbz, zca, zcb, zcc, zcd, zce, zcf, zcg, zch, zci, zcj, zck, zcl, zcm, zcn, zco, zcp, zcq, zcr, zcs, zct, zcu, zcv, zcw, zcx, zcy, zcz, zda, zdb, zdc, zdd, zde, zdf, zdg, zdh, zdi, zdj, zdk, zdl, zdm, zdn, one_tt, one_ff, zdo, nthD, zdp, zdq, zdr, zds, zdt, zdu, zdv, zdw, ne_eq, not_false_eq_true, zdx, zdy, zdz, bsl0, zea, zeb, zec, zed, zee, zef, List.length_cons, List.length_nil, Nat.zero_add, Nat.le_refl, Nat.reduceLeDiff, Nat.add_zero, Option.map_some, Option.map_none, Int.ofNat_lt, Int.ofNat_le, Prod.mk.injEq, and_false, false_and, decide_true, decide_false, Bool.not_true, Bool.not_false, Nat.reduceLT, Nat.reduceEqDiff, Nat.reduceAdd, Nat.reduceSub, if_true, if_false, reduceIte, Int.cast_ofNat_Int, Nat.reduceBEq, Nat.reduceMul, Nat.reduceDiv, Nat.reduceMod, and_true, true_and, and_self, reduceCtorEq, eq_self, zeg, zeh, zei, zej, zek, zel, zem, zen, e0]
      · simp only [zaa, zab, zac, zad, zae, zaf, zag, zah, zai, zaj, zak, zal, zam, zan, zao, zap, zaq, zar, zas, zat, zau, zav, zaw, zax, zay, zaz, zba, zbb, zbc, zbd, zbe, zbf, zbg, zbh, zbi, zbj, zbk, zbl, zbm, zbn, zbo, zbp, zbq, zbr, zbs, zbt, zbu, X.ev_t, X.ev_c, Fr.gs, zbv, zbw, zbx, zby, zbz, zca, zcb, zcc, zcd, zce, zcf, zcg, zch, zci, zcj, zck, zcl, zcm, zcn, zco, zcp, zcq, zcr, zcs, zct, zcu, zcv, zcw, zcx, zcy, zcz, zda, zdb, zdc, zdd, zde, zdf, zdg, zdh, zdi, zdj, zdk, zdl, zdm, zdn, one_tt, one_ff, zdo, nthD, zdp, zdq, zdr, zds, zdt, zdu, zdv, zdw, ne_eq, not_false_eq_true, zdx, zdy, zdz, bsl0, zea, zeb, zec, zed, zee, zef, List.length_cons, List.length_nil, Nat.zero_add, Nat.le_refl, Nat.reduceLeDiff, Nat.add_zero, Option.map_some, Option.map_none, Int.ofNat_lt, Int.ofNat_le, Prod.mk.injEq, and_false, false_and, decide_true, decide_false, Bool.not_true, Bool.not_false, Nat.reduceLT, Nat.reduceEqDiff, Nat.reduceAdd, Nat.reduceSub, if_true, if_false, reduceIte, Int.cast_ofNat_Int, Nat.reduceBEq, Nat.reduceMul, Nat.reduceDiv, Nat.reduceMod, and_true, true_and, and_self, reduceCtorEq, eq_self, zeg, zeh, zei, zej, zek, zel, zem, zen, e0, e3, s.vlen, hlt]
        refine ⟨?_, g1⟩
        rw [ascB_true fun j x y hx hy => hno j x y (by
          rcases Nat.lt_or_ge (j + 1) l.length with h | h
          · omega
          · rw [List.getElem?_eq_none h] at hy; cases hy) hx hy]
    all_goals simp only [zaa, zab, zac, zad, zae, zaf, zag, zah, zai, zaj, zak, zal, zam, zan, zao, zap, zaq, zar, zas, zat, zau, zav, zaw, zax, zay, zaz, zba, zbb, zbc, zbd, zbe, zbf, zbg, zbh, zbi, zbj, zbk, zbl, zbm, zbn, zbo, zbp, zbq, zbr, zbs, zbt, zbu, X.ev_t, X.ev_c, Fr.gs, zbv, zbw, zbx, zby, zbz, zca, zcb, zcc, zcd, zce, zcf, zcg, zch, zci, zcj, zck, zcl, zcm, zcn, zco, zcp, zcq, zcr, zcs, zct, zcu, zcv, zcw, zcx, zcy, zcz, zda, zdb, zdc, zdd, zde, zdf, zdg, zdh, zdi, zdj, zdk, zdl, zdm, zdn, one_tt, one_ff, zdo, nthD, zdp, zdq, zdr, zds, zdt, zdu, zdv, zdw, ne_eq, not_false_eq_true, zdx, zdy, zdz, bsl0, zea, zeb, zec, zed, zee, zef, List.length_cons, List.length_nil, Nat.zero_add, Nat.le_refl, Nat.reduceLeDiff, Nat.add_zero, Option.map_some, Option.map_none, Int.ofNat_lt, Int.ofNat_le, Prod.mk.injEq, and_false, false_and, decide_true, decide_false, Bool.not_true, Bool.not_false, Nat.reduceLT, Nat.reduceEqDiff, Nat.reduceAdd, Nat.reduceSub, if_true, if_false, reduceIte, Int.cast_ofNat_Int, Nat.reduceBEq, Nat.reduceMul, Nat.reduceDiv, Nat.reduceMod, and_true, true_and, and_self, reduceCtorEq, eq_self, zeg, zeh, zei, zej, zek, zel, zem, zen]
  obtain ⟨x, h', a, rfl, g⟩ := key.to
  exact ⟨h', a, g⟩
/-- has -/
theorem f87 {v : V} {l : List Lt} (x : Lt) {h : H} (hk : h.ok) (s : LitsOf h v l) (hn : l.length < 4611686018427387904) : FnTo (PrL u) 87 [v, lv x] h (.bool (decide (x ∈ l))) (h.new (bx x)) := by
  have g1 : Grew h (h.new (bx x)) := (Grew.refl hk).new _
  have s1 := s.grew hk g1
  refine (wFn_run rfl F87_eq rfl ?_).is
  simp only [F87, zaa, zab, zac, zad, zae, zaf, zag, zah, zai, zaj, zak, zal, zam, zan, zao, zap, zaq, zar, zas, zat, zau, zav, zaw, zax, zay, zaz, zba, zbb, zbc, zbd, zbe, zbf, zbg, zbh, zbi, zbj, zbk, zbl, zbm, zbn, zbo, zbp, zbq, zbr, zbs, zbt, zbu, X.ev_t, X.ev_c, Fr.gs, zbv, zbw, zbx, zby, zbz, zca, zcb, zcc, zcd, zce, zcf, zcg, zch, zci, zcj, zck, zcl, zcm, zcn, zco, zcp, zcq, zcr, zcs, zct, zcu, zcv, zcw, zcx, zcy, zcz, zda, zdb, zdc, zdd, zde, zdf, zdg, zdh, zdi, zdj, zdk, zdl, zdm, zdn, one_tt, one_ff, zdo, nthD, zdp, zdq, zdr, zds, zdt, zdu, zdv, zdw, ne_eq, not_false_eq_true, zdx, zdy, zdz, bsl0, zea, zeb, zec, zed, zee, zef, List.length_cons, List.length_nil, Nat.zero_add, Nat.le_refl, Nat.reduceLeDiff, Nat.add_zero, Option.map_some, Option.map_none, Int.ofNat_lt, Int.ofNat_le, Prod.mk.injEq, and_false, false_and, decide_true, decide_false, Bool.not_true, Bool.not_false, Nat.reduceLT, Nat.reduceEqDiff, Nat.reduceAdd, Nat.reduceSub, if_true, if_false, reduceIte, Int.cast_ofNat_Int, Nat.reduceBEq, Nat.reduceMul, Nat.reduceDiv, Nat.reduceMod, and_true, true_and, and_self, reduceCtorEq, eq_self, zeg, zeh, zei, zej, zek, zel, zem, zen]
  refine wk_loop (fun m t => ∃ (i : Nat) (fr : Fr), t = ⟨fr, [], h.new (bx x)⟩ ∧ i ≤ l.length ∧ m = l.length - i ∧ (∀ j y, j < i → l[j]? = some y → y ≠ x) ∧
    fr.get (sOf 0) = v ∧ fr.get (sOf 3) = .ptr h.next 0 0 2 ∧ fr.get (sOf 5) = .int .i64 (i : Nat)) ?_ ⟨0, _, rfl, Nat.zero_le _, rfl, fun j y h => absurd h (Nat.not_lt_zero _), ?_, ?_, ?_⟩
  · rintro m t ⟨i, fr, rfl, hi, rfl, hno, e0, e3, e5⟩
    by_cases hlt : i < l.length
    · obtain ⟨y, hy⟩ : ∃ y, l[i]? = some y := ⟨l[i], List.getElem?_eq_getElem hlt⟩
      by_cases hxy : y = x
      · subst hxy
        simp only [zaa, zab, zac, zad, zae, zaf, zag, zah, zai, zaj, zak, zal, zam, zan, zao, zap, zaq, zar, zas, zat, zau, zav, zaw, zax, zay, zaz, zba, zbb, zbc, zbd, zbe, zbf, zbg, zbh, zbi, zbj, zbk, zbl, zbm, zbn, zbo, zbp, zbq, zbr, zbs, zbt, zbu, X.ev_t, X.ev_c, Fr.gs, zbv, zbw, zbx, zby, zbz, zca, zcb, zcc, zcd, zce, zcf, zcg, zch, zci, zcj, zck, zcl, zcm, zcn, zco, zcp, zcq, zcr, zcs, zct, zcu, zcv, zcw, zcx, zcy, zcz, zda, zdb, zdc, zdd, zde, zdf, zdg, zdh, zdi, zdj, zdk, zdl, zdm, zdn, one_tt, one_ff, zdo, nthD, zdp, zdq, zdr, zds, zdt, zdu, zdv, zdw, ne_eq, not_false_eq_true, zdx, zdy, zdz, bsl0, zea, zeb, zec, zed, zee, zef, List.length_cons, List.length_nil, Nat.zero_add, Nat.le_refl, Nat.reduceLeDiff, Nat.add_zero, Option.map_some, Option.map_none, Int.ofNat_lt, Int.ofNat_le, Prod.mk.injEq, and_false, false_and, decide_true, decide_false, Bool.not_true, Bool.not_false, Nat.reduceLT, Nat.reduceEqDiff, Nat.reduceAdd, Nat.reduceSub, if_true, if_false, reduceIte, Int.cast_ofNat_Int, Nat.reduceBEq, Nat.reduceMul, Nat.reduceDiv, Nat.reduceMod, and_true, true_and, and_self, reduceCtorEq, eq_self, zeg, zeh, zei, zej, zek, zel, zem, zen, e0, e3, e5, s.vlen, hlt, s1.addr hlt, s1.load hy]
        simp [List.mem_of_getElem? hy]
      · simp only [zaa, zab, zac, zad, zae, zaf, zag, zah, zai, zaj, zak, zal, zam, zan, zao, zap, zaq, zar, zas, zat, zau, zav, zaw, zax, zay, zaz, zba, zbb, zbc, zbd, zbe, zbf, zbg, zbh, zbi, zbj, zbk, zbl, zbm, zbn, zbo, zbp, zbq, zbr, zbs, zbt, zbu, X.ev_t, X.ev_c, Fr.gs, zbv, zbw, zbx, zby, zbz, zca, zcb, zcc, zcd, zce, zcf, zcg, zch, zci, zcj, zck, zcl, zcm, zcn, zco, zcp, zcq, zcr, zcs, zct, zcu, zcv, zcw, zcx, zcy, zcz, zda, zdb, zdc, zdd, zde, zdf, zdg, zdh, zdi, zdj, zdk, zdl, zdm, zdn, one_tt, one_ff, zdo, nthD, zdp, zdq, zdr, zds, zdt, zdu, zdv, zdw, ne_eq, not_false_eq_true, zdx, zdy, zdz, bsl0, zea, zeb, zec, zed, zee, zef, List.length_cons, List.length_nil, Nat.zero_add, Nat.le_refl, Nat.reduceLeDiff, Nat.add_zero, Option.map_some, Option.map_none, Int.ofNat_lt, Int.ofNat_le, Prod.mk.injEq, and_false, false_and, decide_true, decide_false, Bool.not_true, Bool.not_false, Nat.reduceLT, Nat.reduceEqDiff, Nat.reduceAdd, Nat.reduceSub, if_true, if_false, reduceIte, Int.cast_ofNat_Int, Nat.reduceBEq, Nat.reduceMul, Nat.reduceDiv, Nat.reduceMod, and_true, true_and, and_self, reduceCtorEq, eq_self, zeg, zeh, zei, zej, zek, zel, zem, zen, e0, e3, e5, s.vlen, hlt, s1.addr hlt, s1.load hy, hxy, wrap_succ (show i < 9223372036854775807 by omega)]
        refine ⟨l.length - (i + 1), by omega, i + 1, _, rfl, by omega, rfl, fun j z hj hz => ?_, ?_, ?_, ?_⟩
        · rcases Nat.lt_or_ge j i with h | h
          · exact hno j z h hz
          · have : j = i := by omega
            subst this; rw [hy] at hz; cases hz; exact hxy
        all_goals simp only [zaa, zab, zac, zad, zae, zaf, zag, zah, zai, zaj, zak, zal, zam, zan, zao, zap, zaq, zar, zas, zat, zau, zav, zaw, zax, zay, zaz, zba, zbb, zbc, zbd, zbe, zbf, zbg, zbh, zbi, zbj, zbk, zbl, zbm, zbn, zbo, zbp, zbq, zbr, zbs, zbt, zbu, X.ev_t, X.ev_c, Fr.gs, zbv, zbw, zbx, zby, zbz, zca, zcb, zcc, zcd, zce, zcf, zcg, zch, zci, zcj, zck, zcl, zcm, zcn, zco, zcp, zcq, zcr, zcs, zct, zcu, zcv, zcw, zcx, zcy, zcz, zda, zdb, zdc, zdd, zde, zdf, zdg, zdh, zdi, zdj, zdk, zdl, zdm, zdn, one_tt, one_ff, zdo, nthD, zdp, zdq, zdr, zds, zdt, zdu, zdv, zdw, ne_eq, not_false_eq_true, zdx, zdy, zdz, bsl0, zea, zeb, zec, zed, zee, zef, List.length_cons, List.length_nil, Nat.zero_add, Nat.le_refl, Nat.reduceLeDiff, Nat.add_zero, Option.map_some, Option.map_none, Int.ofNat_lt, Int.ofNat_le, Prod.mk.injEq, and_false, false_and, decide_true, decide_false, Bool.not_true, Bool.not_false, Nat.reduceLT, Nat.reduceEqDiff, Nat.reduceAdd, Nat.reduceSub, if_true, if_false, reduceIte, Int.cast_ofNat_Int, Nat.reduceBEq, Nat.reduceMul, Nat.reduceDiv, Nat.reduceMod, and_true, true_and, and_self, reduceCtorEq, eq_self, zeg, zeh, zei, zej, zek, zel, zem, zen, e0, e3]
    · simp only [zaa, zab, zac, zad, zae, zaf, zag, zah, zai, zaj, zak, zal, zam, zan, zao, zap, zaq, zar, zas, zat, zau, zav, zaw, zax, zay, zaz, zba, zbb, zbc, zbd, zbe, zbf, zbg, zbh, zbi, zbj, zbk, zbl, zbm, zbn, zbo, zbp, zbq, zbr, zbs, zbt, zbu, X.ev_t, X.ev_c, Fr.gs, zbv, zbw, zbx, zby, zbz, zca, zcb, zcc, zcd, zce, zcf, zcg, zch, zci, zcj, zck, zcl, zcm, zcn, zco, zcp, zcq, zcr, zcs, zct, zcu, zcv, zcw, zcx, zcy, zcz, zda, zdb, zdc, zdd, zde, zdf, zdg, zdh, zdi, zdj, zdk, zdl, zdm, zdn, one_tt, one_ff, zdo, nthD, zdp, zdq, zdr, zds, zdt, zdu, zdv, zdw, ne_eq, not_false_eq_true, zdx, zdy, zdz, bsl0, zea, zeb, zec, zed, zee, zef, List.length_cons, List.length_nil, Nat.zero_add, Nat.le_refl, Nat.reduceLeDiff, Nat.add_zero, Option.map_some, Option.map_none, Int.ofNat_lt, Int.ofNat_le, Prod.mk.injEq, and_false, false_and, decide_true, decide_false, Bool.not_true, Bool.not_false, Nat.reduceLT, Nat.reduceEqDiff, Nat.reduceAdd, Nat.reduceSub, if_true, if_false, reduceIte, Int.cast_ofNat_Int, Nat.reduceBEq, Nat.reduceMul, Nat.reduceDiv, Nat.reduceMod, and_true, true_and, and_self, reduceCtorEq, eq_self, zeg, zeh, zei, zej, zek, zel, zem, zen, e0, e3, e5, s.vlen, hlt]
      have : x ∉ l := fun hm => by
        obtain ⟨j, hj, e⟩ := List.getElem_of_mem hm
        exact hno j x (by omega) (by rw [List.getElem?_eq_getElem hj, e]) rfl
      simp [this]
  all_goals simp only [zaa, zab, zac, zad, zae, zaf, zag, zah, zai, zaj, zak, zal, zam, zan, zao, zap, zaq, zar, zas, zat, zau, zav, zaw, zax, zay, zaz, zba, zbb, zbc, zbd, zbe, zbf, zbg, zbh, zbi, zbj, zbk, zbl, zbm, zbn, zbo, zbp, zbq, zbr, zbs, zbt, zbu, X.ev_t, X.ev_c, Fr.gs, zbv, zbw, zbx, zby, zbz, zca, zcb, zcc, zcd, zce, zcf, zcg, zch, zci, zcj, zck, zcl, zcm, zcn, zco, zcp, zcq, zcr, zcs, zct, zcu, zcv, zcw, zcx, zcy, zcz, zda, zdb, zdc, zdd, zde, zdf, zdg, zdh, zdi, zdj, zdk, zdl, zdm, zdn, one_tt, one_ff, zdo, nthD, zdp, zdq, zdr, zds, zdt, zdu, zdv, zdw, ne_eq, not_false_eq_true, zdx, zdy, zdz, bsl0, zea, zeb, zec, zed, zee, zef, List.length_cons, List.length_nil, Nat.zero_add, Nat.le_refl, Nat.reduceLeDiff, Nat.add_zero, Option.map_some, Option.map_none, Int.ofNat_lt, Int.ofNat_le, Prod.mk.injEq, and_false, false_and, decide_true, decide_false, Bool.not_true, Bool.not_false, Nat.reduceLT, Nat.reduceEqDiff, Nat.reduceAdd, Nat.reduceSub, if_true, if_false, reduceIte, Int.cast_ofNat_Int, Nat.reduceBEq, Nat.reduceMul, Nat.reduceDiv, Nat.reduceMod, and_true, true_and, and_self, reduceCtorEq, eq_self, zeg, zeh, zei, zej, zek, zel, zem, zen]
/-- SameClause -/
theorem f7 {v w : V} {l m : List Lt} {h : H} (s : LitsOf h v l) (r : LitsOf h w m) (hn : l.length < 4611686018427387904) (hm : m.length < 4611686018427387904) : FnTo (PrL u) 7 [v, w] h (.bool (decide (l = m))) h := by
  refine (wFn_run rfl F7_eq rfl ?_).is
  by_cases hlm : l.length = m.length
  · have hlm' : ((l.length : Nat) : Int) = (m.length : Nat) := by rw [hlm]
    simp only [F7, zaa, zab, zac, zad, zae, zaf, zag, zah, zai, zaj, zak, zal, zam, zan, zao, zap, zaq, zar, zas, zat, zau, zav, zaw, zax, zay, zaz, zba, zbb, zbc, zbd, zbe, zbf, zbg, zbh, zbi, zbj, zbk, zbl, zbm, zbn, zbo, zbp, zbq, zbr, zbs, zbt, zbu, X.ev_t, X.ev_c, Fr.gs, zbv, zbw, zbx, zby, zbz, zca, zcb, zcc, zcd, zce, zcf, zcg, zch, zci, zcj, zck, zcl, zcm, zcn, zco, zcp, zcq, zcr, zcs, zct, zcu, zcv, zcw, zcx, zcy, zcz, zda, zdb, zdc, zdd, zde, zdf, zdg, zdh, zdi, zdj, zdk, zdl, zdm, zdn, one_tt, one_ff, zdo, nthD, zdp, zdq, zdr, zds, zdt, zdu, zdv, zdw, ne_eq, not_false_eq_true, zdx, zdy, zdz, bsl0, zea, zeb, zec, zed, zee, zef, List.length_cons, List.length_nil, Nat.zero_add, Nat.le_refl, Nat.reduceLeDiff, Nat.add_zero, Option.map_some, Option.map_none, Int.ofNat_lt, Int.ofNat_le, Prod.mk.injEq, and_false, false_and, decide_true, decide_false, Bool.not_true, Bool.not_false, Nat.reduceLT, Nat.reduceEqDiff, Nat.reduceAdd, Nat.reduceSub, if_true, if_false, reduceIte, Int.cast_ofNat_Int, Nat.reduceBEq, Nat.reduceMul, Nat.reduceDiv, Nat.reduceMod, and_true, true_and, and_self, reduceCtorEq, eq_self, zeg, zeh, zei, zej, zek, zel, zem, zen, s.vlen, r.vlen, hlm']
    refine wk_loop (fun k t => ∃ (i : Nat) (fr : Fr), t = ⟨fr, [], h⟩ ∧ i ≤ l.length ∧ k = l.length - i ∧ (∀ j, j < i → l[j]? = m[j]?) ∧
      fr.get (sOf 0) = v ∧ fr.get (sOf 1) = w ∧ fr.get (sOf 5) = .int .i64 (i : Nat)) ?_ ⟨0, _, rfl, Nat.zero_le _, rfl, fun j h => absurd h (Nat.not_lt_zero _), ?_, ?_, ?_⟩
    · rintro k t ⟨i, fr, rfl, hi, rfl, hno, e0, e1, e5⟩
      by_cases hlt : i < l.length
      · obtain ⟨x, hx⟩ : ∃ y, l[i]? = some y := ⟨l[i], List.getElem?_eq_getElem hlt⟩
        obtain ⟨y, hy⟩ : ∃ y, m[i]? = some y := ⟨m[i], List.getElem?_eq_getElem (by omega)⟩
        by_cases hxy : x = y
        · subst hxy
          simp only [zaa, zab, zac, zad, zae, zaf, zag, zah, zai, zaj, zak, zal, zam, zan, zao, zap, zaq, zar, zas, zat, zau, zav, zaw, zax, zay, zaz, zba, zbb, zbc, zbd, zbe, zbf, zbg, zbh, zbi, zbj, zbk, zbl, zbm, zbn, zbo, zbp, zbq, zbr, zbs, zbt, zbu, X.ev_t, X.ev_c, Fr.gs, zbv, zbw, zbx, zby, zbz, zca, zcb, zcc, zcd, zce, zcf, zcg, zch, zci, zcj, zck, zcl, zcm, zcn, zco, zcp, zcq, zcr, zcs, zct, zcu, zcv, zcw, zcx, zcy, zcz, zda, zdb, zdc, zdd, zde, zdf, zdg, zdh, zdi, zdj, zdk, zdl, zdm, zdn, one_tt, one_ff, zdo, nthD, zdp, zdq, zdr, zds, zdt, zdu, zdv, zdw, ne_eq, not_false_eq_true, zdx, zdy, zdz, bsl0, zea, zeb, zec, zed, zee, zef, List.length_cons, List.length_nil, Nat.zero_add, Nat.le_refl, Nat.reduceLeDiff, Nat.add_zero, Option.map_some, Option.map_none, Int.ofNat_lt, Int.ofNat_le, Prod.mk.injEq, and_false, false_and, decide_true, decide_false, Bool.not_true, Bool.not_false, Nat.reduceLT, Nat.reduceEqDiff, Nat.reduceAdd, Nat.reduceSub, if_true, if_false, reduceIte, Int.cast_ofNat_Int, Nat.reduceBEq, Nat.reduceMul, Nat.reduceDiv, Nat.reduceMod, and_true, true_and, and_self, reduceCtorEq, eq_self, zeg, zeh, zei, zej, zek, zel, zem, zen, e0, e1, e5, s.vlen, hlt, s.addr hlt, s.load hx, r.addr (show i < m.length by omega), r.load hy, wrap_succ (show i < 9223372036854775807 by omega)]
          refine ⟨l.length - (i + 1), by omega, i + 1, _, rfl, by omega, rfl, fun j hj => ?_, ?_, ?_, ?_⟩
          · rcases Nat.lt_or_ge j i with h | h
            · exact hno j h
            · have : j = i := by omega
              subst this; rw [hx, hy]
          all_goals simp only [zaa, zab, zac, zad, zae, zaf, zag, zah, zai, zaj, zak, zal, zam, zan, zao, zap, zaq, zar, zas, zat, zau, zav, zaw, zax, zay, zaz, zba, zbb, zbc, zbd, zbe, zbf, zbg, zbh, zbi, zbj, zbk, zbl, zbm, zbn, zbo, zbp, zbq, zbr, zbs, zbt, zbu, X.ev_t, X.ev_c, Fr.gs, zbv, zbw, zbx, zby, zbz, zca, zcb, zcc, zcd, zce, zcf, zcg, zch, zci, zcj, zck, zcl, zcm, zcn, zco, zcp, zcq, zcr, zcs, zct, zcu, zcv, zcw, zcx, zcy, zcz, zda, zdb, zdc, zdd, zde, zdf, zdg, zdh, zdi, zdj, zdk, zdl, zdm, zdn, one_tt, one_ff, zdo, nthD, zdp, zdq, zdr, zds, zdt, zdu, zdv, zdw, ne_eq, not_false_eq_true, zdx, zdy, zdz, bsl0, zea, zeb, zec, zed, zee, zef, List.length_cons, List.length_nil, Nat.zero_add, Nat.le_refl, Nat.reduceLeDiff, Nat.add_zero, Option.map_some, Option.map_none, Int.ofNat_lt, Int.ofNat_le, Prod.mk.injEq, and_false, false_and, decide_true, decide_false, Bool.not_true, Bool.not_false, Nat.reduceLT, Nat.reduceEqDiff, Nat.reduceAdd, Nat.reduceSub, if_true, if_false, reduceIte, Int.cast_ofNat_Int, Nat.reduceBEq, Nat.reduceMul, Nat.reduceDiv, Nat.reduceMod, and_true, true_and, and_self, reduceCtorEq, eq_self, zeg, zeh, zei, zej, zek, zel, zem, zen, e0, e1]
        · simp only [zaa, zab, zac, zad, zae, zaf, zag, zah, zai, zaj, zak, zal, zam, zan, zao, zap, zaq, zar, zas, zat, zau, zav, zaw, zax, zay, zaz, zba, zbb, zbc, zbd, zbe, zbf, zbg, zbh, zbi, zbj, zbk, zbl, zbm, zbn, zbo, zbp, zbq, zbr, zbs, zbt, zbu, X.ev_t, X.ev_c, Fr.gs, zbv, zbw, zbx, zby, zbz, zca, zcb, zcc, zcd, zce, zcf, zcg, zch, zci, zcj, zck, zcl, zcm, zcn, zco, zcp, zcq, zcr, zcs, zct, zcu, zcv, zcw, zcx, zcy, zcz, zda, zdb, zdc, zdd, zde, zdf, zdg, zdh, zdi, zdj, zdk, zdl, zdm, zdn, one_tt, one_ff, zdo, nthD, zdp, zdq, zdr, zds, zdt, zdu, zdv, zdw, ne_eq, not_false_eq_true, zdx, zdy, zdz, bsl0, zea, zeb, zec, zed, zee, zef, List.length_cons, List.length_nil, Nat.zero_add, Nat.le_refl, Nat.reduceLeDiff, Nat.add_zero, Option.map_some, Option.map_none, Int.ofNat_lt, Int.ofNat_le, Prod.mk.injEq, and_false, false_and, decide_true, decide_false, Bool.not_true, Bool.not_false, Nat.reduceLT, Nat.reduceEqDiff, Nat.reduceAdd, Nat.reduceSub, if_true, if_false, reduceIte, Int.cast_ofNat_Int, Nat.reduceBEq, Nat.reduceMul, Nat.reduceDiv, Nat.reduceMod, and_true, true_and, and_self, reduceCtorEq, eq_self, zeg, zeh, zei, zej, zek, zel, zem, zen, e0, e1, e5, s.vlen, hlt, s.addr hlt, s.load hx, r.addr (show i < m.length by omega), r.load hy, hxy]
          have : l ≠ m := fun e => by subst e; rw [hx] at hy; cases hy; exact hxy rfl
          simp [this]
      · simp only [zaa, zab, zac, zad, zae, zaf, zag, zah, zai, zaj, zak, zal, zam, zan, zao, zap, zaq, zar, zas, zat, zau, zav, zaw, zax, zay, zaz, zba, zbb, zbc, zbd, zbe, zbf, zbg, zbh, zbi, zbj, zbk, zbl, zbm, zbn, zbo, zbp, zbq, zbr, zbs, zbt, zbu, X.ev_t, X.ev_c, Fr.gs, zbv, zbw, zbx, zby, zbz, zca, zcb, zcc, zcd, zce, zcf, zcg, zch, zci, zcj, zck, zcl, zcm, zcn, zco, zcp, zcq, zcr, zcs, zct, zcu, zcv, zcw, zcx, zcy, zcz, zda, zdb, zdc, zdd, zde, zdf, zdg, zdh, zdi, zdj, zdk, zdl, zdm, zdn, one_tt, one_ff, zdo, nthD, zdp, zdq, zdr, zds, zdt, zdu, zdv, zdw, ne_eq, not_false_eq_true, zdx, zdy, zdz, bsl0, zea, zeb, zec, zed, zee, zef, List.length_cons, List.length_nil, Nat.zero_add, Nat.le_refl, Nat.reduceLeDiff, Nat.add_zero, Option.map_some, Option.map_none, Int.ofNat_lt, Int.ofNat_le, Prod.mk.injEq, and_false, false_and, decide_true, decide_false, Bool.not_true, Bool.not_false, Nat.reduceLT, Nat.reduceEqDiff, Nat.reduceAdd, Nat.reduceSub, if_true, if_false, reduceIte, Int.cast_ofNat_Int, Nat.reduceBEq, Nat.reduceMul, Nat.reduceDiv, Nat.reduceMod, and_true, true_and, and_self, reduceCtorEq, eq_self, zeg, zeh, zei, zej, zek, zel, zem, zen, e0, e1, e5, s.vlen, hlt]
        have : l = m := by
          apply List.ext_getElem?
          intro j
          rcases Nat.lt_or_ge j i with h | h
          · exact hno j h
          · rw [List.getElem?_eq_none (by omega), List.getElem?_eq_none (by omega)]
        simp [this]
    all_goals simp only [zaa, zab, zac, zad, zae, zaf, zag, zah, zai, zaj, zak, zal, zam, zan, zao, zap, zaq, zar, zas, zat, zau, zav, zaw, zax, zay, zaz, zba, zbb, zbc, zbd, zbe, zbf, zbg, zbh, zbi, zbj, zbk, zbl, zbm, zbn, zbo, zbp, zbq, zbr, zbs, zbt, zbu, X.ev_t, X.ev_c, Fr.gs, zbv, zbw, zbx, zby, zbz, zca, zcb, zcc, zcd, zce, zcf, zcg, zch, zci, zcj, zck, zcl, zcm, zcn, zco, zcp, zcq, zcr, zcs, zct, zcu, zcv, zcw, zcx, zcy, zcz, zda, zdb, zdc, zdd, zde, zdf, zdg, zdh, zdi, zdj, zdk, zdl, zdm, zdn, one_tt, one_ff, zdo, nthD, zdp, zdq, zdr, zds, zdt, zdu, zdv, zdw, ne_eq, not_false_eq_true, zdx, zdy, zdz, bsl0, zea, zeb, zec, zed, zee, zef, List.length_cons, List.length_nil, Nat.zero_add, Nat.le_refl, Nat.reduceLeDiff, Nat.add_zero, Option.map_some, Option.map_none, Int.ofNat_lt, Int.ofNat_le, Prod.mk.injEq, and_false, false_and, decide_true, decide_false, Bool.not_true, Bool.not_false, Nat.reduceLT, Nat.reduceEqDiff, Nat.reduceAdd, Nat.reduceSub, if_true, if_false, reduceIte, Int.cast_ofNat_Int, Nat.reduceBEq, Nat.reduceMul, Nat.reduceDiv, Nat.reduceMod, and_true, true_and, and_self, reduceCtorEq, eq_self, zeg, zeh, zei, zej, zek, zel, zem, zen]
  · have hlm' : ¬ (((l.length : Nat) : Int) = (m.length : Nat)) := by omega
    simp only [F7, zaa, zab, zac, zad, zae, zaf, zag, zah, zai, zaj, zak, zal, zam, zan, zao, zap, zaq, zar, zas, zat, zau, zav, zaw, zax, zay, zaz, zba, zbb, zbc, zbd, zbe, zbf, zbg, zbh, zbi, zbj, zbk, zbl, zbm, zbn, zbo, zbp, zbq, zbr, zbs, zbt, zbu, X.ev_t, X.ev_c, Fr.gs, zbv, zbw, zbx, zby, zbz, zca, zcb, zcc, zcd, zce, zcf, zcg, zch, zci, zcj, zck, zcl, zcm, zcn, zco, zcp, zcq, zcr, zcs, zct, zcu, zcv, zcw, zcx, zcy, zcz, zda, zdb, zdc, zdd, zde, zdf, zdg, zdh, zdi, zdj, zdk, zdl, zdm, zdn, one_tt, one_ff, zdo, nthD, zdp, zdq, zdr, zds, zdt, zdu, zdv, zdw, ne_eq, not_false_eq_true, zdx, zdy, zdz, bsl0, zea, zeb, zec, zed, zee, zef, List.length_cons, List.length_nil, Nat.zero_add, Nat.le_refl, Nat.reduceLeDiff, Nat.add_zero, Option.map_some, Option.map_none, Int.ofNat_lt, Int.ofNat_le, Prod.mk.injEq, and_false, false_and, decide_true, decide_false, Bool.not_true, Bool.not_false, Nat.reduceLT, Nat.reduceEqDiff, Nat.reduceAdd, Nat.reduceSub, if_true, if_false, reduceIte, Int.cast_ofNat_Int, Nat.reduceBEq, Nat.reduceMul, Nat.reduceDiv, Nat.reduceMod, and_true, true_and, and_self, reduceCtorEq, eq_self, zeg, zeh, zei, zej, zek, zel, zem, zen, s.vlen, r.vlen, hlm']
    have : l ≠ m := fun e => hlm (by rw [e])
    simp [this]
theorem f81 (x z : Lt) {h : H} {b : P} {ver dead : Nat} (hk : h.ok) (hb : h.get b = some (.cells [.int .i64 z.1, .bool z.2] ver dead .rw 54)) (hd : dead = 0) : FnTo (PrL u) 81 [lv x, .ptr b 0 0 2] h (.bool (decide (x = z))) (h.new (bx x)) := by
  have hne : ¬ (b = h.next) := fun e => by rw [e, hk.fresh] at hb; cases hb
  have hl := ld_at (k := 0) (off := 0) (room := 2) hb (by omega) (Nat.zero_le _) true (n := 2) (Nat.le_refl _)
  obtain ⟨xa, xb⟩ := x
  obtain ⟨za, zb⟩ := z
  refine (wFn_run rfl F81_eq rfl ?_).is
  simp only [F81, zaa, zab, zac, zad, zae, zaf, zag, zah, zai, zaj, zak, zal, zam, zan, zao, zap, zaq, zar, zas, zat, zau, zav, zaw, zax, zay, zaz, zba, zbb, zbc, zbd, zbe, zbf, zbg, zbh, zbi, zbj, zbk, zbl, zbm, zbn, zbo, zbp, zbq, zbr, zbs, zbt, zbu, X.ev_t, X.ev_c, Fr.gs, zbv, zbw, zbx, zby, zbz, zca, zcb, zcc, zcd, zce, zcf, zcg, zch, zci, zcj, zck, zcl, zcm, zcn, zco, zcp, zcq, zcr, zcs, zct, zcu, zcv, zcw, zcx, zcy, zcz, zda, zdb, zdc, zdd, zde, zdf, zdg, zdh, zdi, zdj, zdk, zdl, zdm, zdn, one_tt, one_ff, zdo, nthD, zdp, zdq, zdr, zds, zdt, zdu, zdv, zdw, ne_eq, not_false_eq_true, zdx, zdy, zdz, bsl0, zea, zeb, zec, zed, zee, zef, List.length_cons, List.length_nil, Nat.zero_add, Nat.le_refl, Nat.reduceLeDiff, Nat.add_zero, Option.map_some, Option.map_none, Int.ofNat_lt, Int.ofNat_le, Prod.mk.injEq, and_false, false_and, decide_true, decide_false, Bool.not_true, Bool.not_false, Nat.reduceLT, Nat.reduceEqDiff, Nat.reduceAdd, Nat.reduceSub, if_true, if_false, reduceIte, Int.cast_ofNat_Int, Nat.reduceBEq, Nat.reduceMul, Nat.reduceDiv, Nat.reduceMod, and_true, true_and, and_self, reduceCtorEq, eq_self, zeg, zeh, zei, zej, zek, zel, zem, zen, hne, hl]
theorem f83 (x z : Lt) {h : H} {b : P} {ver dead : Nat} (hk : h.ok) (hb : h.get b = some (.cells [.int .i64 z.1, .bool z.2] ver dead .rw 54)) (hd : dead = 0) : FnTo (PrL u) 83 [lv x, .ptr b 0 0 2] h (.bool (decide (x = z))) (h.new (bx x)) := by
  have hne : ¬ (b = h.next) := fun e => by rw [e, hk.fresh] at hb; cases hb
  have hl := ld_at (k := 0) (off := 0) (room := 2) hb (by omega) (Nat.zero_le _) true (n := 2) (Nat.le_refl _)
  obtain ⟨xa, xb⟩ := x
  obtain ⟨za, zb⟩ := z
  refine (wFn_run rfl F83_eq rfl ?_).is
  simp only [F83, zaa, zab, zac, zad, zae, zaf, zag, zah, zai, zaj, zak, zal, zam, zan, zao, zap, zaq, zar, zas, zat, zau, zav, zaw, zax, zay, zaz, zba, zbb, zbc, zbd, zbe, zbf, zbg, zbh, zbi, zbj, zbk, zbl, zbm, zbn, zbo, zbp, zbq, zbr, zbs, zbt, zbu, X.ev_t, X.ev_c, Fr.gs, zbv, zbw, zbx, zby, zbz, zca, zcb, zcc, zcd, zce, zcf, zcg, zch, zci, zcj, zck, zcl, zcm, zcn, zco, zcp, zcq, zcr, zcs, zct, zcu, zcv, zcw, zcx, zcy, zcz, zda, zdb, zdc, zdd, zde, zdf, zdg, zdh, zdi, zdj, zdk, zdl, zdm, zdn, one_tt, one_ff, zdo, nthD, zdp, zdq, zdr, zds, zdt, zdu, zdv, zdw, ne_eq, not_false_eq_true, zdx, zdy, zdz, bsl0, zea, zeb, zec, zed, zee, zef, List.length_cons, List.length_nil, Nat.zero_add, Nat.le_refl, Nat.reduceLeDiff, Nat.add_zero, Option.map_some, Option.map_none, Int.ofNat_lt, Int.ofNat_le, Prod.mk.injEq, and_false, false_and, decide_true, decide_false, Bool.not_true, Bool.not_false, Nat.reduceLT, Nat.reduceEqDiff, Nat.reduceAdd, Nat.reduceSub, if_true, if_false, reduceIte, Int.cast_ofNat_Int, Nat.reduceBEq, Nat.reduceMul, Nat.reduceDiv, Nat.reduceMod, and_true, true_and, and_self, reduceCtorEq, eq_self, zeg, zeh, zei, zej, zek, zel, zem, zen, hne, hl]
end Go.Im
open Go
set_option maxRecDepth 20000
namespace Go.Im
/-! slices of literals that the code owns -/
theorem lput_eq : ∀ {xs : List V} {off : Nat} {vs : List V}, off + vs.length ≤ xs.length → lput xs off vs = some (xs.take off ++ vs ++ xs.drop (off + vs.length))
  | xs, off, [], h => by simp [lput]
  | [], off, _ :: _, h => by simp at h
  | x :: xs, 0, v :: vs, h => by
    have := lput_eq (xs := xs) (off := 0) (vs := vs) (by simpa using h)
    simp only [lput, this]
    simp [Nat.add_comm]
  | x :: xs, n + 1, v :: vs, h => by
    have := lput_eq (xs := xs) (off := n) (vs := v :: vs) (by simp at h ⊢; omega)
    simp only [lput, this]
    have e : n + 1 + (vs.length + 1) = n + (vs.length + 1) + 1 := by omega
    simp [e]
theorem flat_cells : ∀ (l : List Lt), (l.map litC).flatten = cellsL l
  | [] => rfl
  | x :: l => by simp [litC, cellsL, flat_cells l]
theorem cellsL_append : ∀ (l m : List Lt), cellsL (l ++ m) = cellsL l ++ cellsL m
  | [], m => rfl
  | x :: l, m => by simp [cellsL, cellsL_append l m]
theorem cellsL_take : ∀ (l : List Lt) (i : Nat), (cellsL l).take (i * 2) = cellsL (l.take i)
  | [], i => by simp [cellsL]
  | x :: l, 0 => by simp [cellsL]
  | x :: l, i + 1 => by
    have e : (i + 1) * 2 = i * 2 + 1 + 1 := by omega
    rw [e]
    simp [cellsL, cellsL_take l i]
theorem cellsL_drop : ∀ (l : List Lt) (i : Nat), (cellsL l).drop (i * 2) = cellsL (l.drop i)
  | [], i => by simp [cellsL]
  | x :: l, 0 => by simp [cellsL]
  | x :: l, i + 1 => by
    have e : (i + 1) * 2 = i * 2 + 1 + 1 := by omega
    rw [e]
    simp [cellsL, cellsL_drop l i]
/-- the cells of a row are those of a list, behind what was laid over a part of them -/
theorem over_mid {xs : List V} {off : Nat} {l m : List Lt} {i : Nat} (h1 : off + l.length * 2 ≤ xs.length) (h2 : (xs.drop off).take (l.length * 2) = cellsL l) (hi : i + m.length ≤ l.length) :
    ((xs.take (off + i * 2) ++ cellsL m ++ xs.drop (off + i * 2 + (cellsL m).length)).drop off).take (l.length * 2) = cellsL (l.take i ++ m ++ l.drop (i + m.length)) := by
  have hm := cellsL_length m
  have e0 : xs.take (off + i * 2) = xs.take off ++ (xs.drop off).take (i * 2) := by rw [List.take_add]
  have e1 : (xs.drop off).take (i * 2) = cellsL (l.take i) := by
    rw [← cellsL_take, ← h2, List.take_take, Nat.min_eq_left (by omega)]
  have e2 : (xs.drop (off + i * 2 + (cellsL m).length)).take (l.length * 2 - (i * 2 + m.length * 2)) = cellsL (l.drop (i + m.length)) := by
    have : (i + m.length) * 2 = i * 2 + m.length * 2 := by omega
    rw [← cellsL_drop, ← h2, this, List.drop_take, List.drop_drop, hm]
    congr 2
    omega
  rw [e0, e1, List.append_assoc, List.append_assoc, List.drop_append, List.drop_eq_nil_of_le (by simp; omega), List.nil_append]
  have hl0 : (xs.take off).length = off := by simp; omega
  rw [hl0, Nat.sub_self, List.drop_zero, ← List.append_assoc, List.take_append, List.take_of_length_le (by rw [List.length_append, cellsL_length, cellsL_length]; simp; omega)]
  have e3 : l.length * 2 - (cellsL (l.take i) ++ cellsL m).length = l.length * 2 - (i * 2 + m.length * 2) := by
    rw [List.length_append, cellsL_length, cellsL_length]
    simp only [List.length_take]
    rw [Nat.min_eq_left (by omega)]
  rw [e3, e2, cellsL_append, cellsL_append]

def OwnS (h : H) (f : P) (ver off : Nat) (cap : Option Nat) (l : List Lt) : Prop := ∃ xs dead, h.get f = some (.cells xs ver dead .rw 54) ∧ dead ≤ ver ∧ off % 2 = 0 ∧ off + l.length * 2 ≤ xs.length ∧ (xs.drop off).take (l.length * 2) = cellsL l ∧
  ∀ c, cap = some c → l.length ≤ c ∧ off + c * 2 ≤ xs.length
def OwnL (b : Nat) (h : H) (v : V) (l : List Lt) : Prop := (v = .snil ∧ l = []) ∨ ∃ f ver off cap, v = .sl f ver off l.length 2 cap ∧ b ≤ pNat f ∧ OwnS h f ver off cap l
structure Upto (f : P) (h h' : H) : Prop where
  ok : h'.ok
  next : pNat h.next ≤ pNat h'.next
  get : ∀ g, pNat g < pNat h.next → g ≠ f → h'.get g = h.get g
theorem Upto.refl {f : P} {h : H} (hk : h.ok) : Upto f h h := ⟨hk, Nat.le_refl _, fun _ _ _ => rfl⟩
theorem Upto.trans {f : P} {a b c : H} (g : Upto f a b) (k : Upto f b c) : Upto f a c := ⟨k.ok, Nat.le_trans g.next k.next, fun x hx hf => (k.get x (Nat.lt_of_lt_of_le hx g.next) hf).trans (g.get x hx hf)⟩
theorem Grew.upto {f : P} {a b : H} (g : Grew a b) : Upto f a b := ⟨g.ok, g.next, fun x hx _ => g.get x hx⟩
theorem Upto.grew {f : P} {a b c : H} (g : Grew a b) (k : Upto f b c) (hf : pNat a.next ≤ pNat f) : Grew a c := ⟨k.ok, Nat.le_trans g.next k.next, fun x hx => (k.get x (Nat.lt_of_lt_of_le hx g.next) (by rintro rfl; omega)).trans (g.get x hx)⟩

theorem OwnS.cells {h : H} {f : P} {ver off : Nat} {cap : Option Nat} {l : List Lt} (o : OwnS h f ver off cap l) : CellsAt h f ver off (l.map litC).flatten := by
  obtain ⟨xs, dead, h1, h2, h3, h4, h5, _⟩ := o
  rw [flat_cells]
  exact ⟨xs, live_at h1 h2 (Nat.le_refl _), by rw [cellsL_length]; exact h4, by rw [cellsL_length]; exact h5⟩
theorem OwnS.lits {h : H} {f : P} {ver off : Nat} {cap : Option Nat} {l : List Lt} (o : OwnS h f ver off cap l) (c : Option Nat) : LitsOf h (.sl f ver off l.length 2 c) l :=
  ⟨fun e he => by obtain ⟨x, _, rfl⟩ := List.mem_map.1 he; rfl, .inr ⟨f, ver, off, c, by simp, o.cells⟩⟩
theorem OwnL.lits {b : Nat} {h : H} {v : V} {l : List Lt} (o : OwnL b h v l) : LitsOf h v l := by
  rcases o with ⟨rfl, rfl⟩ | ⟨f, ver, off, cap, rfl, _, o⟩
  · exact ⟨by simp, .inl ⟨rfl, rfl⟩⟩
  · exact o.lits _
theorem OwnS.lt {h : H} {f : P} {ver off : Nat} {cap : Option Nat} {l : List Lt} (o : OwnS h f ver off cap l) (hk : h.ok) : pNat f < pNat h.next := let ⟨_, _, h1, _⟩ := o; hk.lt h1
theorem OwnS.keep {h h' : H} {f : P} {ver off : Nat} {cap : Option Nat} {l : List Lt} (o : OwnS h f ver off cap l) (e : h'.get f = h.get f) : OwnS h' f ver off cap l := let ⟨xs, dead, h1, q⟩ := o; ⟨xs, dead, by rw [e]; exact h1, q⟩
theorem OwnS.grew {h h' : H} {f : P} {ver off : Nat} {cap : Option Nat} {l : List Lt} (o : OwnS h f ver off cap l) (hk : h.ok) (g : Grew h h') : OwnS h' f ver off cap l := o.keep (g.get f (o.lt hk))
theorem OwnL.grew {b : Nat} {h h' : H} {v : V} {l : List Lt} (o : OwnL b h v l) (hk : h.ok) (g : Grew h h') : OwnL b h' v l := by
  rcases o with a | ⟨f, ver, off, cap, e, hb, o⟩
  · exact .inl a
  · exact .inr ⟨f, ver, off, cap, e, hb, o.grew hk g⟩
theorem OwnL.mono {b b' : Nat} {h : H} {v : V} {l : List Lt} (o : OwnL b h v l) (hb : b' ≤ b) : OwnL b' h v l := by
  rcases o with a | ⟨f, ver, off, cap, e, hb', o⟩
  · exact .inl a
  · exact .inr ⟨f, ver, off, cap, e, Nat.le_trans hb hb', o⟩
theorem own_new {h : H} {l : List Lt} (hk : h.ok) (c : Option Nat) (hc : ∀ n, c = some n → n = l.length) : OwnS (h.new (.cells (cellsL l) 0 0 .rw 54)) h.next 0 0 c l :=
  ⟨cellsL l, 0, H.get_new_same _ _, Nat.le_refl _, rfl, by rw [cellsL_length]; omega, by rw [List.drop_zero, ← cellsL_length, List.take_length], fun n e => by have := hc n e; subst this; rw [cellsL_length]; omega⟩
theorem ownL_new {h : H} {l : List Lt} (hk : h.ok) (c : Option Nat) (hc : ∀ n, c = some n → n = l.length) : OwnL (pNat h.next) (h.new (.cells (cellsL l) 0 0 .rw 54)) (.sl h.next 0 0 l.length 2 c) l :=
  .inr ⟨h.next, 0, 0, c, rfl, Nat.le_refl _, own_new hk c hc⟩

def rootIs (v : V) (g : P) : Prop := ∃ k off n es c, v = .sl g k off n es c
/-- append -/
theorem app_own {bd : Nat} {h : H} {a b : V} {l m : List Lt} (ha : OwnL bd h a l) (hb : LitsOf h b m) (hk : h.ok) (hbd : bd ≤ pNat h.next) (hsz : l.length + m.length ≤ 1073741824) :
    ∃ v h', appV h 54 2 16 a b = some (v, h') ∧ OwnL bd h' v (l ++ m) ∧ h'.ok ∧ pNat h.next ≤ pNat h'.next ∧ ∀ g, pNat g < pNat h.next → ¬ rootIs a g → h'.get g = h.get g := by
  have hsrc : srcLen b = some m.length ∧ srcCells h 2 m.length b = some (cellsL m) := by
    obtain ⟨hl, ⟨rfl, e⟩ | ⟨f, k, off, cap, rfl, c⟩⟩ := hb
    · have : m = [] := by simpa using e
      subst this
      exact ⟨rfl, rfl⟩
    · rw [List.length_map]
      refine ⟨rfl, ?_⟩
      have := c.all (n := m.length * 2) (by rw [flat_cells, cellsL_length])
      rw [flat_cells] at this
      simp only [srcCells, beq_dec, ble_dec, Nat.le_refl, decide_true, Bool.and_self, this]
  have happ : appV h 54 2 16 a b = append h 54 2 16 m.length (cellsL m) a := by
    unfold appV
    rw [hsrc.1]
    simp only
    rw [hsrc.2]
  rw [happ]
  rcases Nat.eq_zero_or_pos m.length with hm0 | hm0
  · have : m = [] := List.eq_nil_of_length_eq_zero hm0
    subst this
    rcases id ha with ⟨rfl, rfl⟩ | ⟨f, ver, off, cap, rfl, hbf, o⟩
    · exact ⟨.snil, h, rfl, .inl ⟨rfl, rfl⟩, hk, Nat.le_refl _, fun _ _ _ => rfl⟩
    · refine ⟨_, h, ?_, by rw [List.append_nil]; exact ha, hk, Nat.le_refl _, fun _ _ _ => rfl⟩
      unfold append
      simp only [beq_dec, ble_dec, List.length_nil, Nat.add_zero, decide_true, Bool.true_and]
      have e1 : decide (l.length ≤ 1099511627776) = true := by simp; simp at hsz; omega
      have e2 : decide (l.length * 16 ≤ 1099511627776) = true := by simp; simp at hsz; omega
      rw [e1, e2]; rfl
  · have hne : decide (m.length = 0) = false := by simp; intro e; simp [e] at hm0
    have hnew : ∀ (h1 : H) (l' : List Lt), h1.ok → bd ≤ pNat h1.next → OwnL bd (h1.new (.cells (cellsL l') 0 0 .rw 54)) (.sl h1.next 0 0 l'.length 2 none) l' := fun h1 l' k1 k2 => (ownL_new k1 none (fun _ e => by cases e)).mono k2
    rcases id ha with ⟨rfl, rfl⟩ | ⟨f, ver, off, cap, rfl, hbf, o⟩
    · refine ⟨.sl h.next 0 0 m.length 2 none, h.new (.cells (cellsL m) 0 0 .rw 54), ?_, hnew h m hk hbd, hk.new _, by rw [zdu, pSucc_nat]; omega, fun g hg _ => H.get_new_ne _ _ (by rintro rfl; omega)⟩
      unfold append
      simp only [beq_dec, ble_dec, hne]
      have e1 : decide (m.length ≤ 1099511627776) = true := by simp; simp at hsz; omega
      have e2 : decide (m.length * 16 ≤ 1099511627776) = true := by simp; simp at hsz; omega
      rw [e1, e2]; rfl
    · have hlt := o.lt hk
      obtain ⟨xs, dead, q1, q2, q3, q4, q5, q6⟩ := o
      have e1 : decide (l.length + m.length ≤ 1099511627776) = true := by simp; omega
      have e2 : decide ((l.length + m.length) * 16 ≤ 1099511627776) = true := by simp; omega
      have hran : range xs off (l.length * 2) = some (cellsL l) := by rw [range_eq q4, q5]
      have hap : append h 54 2 16 m.length (cellsL m) (.sl f ver off l.length 2 cap) = match cap with
          | some c => appK h 54 2 m.length (cellsL m) f ver off l.length c
          | none => appU h 54 2 m.length (cellsL m) f ver off l.length := by
        unfold append
        simp only [beq_dec, ble_dec, hne, e1, e2, decide_true, Bool.and_self]
        cases cap <;> rfl
      rw [hap]
      have lenA : (cellsL (l ++ m)) = cellsL l ++ cellsL m := cellsL_append l m
      cases cap with
      | some c =>
        obtain ⟨c1, c2⟩ := q6 c rfl
        simp only
        by_cases hfit : l.length + m.length ≤ c
        · have hlp := lput_eq (xs := xs) (off := off + l.length * 2) (vs := cellsL m) (by rw [cellsL_length]; omega)
          refine ⟨.sl f ver off (l.length + m.length) 2 (some c), h.set f (.cells (xs.take (off + l.length * 2) ++ cellsL m ++ xs.drop (off + l.length * 2 + (cellsL m).length)) ver ver .rw 54), ?_, .inr ⟨f, ver, off, some c, by rw [List.length_append], hbf, _, ver, H.get_set_same _ _ _, Nat.le_refl _, q3, ?_, ?_, fun c' e => ?_⟩, hk.set hlt _, Nat.le_refl _, fun g hg hr => H.get_set_ne _ _ ?_⟩
          · unfold appK
            simp only [ble_dec, hfit, decide_true, wcells, q1, beq_dec, Md.isRw, q2, Bool.and_self, hlp]
          · rw [List.length_append]
            simp only [List.length_append, List.length_take, List.length_drop, cellsL_length]
            omega
          · have e0 : xs.take (off + l.length * 2) = xs.take off ++ cellsL l := by rw [List.take_add, q5]
            rw [e0, List.length_append, List.append_assoc, List.append_assoc, List.drop_append, List.drop_eq_nil_of_le (by simp; omega), List.nil_append]
            have hl0 : (xs.take off).length = off := by simp; omega
            rw [hl0, Nat.sub_self, List.drop_zero, ← List.append_assoc, ← lenA, List.take_append, List.take_of_length_le (by rw [cellsL_length]; simp)]
            have : (l.length + m.length) * 2 - (cellsL (l ++ m)).length = 0 := by rw [cellsL_length]; simp
            rw [this]; simp
          · cases e
            rw [List.length_append]
            simp only [List.length_append, List.length_take, List.length_drop, cellsL_length]
            omega
          · rintro rfl; exact hr ⟨_, _, _, _, _, rfl⟩
        · refine ⟨.sl h.next 0 0 (l ++ m).length 2 none, h.new (.cells (cellsL (l ++ m)) 0 0 .rw 54), ?_, hnew h (l ++ m) hk hbd, hk.new _, by rw [zdu, pSucc_nat]; omega, fun g hg _ => H.get_new_ne _ _ (by rintro rfl; omega)⟩
          have hl := live_at q1 q2 (Nat.le_refl _)
          unfold appK
          simp only [ble_dec, hfit, decide_false, hl, rangeO, hran]
          rw [← lenA, List.length_append]
      | none =>
        simp only
        by_cases hend : off + l.length * 2 = xs.length ∧ off = 0
        · obtain ⟨he1, he2⟩ := hend
          subst he2
          have hxs : xs = cellsL l := by rw [← q5, List.drop_zero, List.take_of_length_le (by omega)]
          refine ⟨.sl f (ver + 1) 0 (l.length + m.length) 2 none, h.set f (.cells (xs ++ cellsL m) (ver + 1) dead .rw 54), ?_, .inr ⟨f, ver + 1, 0, none, by rw [List.length_append], hbf, _, dead, H.get_set_same _ _ _, by omega, rfl, ?_, ?_, fun c e => by cases e⟩, hk.set hlt _, Nat.le_refl _, fun g hg hr => H.get_set_ne _ _ ?_⟩
          · unfold appU
            rw [q1]
            simp only [beq_dec, Md.isRw, ble_dec, q2, he1, decide_true, Bool.and_self]
          · rw [hxs, ← lenA, cellsL_length]; omega
          · rw [hxs, ← lenA, List.drop_zero, ← cellsL_length, List.take_length]
          · rintro rfl; exact hr ⟨_, _, _, _, _, rfl⟩
        · have k1 : (h.set f (.cells xs ver (ver + 1) .rw 54)).ok := hk.set hlt _
          refine ⟨.sl h.next 0 0 (l ++ m).length 2 none, (h.set f (.cells xs ver (ver + 1) .rw 54)).new (.cells (cellsL (l ++ m)) 0 0 .rw 54), ?_, hnew (h.set f (.cells xs ver (ver + 1) .rw 54)) (l ++ m) k1 hbd, k1.new _, by rw [zdu, next_set, pSucc_nat]; omega, fun g hg hr => ?_⟩
          · unfold appU
            rw [q1]
            have hend' : (decide (off + l.length * 2 = xs.length) && decide (off = 0)) = false := by
              rw [Bool.and_eq_false_iff]
              by_cases h1 : off + l.length * 2 = xs.length
              · right; simp; intro h2; exact hend ⟨h1, h2⟩
              · left; simp [h1]
            simp only [beq_dec, Md.isRw, ble_dec, q2, decide_true, Bool.and_self, hend', rangeM, q3, hran]
            rw [← lenA, List.length_append]
          · rw [H.get_new_ne _ _ (by rintro rfl; rw [next_set] at hg; omega), H.get_set_ne _ _ (by rintro rfl; exact hr ⟨_, _, _, _, _, rfl⟩)]
end Go.Im
open Go
set_option maxRecDepth 20000
namespace Go.Im
/-- laying literals over a part of an owned slice -/
theorem own_over {h : H} {f : P} {ver off : Nat} {cap : Option Nat} {l m : List Lt} {i : Nat} (o : OwnS h f ver off cap l) (hk : h.ok) (hi : i + m.length ≤ l.length) :
    ∃ h', wcells h f ver (off + i * 2) (cellsL m) = some h' ∧ OwnS h' f ver off cap (l.take i ++ m ++ l.drop (i + m.length)) ∧ Upto f h h' := by
  have hlt := o.lt hk
  obtain ⟨xs, dead, q1, q2, q3, q4, q5, q6⟩ := o
  have hm := cellsL_length m
  have hlp := lput_eq (xs := xs) (off := off + i * 2) (vs := cellsL m) (by omega)
  have hlen : (xs.take (off + i * 2) ++ cellsL m ++ xs.drop (off + i * 2 + (cellsL m).length)).length = xs.length := by
    simp only [List.length_append, List.length_take, List.length_drop]; omega
  have hl : (l.take i ++ m ++ l.drop (i + m.length)).length = l.length := by
    simp only [List.length_append, List.length_take, List.length_drop]; omega
  refine ⟨h.set f (.cells (xs.take (off + i * 2) ++ cellsL m ++ xs.drop (off + i * 2 + (cellsL m).length)) ver ver .rw 54), ?_, ⟨_, ver, H.get_set_same _ _ _, Nat.le_refl _, q3, ?_, ?_, fun c e => ?_⟩, ⟨hk.set hlt _, Nat.le_refl _, fun g _ hf => H.get_set_ne _ _ fun e => hf e.symm⟩⟩
  · unfold wcells
    rw [q1]
    simp only [beq_dec, ble_dec, Md.isRw, q2, decide_true, Bool.and_self, hlp]
  · rw [hlen, hl]; exact q4
  · rw [hl]; exact over_mid q4 q5 hi
  · rw [hlen, hl]; exact q6 c e
theorem own_store {h : H} {f : P} {ver off : Nat} {cap : Option Nat} {l : List Lt} {i : Nat} (o : OwnS h f ver off cap l) (hk : h.ok) (x : Lt) (hi : i < l.length) :
    ∃ h', stV h 2 (.ptr f ver (off + i * 2) 2) (lv x) = some (.tup [], h') ∧ OwnS h' f ver off cap (l.set i x) ∧ Upto f h h' := by
  obtain ⟨h', e, o', g⟩ := own_over (m := [x]) (i := i) o hk (by simp; omega)
  refine ⟨h', ?_, ?_, g⟩
  · have e' : wcells h f ver (off + i * 2) [.int .i64 x.1, .bool x.2] = some h' := e
    show (match Nat.beq 2 2 && Nat.ble 2 2 with
      | true => match wcells h f ver (off + i * 2) [.int .i64 x.1, .bool x.2] with
        | some h => some (V.tup [], h)
        | none => none
      | false => none) = _
    rw [e']; rfl
  · have : l.set i x = l.take i ++ [x] ++ l.drop (i + [x].length) := by
      rw [List.set_eq_take_append_cons_drop, if_pos hi]; simp
    rw [this]; exact o'
theorem rep_cells : ∀ n, rep [V.int .i64 0, .bool false] n = cellsL (List.replicate n (0, false))
  | 0 => rfl
  | n + 1 => by
    have := rep_cells n
    show V.int .i64 0 :: V.bool false :: rep [V.int .i64 0, .bool false] n = _
    rw [this]; rfl
/-- clear(s[i:]) -/
theorem own_clear {h : H} {f : P} {ver off : Nat} {cap c : Option Nat} {l : List Lt} {i : Nat} (o : OwnS h f ver off cap l) (hk : h.ok) (hi : i ≤ l.length) :
    ∃ h' l', clrsV h 2 [.int .i64 0, .bool false] (.sl f ver (off + i * 2) (l.length - i) 2 c) = some (.tup [], h') ∧ OwnS h' f ver off cap l' ∧ l'.length = l.length ∧ l'.take i = l.take i ∧ Upto f h h' := by
  by_cases hz : l.length - i = 0
  · refine ⟨h, l, ?_, o, rfl, rfl, .refl hk⟩
    simp only [clrsV, hz, beq_dec, decide_true]
  · obtain ⟨h', e, o', g⟩ := own_over (m := List.replicate (l.length - i) (0, false)) (i := i) o hk (by simp; omega)
    refine ⟨h', _, ?_, o', ?_, ?_, g⟩
    · rw [← rep_cells] at e
      simp only [clrsV, hz, beq_dec, decide_true, decide_false, e]
    · simp; omega
    · rw [List.append_assoc, List.take_append, List.length_take, Nat.min_eq_left hi, Nat.sub_self, List.take_zero, List.append_nil, List.take_take, Nat.min_self]
theorem sls_to {f : P} {ver off n : Nat} {cap : Option Nat} {i : Nat} (hi : i ≤ n) (hc : ∀ c, cap = some c → n ≤ c) : slslV 2 (.sl f ver off n 2 cap) none (some (.int .i64 (i : Nat))) none = some (.sl f ver off i 2 cap) := by
  cases cap with
  | none => simp [slslV, bnds, bndV, zdm, beq_dec, ble_dec, hi]
  | some c =>
    have := hc c rfl
    simp [slslV, bnds, bndV, zdm, beq_dec, ble_dec, Nat.le_trans hi this]
theorem sls_from {f : P} {ver off n : Nat} {cap : Option Nat} {i : Nat} (hi : i ≤ n) (hc : ∀ c, cap = some c → n ≤ c) : ∃ c', slslV 2 (.sl f ver off n 2 cap) (some (.int .i64 (i : Nat))) none none = some (.sl f ver (off + i * 2) (n - i) 2 c') := by
  cases cap with
  | none => exact ⟨none, by simp [slslV, bnds, bndV, zdm, beq_dec, ble_dec, hi]⟩
  | some c =>
    have := hc c rfl
    exact ⟨some (c - i), by simp [slslV, bnds, bndV, zdm, beq_dec, ble_dec, this, hi]⟩
theorem sls_nil_to : slslV 2 .snil none (some (.int .i64 (0 : Nat))) none = some .snil := rfl
theorem sls_nil_from : slslV 2 .snil (some (.int .i64 (0 : Nat))) none none = some .snil := rfl
theorem OwnS.capLe {h : H} {f : P} {ver off : Nat} {cap : Option Nat} {l : List Lt} (o : OwnS h f ver off cap l) : ∀ c, cap = some c → l.length ≤ c := let ⟨_, _, _, _, _, _, _, q⟩ := o; fun c e => (q c e).1
theorem OwnS.to {h : H} {f : P} {ver off : Nat} {cap : Option Nat} {l : List Lt} (o : OwnS h f ver off cap l) {i : Nat} (hi : i ≤ l.length) : OwnS h f ver off cap (l.take i) := by
  obtain ⟨xs, dead, q1, q2, q3, q4, q5, q6⟩ := o
  have hl : (l.take i).length = i := by simp; omega
  refine ⟨xs, dead, q1, q2, q3, by rw [hl]; omega, ?_, fun c e => ?_⟩
  · rw [hl, ← cellsL_take, ← q5, List.take_take, Nat.min_eq_left (by omega)]
  · have := q6 c e; rw [hl]; omega
theorem OwnS.litsFrom {h : H} {f : P} {ver off : Nat} {cap : Option Nat} {l : List Lt} (o : OwnS h f ver off cap l) {i : Nat} (hi : i ≤ l.length) (c : Option Nat) : LitsOf h (.sl f ver (off + i * 2) (l.length - i) 2 c) (l.drop i) := by
  obtain ⟨xs, dead, q1, q2, q3, q4, q5, q6⟩ := o
  refine ⟨fun e he => by obtain ⟨x, _, rfl⟩ := List.mem_map.1 he; rfl, .inr ⟨f, ver, off + i * 2, c, by simp, ?_⟩⟩
  rw [flat_cells]
  refine ⟨xs, live_at q1 q2 (Nat.le_refl _), by rw [cellsL_length, List.length_drop]; omega, ?_⟩
  rw [← cellsL_drop, ← q5, List.length_drop, List.length_take, List.length_drop, List.drop_take, List.drop_drop]
  congr 1
  omega
theorem OwnS.litsTo {h : H} {f : P} {ver off : Nat} {cap : Option Nat} {l : List Lt} (o : OwnS h f ver off cap l) {i : Nat} (hi : i ≤ l.length) (c : Option Nat) : LitsOf h (.sl f ver off i 2 c) (l.take i) := by
  have := (o.to hi).lits c
  rwa [List.length_take, Nat.min_eq_left hi] at this
theorem Upto.lits {f : P} {h h' : H} {v : V} {l : List Lt} (g : Upto f h h') (hk : h.ok) (s : LitsOf h v l) (hf : pNat h.next ≤ pNat f ∨ ¬ rootIs v f) : LitsOf h' v l := by
  refine ⟨s.1, ?_⟩
  rcases s.2 with a | ⟨k, ver, off, cap, a, c⟩
  · exact .inl a
  · refine .inr ⟨k, ver, off, cap, a, ?_⟩
    have hlt := c.lt hk
    have hne : k ≠ f := by
      rcases hf with hf | hf
      · rintro rfl; omega
      · rintro rfl; exact hf ⟨_, _, _, _, _, a⟩
    obtain ⟨xs, h1, q⟩ := c
    refine ⟨xs, ?_, q⟩
    unfold live at h1 ⊢
    rw [g.get k hlt hne]; exact h1
theorem app_grew {h0 h : H} {bd : Nat} {a b : V} {l m : List Lt} (ha : OwnL bd h a l) (hb : LitsOf h b m) (g : Grew h0 h) (h0b : pNat h0.next ≤ bd) (hbd : bd ≤ pNat h.next) (hsz : l.length + m.length ≤ 1073741824) :
    ∃ v h', appV h 54 2 16 a b = some (v, h') ∧ OwnL bd h' v (l ++ m) ∧ Grew h0 h' := by
  obtain ⟨v, h', e, o, k, n, q⟩ := app_own ha hb g.ok hbd hsz
  refine ⟨v, h', e, o, k, Nat.le_trans g.next n, fun f hf => ?_⟩
  rw [q f (Nat.lt_of_lt_of_le hf g.next) ?_, g.get f hf]
  rintro ⟨ver, off, n, es, c, rfl⟩
  rcases ha with ⟨e, _⟩ | ⟨f', ver', off', cap', e, hb', _⟩
  · cases e
  · cases e; omega
theorem eqlSl (v : V) {l : List Lt} {h : H} (s : LitsOf h v l) : V.bin .eql .sl v .snil = some (.bool (match v with | .snil => true | _ => false)) := by
  rcases s.2 with ⟨rfl, _⟩ | ⟨f, k, off, cap, rfl, _⟩ <;> rfl
end Go.Im
open Go
set_option maxRecDepth 20000
namespace Go.Im
variable (u : Ob)
theorem own_nil (h : H) (b : Nat) : OwnL b h .snil [] := .inl ⟨rfl, rfl⟩
theorem own_empty {h : H} (hk : h.ok) : OwnL (pNat h.next) (h.new (.cells [] 0 0 .rw 54)) (.sl h.next 0 0 0 2 (some 0)) [] := ownL_new hk (l := []) (some 0) (fun n e => by cases e; rfl)
theorem lits_one {h : H} (hk : h.ok) (x : Lt) : LitsOf (h.new (.cells [.int .i64 x.1, .bool x.2] 0 0 .rw 54)) (.sl h.next 0 0 1 2 (some 1)) [x] := (ownL_new hk (l := [x]) (some 1) (fun n e => by cases e; rfl)).lits
/-- slices.Clone -/
theorem f78 {v : V} {l : List Lt} {h : H} (hk : h.ok) (s : LitsOf h v l) (hn : l.length ≤ 536870912) : ∃ v' h', FnTo (PrL u) 78 [v] h v' h' ∧ OwnL (pNat h.next) h' v' l ∧ Grew h h' := by
  rcases id s.2 with ⟨rfl, e⟩ | ⟨f, k, off, cap, rfl, _⟩
  · have : l = [] := by simpa using e
    subst this
    refine ⟨.snil, h, (wFn_run rfl F78_eq rfl ?_).is, own_nil _ _, .refl hk⟩
    have e : V.bin .eql .sl .snil .snil = some (.bool true) := rfl
    simp only [F78, zaa, zab, zac, zad, zae, zaf, zag, zah, zai, zaj, zak, zal, zam, zan, zao, zap, zaq, zar, zas, zat, zau, zav, zaw, zax, zay, zaz, zba, zbb, zbc, zbd, zbe, zbf, zbg, zbh, zbi, zbj, zbk, zbl, zbm, zbn, zbo, zbp, zbq, zbr, zbs, zbt, zbu, X.ev_t, X.ev_c, Fr.gs, zbv, zbw, zbx, zby, zbz, zca, zcb, zcc, zcd, zce, zcf, zcg, zch, zci, zcj, zck, zcl, zcm, zcn, zco, zcp, zcq, zcr, zcs, zct, zcu, zcv, zcw, zcx, zcy, zcz, zda, zdb, zdc, zdd, zde, zdf, zdg, zdh, zdi, zdj, zdk, zdl, zdm, zdn, one_tt, one_ff, zdo, nthD, zdp, zdq, zdr, zds, zdt, zdu, zdv, zdw, ne_eq, not_false_eq_true, zdx, zdy, zdz, bsl0, zea, zeb, zec, zed, zee, zef, List.length_cons, List.length_nil, Nat.zero_add, Nat.le_refl, Nat.reduceLeDiff, Nat.add_zero, Option.map_some, Option.map_none, Int.ofNat_lt, Int.ofNat_le, Prod.mk.injEq, and_false, false_and, decide_true, decide_false, Bool.not_true, Bool.not_false, Nat.reduceLT, Nat.reduceEqDiff, Nat.reduceAdd, Nat.reduceSub, if_true, if_false, reduceIte, Int.cast_ofNat_Int, Nat.reduceBEq, Nat.reduceMul, Nat.reduceDiv, Nat.reduceMod, and_true, true_and, and_self, reduceCtorEq, eq_self, zeg, zeh, zei, zej, zek, zel, zem, zen, e]
  · have g1 : Grew h (h.new (.cells [] 0 0 .rw 54)) := (Grew.refl hk).new _
    obtain ⟨v', h', e, o, g⟩ := app_grew (own_empty hk) (s.grew hk g1) g1 (Nat.le_refl _) g1.next (by simp; omega)
    refine ⟨v', h', (wFn_run rfl F78_eq rfl ?_).is, o, g⟩
    have e0 : V.bin .eql .sl (.sl f k off (l.map litC).length 2 cap) .snil = some (.bool false) := rfl
    simp only [F78, zaa, zab, zac, zad, zae, zaf, zag, zah, zai, zaj, zak, zal, zam, zan, zao, zap, zaq, zar, zas, zat, zau, zav, zaw, zax, zay, zaz, zba, zbb, zbc, zbd, zbe, zbf, zbg, zbh, zbi, zbj, zbk, zbl, zbm, zbn, zbo, zbp, zbq, zbr, zbs, zbt, zbu, X.ev_t, X.ev_c, Fr.gs, zbv, zbw, zbx, zby, zbz, zca, zcb, zcc, zcd, zce, zcf, zcg, zch, zci, zcj, zck, zcl, zcm, zcn, zco, zcp, zcq, zcr, zcs, zct, zcu, zcv, zcw, zcx, zcy, zcz, zda, zdb, zdc, zdd, zde, zdf, zdg, zdh, zdi, zdj, zdk, zdl, zdm, zdn, one_tt, one_ff, zdo, nthD, zdp, zdq, zdr, zds, zdt, zdu, zdv, zdw, ne_eq, not_false_eq_true, zdx, zdy, zdz, bsl0, zea, zeb, zec, zed, zee, zef, List.length_cons, List.length_nil, Nat.zero_add, Nat.le_refl, Nat.reduceLeDiff, Nat.add_zero, Option.map_some, Option.map_none, Int.ofNat_lt, Int.ofNat_le, Prod.mk.injEq, and_false, false_and, decide_true, decide_false, Bool.not_true, Bool.not_false, Nat.reduceLT, Nat.reduceEqDiff, Nat.reduceAdd, Nat.reduceSub, if_true, if_false, reduceIte, Int.cast_ofNat_Int, Nat.reduceBEq, Nat.reduceMul, Nat.reduceDiv, Nat.reduceMod, and_true, true_and, and_self, reduceCtorEq, eq_self, zeg, zeh, zei, zej, zek, zel, zem, zen, e0, e]
theorem lits_get {l : List Lt} {i : Nat} (h : i < l.length) : ∃ x, l[i]? = some x := ⟨l[i], List.getElem?_eq_getElem h⟩
theorem take_snoc {l : List Lt} {i : Nat} {x : Lt} (h : l[i]? = some x) : l.take (i + 1) = l.take i ++ [x] := by
  rw [List.take_add_one, h]; rfl
/-- without -/
theorem f89 {v : V} {l : List Lt} (x : Lt) {h : H} (hk : h.ok) (s : LitsOf h v l) (hn : l.length ≤ 536870912) : ∃ v' h', FnTo (PrL u) 89 [v, lv x] h v' h' ∧ OwnL (pNat h.next) h' v' (l.filter fun y => decide (y ≠ x)) ∧ Grew h h' := by
  have g1 : Grew h (h.new (bx x)) := (Grew.refl hk).new _
  have key : wFn (PrL u) 89 [v, lv x] h fun v' h' => OwnL (pNat h.next) h' v' (l.filter fun y => decide (y ≠ x)) ∧ Grew h h' := by
    refine wFn_run rfl F89_eq rfl ?_
    simp only [F89, zaa, zab, zac, zad, zae, zaf, zag, zah, zai, zaj, zak, zal, zam, zan, zao, zap, zaq, zar, zas, zat, zau, zav, zaw, zax, zay, zaz, zba, zbb, zbc, zbd, zbe, zbf, zbg, zbh, zbi, zbj, zbk, zbl, zbm, zbn, zbo, zbp, zbq, zbr, zbs, zbt, zbu, X.ev_t, X.ev_c, Fr.gs, zbv, zbw, zbx, zby, zbz, zca, zcb, zcc, zcd, zce, zcf, zcg, zch, zci, zcj, zck, zcl, zcm, zcn, zco, zcp, zcq, zcr, zcs, zct, zcu, zcv, zcw, zcx, zcy, zcz, zda, zdb, zdc, zdd, zde, zdf, zdg, zdh, zdi, zdj, zdk, zdl, zdm, zdn, one_tt, one_ff, zdo, nthD, zdp, zdq, zdr, zds, zdt, zdu, zdv, zdw, ne_eq, not_false_eq_true, zdx, zdy, zdz, bsl0, zea, zeb, zec, zed, zee, zef, List.length_cons, List.length_nil, Nat.zero_add, Nat.le_refl, Nat.reduceLeDiff, Nat.add_zero, Option.map_some, Option.map_none, Int.ofNat_lt, Int.ofNat_le, Prod.mk.injEq, and_false, false_and, decide_true, decide_false, Bool.not_true, Bool.not_false, Nat.reduceLT, Nat.reduceEqDiff, Nat.reduceAdd, Nat.reduceSub, if_true, if_false, reduceIte, Int.cast_ofNat_Int, Nat.reduceBEq, Nat.reduceMul, Nat.reduceDiv, Nat.reduceMod, and_true, true_and, and_self, reduceCtorEq, eq_self, zeg, zeh, zei, zej, zek, zel, zem, zen]
    refine wk_loop (fun m t => ∃ (i : Nat) (fr : Fr) (h1 : H) (o : V), t = ⟨fr, [], h1⟩ ∧ Grew (h.new (bx x)) h1 ∧ i ≤ l.length ∧ m = l.length - i ∧ OwnL (pNat (h.new (bx x)).next) h1 o ((l.take i).filter fun y => decide (y ≠ x)) ∧
      fr.get (sOf 0) = v ∧ fr.get (sOf 3) = .ptr h.next 0 0 2 ∧ fr.get (sOf 5) = o ∧ fr.get (sOf 6) = .int .i64 (i : Nat)) ?_ ⟨0, _, _, .snil, rfl, .refl g1.ok, Nat.zero_le _, rfl, own_nil _ _, ?_, ?_, ?_, ?_⟩
    · rintro m t ⟨i, fr, h1, o, rfl, g2, hi, rfl, ho, e0, e3, e5, e6⟩
      have g12 := g1.trans g2
      have s1 := s.grew hk g12
      have hbx : ldV h1 true 2 (.ptr h.next 0 0 2) = some (lv x) := by
        have := g2.keep g1.ok (H.get_new_same h (bx x))
        rw [ld_at this (Nat.le_refl _) (Nat.le_refl _) true (Nat.le_refl _)]; rfl
      by_cases hlt : i < l.length
      · obtain ⟨y, hy⟩ := lits_get hlt
        have hts := take_snoc hy
        by_cases hxy : y = x
        · have hf : (l.take (i + 1)).filter (fun y => decide (y ≠ x)) = (l.take i).filter fun y => decide (y ≠ x) := by
            rw [hts, List.filter_append]; simp [hxy]
          simp only [zaa, zab, zac, zad, zae, zaf, zag, zah, zai, zaj, zak, zal, zam, zan, zao, zap, zaq, zar, zas, zat, zau, zav, zaw, zax, zay, zaz, zba, zbb, zbc, zbd, zbe, zbf, zbg, zbh, zbi, zbj, zbk, zbl, zbm, zbn, zbo, zbp, zbq, zbr, zbs, zbt, zbu, X.ev_t, X.ev_c, Fr.gs, zbv, zbw, zbx, zby, zbz, zca, zcb, zcc, zcd, zce, zcf, zcg, zch, zci, zcj, zck, zcl, zcm, zcn, zco, zcp, zcq, zcr, zcs, zct, zcu, zcv, zcw, zcx, zcy, zcz, zda, zdb, zdc, zdd, zde, zdf, zdg, zdh, zdi, zdj, zdk, zdl, zdm, zdn, one_tt, one_ff, zdo, nthD, zdp, zdq, zdr, zds, zdt, zdu, zdv, zdw, ne_eq, not_false_eq_true, zdx, zdy, zdz, bsl0, zea, zeb, zec, zed, zee, zef, List.length_cons, List.length_nil, Nat.zero_add, Nat.le_refl, Nat.reduceLeDiff, Nat.add_zero, Option.map_some, Option.map_none, Int.ofNat_lt, Int.ofNat_le, Prod.mk.injEq, and_false, false_and, decide_true, decide_false, Bool.not_true, Bool.not_false, Nat.reduceLT, Nat.reduceEqDiff, Nat.reduceAdd, Nat.reduceSub, if_true, if_false, reduceIte, Int.cast_ofNat_Int, Nat.reduceBEq, Nat.reduceMul, Nat.reduceDiv, Nat.reduceMod, and_true, true_and, and_self, reduceCtorEq, eq_self, zeg, zeh, zei, zej, zek, zel, zem, zen, e0, e3, e5, e6, s1.vlen, hlt, s1.addr hlt, s1.load hy, hbx, zdl, hxy, wrap_succ (show i < 9223372036854775807 by omega)]
          refine ⟨l.length - (i + 1), by omega, i + 1, _, _, o, rfl, g2, by omega, rfl, by rw [hf]; exact ho, ?_, ?_, ?_, ?_⟩
          all_goals simp only [zaa, zab, zac, zad, zae, zaf, zag, zah, zai, zaj, zak, zal, zam, zan, zao, zap, zaq, zar, zas, zat, zau, zav, zaw, zax, zay, zaz, zba, zbb, zbc, zbd, zbe, zbf, zbg, zbh, zbi, zbj, zbk, zbl, zbm, zbn, zbo, zbp, zbq, zbr, zbs, zbt, zbu, X.ev_t, X.ev_c, Fr.gs, zbv, zbw, zbx, zby, zbz, zca, zcb, zcc, zcd, zce, zcf, zcg, zch, zci, zcj, zck, zcl, zcm, zcn, zco, zcp, zcq, zcr, zcs, zct, zcu, zcv, zcw, zcx, zcy, zcz, zda, zdb, zdc, zdd, zde, zdf, zdg, zdh, zdi, zdj, zdk, zdl, zdm, zdn, one_tt, one_ff, zdo, nthD, zdp, zdq, zdr, zds, zdt, zdu, zdv, zdw, ne_eq, not_false_eq_true, zdx, zdy, zdz, bsl0, zea, zeb, zec, zed, zee, zef, List.length_cons, List.length_nil, Nat.zero_add, Nat.le_refl, Nat.reduceLeDiff, Nat.add_zero, Option.map_some, Option.map_none, Int.ofNat_lt, Int.ofNat_le, Prod.mk.injEq, and_false, false_and, decide_true, decide_false, Bool.not_true, Bool.not_false, Nat.reduceLT, Nat.reduceEqDiff, Nat.reduceAdd, Nat.reduceSub, if_true, if_false, reduceIte, Int.cast_ofNat_Int, Nat.reduceBEq, Nat.reduceMul, Nat.reduceDiv, Nat.reduceMod, and_true, true_and, and_self, reduceCtorEq, eq_self, zeg, zeh, zei, zej, zek, zel, zem, zen, e0, e3, e5]
        · have hf : (l.take (i + 1)).filter (fun y => decide (y ≠ x)) = ((l.take i).filter fun y => decide (y ≠ x)) ++ [y] := by
            rw [hts, List.filter_append]; simp [hxy]
          have g3 := g2.new (.cells [.int .i64 y.1, .bool y.2] 0 0 .rw 54)
          have hbl := List.length_filter_le (fun y => decide (y ≠ x)) (l.take i)
          rw [List.length_take] at hbl
          obtain ⟨v', h', ea, oa, ga⟩ := app_grew (ho.grew g2.ok ((Grew.refl g2.ok).new _)) (lits_one g2.ok y) g3 (Nat.le_refl _) g3.next (by simp only [List.length_cons, List.length_nil]; omega)
          simp only [zaa, zab, zac, zad, zae, zaf, zag, zah, zai, zaj, zak, zal, zam, zan, zao, zap, zaq, zar, zas, zat, zau, zav, zaw, zax, zay, zaz, zba, zbb, zbc, zbd, zbe, zbf, zbg, zbh, zbi, zbj, zbk, zbl, zbm, zbn, zbo, zbp, zbq, zbr, zbs, zbt, zbu, X.ev_t, X.ev_c, Fr.gs, zbv, zbw, zbx, zby, zbz, zca, zcb, zcc, zcd, zce, zcf, zcg, zch, zci, zcj, zck, zcl, zcm, zcn, zco, zcp, zcq, zcr, zcs, zct, zcu, zcv, zcw, zcx, zcy, zcz, zda, zdb, zdc, zdd, zde, zdf, zdg, zdh, zdi, zdj, zdk, zdl, zdm, zdn, one_tt, one_ff, zdo, nthD, zdp, zdq, zdr, zds, zdt, zdu, zdv, zdw, ne_eq, not_false_eq_true, zdx, zdy, zdz, bsl0, zea, zeb, zec, zed, zee, zef, List.length_cons, List.length_nil, Nat.zero_add, Nat.le_refl, Nat.reduceLeDiff, Nat.add_zero, Option.map_some, Option.map_none, Int.ofNat_lt, Int.ofNat_le, Prod.mk.injEq, and_false, false_and, decide_true, decide_false, Bool.not_true, Bool.not_false, Nat.reduceLT, Nat.reduceEqDiff, Nat.reduceAdd, Nat.reduceSub, if_true, if_false, reduceIte, Int.cast_ofNat_Int, Nat.reduceBEq, Nat.reduceMul, Nat.reduceDiv, Nat.reduceMod, and_true, true_and, and_self, reduceCtorEq, eq_self, zeg, zeh, zei, zej, zek, zel, zem, zen, e0, e3, e5, e6, s1.vlen, hlt, s1.addr hlt, s1.load hy, hbx, zdl, hxy, ea, wrap_succ (show i < 9223372036854775807 by omega)]
          refine ⟨l.length - (i + 1), by omega, i + 1, _, _, v', rfl, ga, by omega, rfl, by rw [hf]; exact oa, ?_, ?_, ?_, ?_⟩
          all_goals simp only [zaa, zab, zac, zad, zae, zaf, zag, zah, zai, zaj, zak, zal, zam, zan, zao, zap, zaq, zar, zas, zat, zau, zav, zaw, zax, zay, zaz, zba, zbb, zbc, zbd, zbe, zbf, zbg, zbh, zbi, zbj, zbk, zbl, zbm, zbn, zbo, zbp, zbq, zbr, zbs, zbt, zbu, X.ev_t, X.ev_c, Fr.gs, zbv, zbw, zbx, zby, zbz, zca, zcb, zcc, zcd, zce, zcf, zcg, zch, zci, zcj, zck, zcl, zcm, zcn, zco, zcp, zcq, zcr, zcs, zct, zcu, zcv, zcw, zcx, zcy, zcz, zda, zdb, zdc, zdd, zde, zdf, zdg, zdh, zdi, zdj, zdk, zdl, zdm, zdn, one_tt, one_ff, zdo, nthD, zdp, zdq, zdr, zds, zdt, zdu, zdv, zdw, ne_eq, not_false_eq_true, zdx, zdy, zdz, bsl0, zea, zeb, zec, zed, zee, zef, List.length_cons, List.length_nil, Nat.zero_add, Nat.le_refl, Nat.reduceLeDiff, Nat.add_zero, Option.map_some, Option.map_none, Int.ofNat_lt, Int.ofNat_le, Prod.mk.injEq, and_false, false_and, decide_true, decide_false, Bool.not_true, Bool.not_false, Nat.reduceLT, Nat.reduceEqDiff, Nat.reduceAdd, Nat.reduceSub, if_true, if_false, reduceIte, Int.cast_ofNat_Int, Nat.reduceBEq, Nat.reduceMul, Nat.reduceDiv, Nat.reduceMod, and_true, true_and, and_self, reduceCtorEq, eq_self, zeg, zeh, zei, zej, zek, zel, zem, zen, e0, e3]
      · simp only [zaa, zab, zac, zad, zae, zaf, zag, zah, zai, zaj, zak, zal, zam, zan, zao, zap, zaq, zar, zas, zat, zau, zav, zaw, zax, zay, zaz, zba, zbb, zbc, zbd, zbe, zbf, zbg, zbh, zbi, zbj, zbk, zbl, zbm, zbn, zbo, zbp, zbq, zbr, zbs, zbt, zbu, X.ev_t, X.ev_c, Fr.gs, zbv, zbw, zbx, zby, zbz, zca, zcb, zcc, zcd, zce, zcf, zcg, zch, zci, zcj, zck, zcl, zcm, zcn, zco, zcp, zcq, zcr, zcs, zct, zcu, zcv, zcw, zcx, zcy, zcz, zda, zdb, zdc, zdd, zde, zdf, zdg, zdh, zdi, zdj, zdk, zdl, zdm, zdn, one_tt, one_ff, zdo, nthD, zdp, zdq, zdr, zds, zdt, zdu, zdv, zdw, ne_eq, not_false_eq_true, zdx, zdy, zdz, bsl0, zea, zeb, zec, zed, zee, zef, List.length_cons, List.length_nil, Nat.zero_add, Nat.le_refl, Nat.reduceLeDiff, Nat.add_zero, Option.map_some, Option.map_none, Int.ofNat_lt, Int.ofNat_le, Prod.mk.injEq, and_false, false_and, decide_true, decide_false, Bool.not_true, Bool.not_false, Nat.reduceLT, Nat.reduceEqDiff, Nat.reduceAdd, Nat.reduceSub, if_true, if_false, reduceIte, Int.cast_ofNat_Int, Nat.reduceBEq, Nat.reduceMul, Nat.reduceDiv, Nat.reduceMod, and_true, true_and, and_self, reduceCtorEq, eq_self, zeg, zeh, zei, zej, zek, zel, zem, zen, e0, e3, e5, e6, s1.vlen, hlt]
        rw [List.take_of_length_le (by omega)] at ho
        exact ⟨ho.mono g1.next, g12⟩
    all_goals simp only [zaa, zab, zac, zad, zae, zaf, zag, zah, zai, zaj, zak, zal, zam, zan, zao, zap, zaq, zar, zas, zat, zau, zav, zaw, zax, zay, zaz, zba, zbb, zbc, zbd, zbe, zbf, zbg, zbh, zbi, zbj, zbk, zbl, zbm, zbn, zbo, zbp, zbq, zbr, zbs, zbt, zbu, X.ev_t, X.ev_c, Fr.gs, zbv, zbw, zbx, zby, zbz, zca, zcb, zcc, zcd, zce, zcf, zcg, zch, zci, zcj, zck, zcl, zcm, zcn, zco, zcp, zcq, zcr, zcs, zct, zcu, zcv, zcw, zcx, zcy, zcz, zda, zdb, zdc, zdd, zde, zdf, zdg, zdh, zdi, zdj, zdk, zdl, zdm, zdn, one_tt, one_ff, zdo, nthD, zdp, zdq, zdr, zds, zdt, zdu, zdv, zdw, ne_eq, not_false_eq_true, zdx, zdy, zdz, bsl0, zea, zeb, zec, zed, zee, zef, List.length_cons, List.length_nil, Nat.zero_add, Nat.le_refl, Nat.reduceLeDiff, Nat.add_zero, Option.map_some, Option.map_none, Int.ofNat_lt, Int.ofNat_le, Prod.mk.injEq, and_false, false_and, decide_true, decide_false, Bool.not_true, Bool.not_false, Nat.reduceLT, Nat.reduceEqDiff, Nat.reduceAdd, Nat.reduceSub, if_true, if_false, reduceIte, Int.cast_ofNat_Int, Nat.reduceBEq, Nat.reduceMul, Nat.reduceDiv, Nat.reduceMod, and_true, true_and, and_self, reduceCtorEq, eq_self, zeg, zeh, zei, zej, zek, zel, zem, zen]
  obtain ⟨v', h', a, o, g⟩ := key.to
  exact ⟨v', h', a, o, g⟩
end Go.Im
