/- A part of the proof that ProofResolves holds for every input of the given program: CtP, Pk. -/
import Derived.Test.YtmdaoiabedkpcaaGreatDoorQ03
import Derived.Test.YtmdaoiabedkpcaaGreatDoorQ04
import Derived.Test.YtmdaoiabedkpcaaGreatDoorQ08
import Derived.Test.YtmdaoiabedkpcaaGreatDoorQ25
set_option linter.unusedVariables false
set_option linter.unusedSimpArgs false
open Go
namespace Go.Im
theorem P0_ok : PrOk pg P0 := pr0_ok
theorem P1_ok : PrOk pg P1 := pr0_ok
theorem P2_ok : PrOk pg P2 := ((pr0_ok).with mixed c1 P1_ok c1_ok)
theorem P3_ok : PrOk pg P3 := pr0_ok
theorem P4_ok : PrOk pg P4 := ((pr0_ok).with mixed c3 P3_ok c3_ok)
theorem P5_ok : PrOk pg P5 := ((pr0_ok).with mixed c4 P4_ok c4_ok)
theorem P6_ok : PrOk pg P6 := ((((pr0_ok).with mixed c2 P2_ok c2_ok)).with mixed c5 P5_ok c5_ok)
theorem P7_ok : PrOk pg P7 := pr0_ok
theorem P8_ok : PrOk pg P8 := pr0_ok
theorem P9_ok : PrOk pg P9 := ((pr0_ok).with mixed c8 P8_ok c8_ok)
theorem P10_ok : PrOk pg P10 := pr0_ok
theorem P11_ok : PrOk pg P11 := ((pr0_ok).with mixed c10 P10_ok c10_ok)
theorem P12_ok : PrOk pg P12 := ((pr0_ok).with mixed c11 P11_ok c11_ok)
theorem P13_ok : PrOk pg P13 := ((((pr0_ok).with mixed c9 P9_ok c9_ok)).with mixed c12 P12_ok c12_ok)
theorem P14_ok : PrOk pg P14 := pr0_ok
theorem P15_ok : PrOk pg P15 := ((pr0_ok).with mixed c14 P14_ok c14_ok)
theorem P16_ok : PrOk pg P16 := pr0_ok
theorem P17_ok : PrOk pg P17 := ((pr0_ok).with mixed c16 P16_ok c16_ok)
theorem P18_ok : PrOk pg P18 := ((((pr0_ok).with mixed c15 P15_ok c15_ok)).with mixed c17 P17_ok c17_ok)
theorem P19_ok : PrOk pg P19 := pr0_ok
theorem P20_ok : PrOk pg P20 := pr0_ok
theorem P21_ok : PrOk pg P21 := pr0_ok
theorem P22_ok : PrOk pg P22 := pr0_ok
theorem P23_ok : PrOk pg P23 := pr0_ok
theorem P24_ok : PrOk pg P24 := pr0_ok
theorem P25_ok : PrOk pg P25 := pr0_ok
theorem P26_ok : PrOk pg P26 := pr0_ok
theorem P27_ok : PrOk pg P27 := pr0_ok
theorem P28_ok : PrOk pg P28 := ((pr0_ok).with mixed c27 P27_ok c27_ok)
theorem P29_ok : PrOk pg P29 := pr0_ok
theorem P30_ok : PrOk pg P30 := ((pr0_ok).with mixed c29 P29_ok c29_ok)
theorem P31_ok : PrOk pg P31 := ((pr0_ok).with mixed c30 P30_ok c30_ok)
theorem P32_ok : PrOk pg P32 := ((((pr0_ok).with mixed c28 P28_ok c28_ok)).with mixed c31 P31_ok c31_ok)
theorem P33_ok : PrOk pg P33 := pr0_ok
theorem P34_ok : PrOk pg P34 := ((((((((((((((((((((((((((((((pr0_ok).with mixed c0 P0_ok c0_ok)).with mixed c6 P6_ok c6_ok)).with mixed c7 P7_ok c7_ok)).with mixed c13 P13_ok c13_ok)).with mixed c18 P18_ok c18_ok)).with mixed c19 P19_ok c19_ok)).with mixed c20 P20_ok c20_ok)).with mixed c21 P21_ok c21_ok)).with mixed c22 P22_ok c22_ok)).with mixed c23 P23_ok c23_ok)).with mixed c24 P24_ok c24_ok)).with mixed c25 P25_ok c25_ok)).with mixed c26 P26_ok c26_ok)).with mixed c32 P32_ok c32_ok)).with mixed c33 P33_ok c33_ok)
end Go.Im
open Go
namespace Go.Im
open Go.Proofs Go.RowKit
set_option maxRecDepth 20000
theorem awake_ok {ro : Option Nat} {h : H} {M : Mp} {w : World} (hg : GOk pg M) (r : Rel pg M h w.heap) (hl : lies h c34u = true) :
    FnAns pg ro 4 #[] w fun rv w' => ∃ M', Step pg M h w M' h w' ∧ VRel M' (.bool true) rv :=
  roSpec mixed P34_ok c34 c34_ok (by kernel_rfl) rfl rfl rfl (by
    have : ∀ g, g < 12 → pNat (pOf g) < 14 := by decide
    intro g hg'
    exact this g hg') (by kernel_rfl) hg r (by show lies h (c34u ++ []) = true; rw [List.append_nil]; exact hl)
theorem isAgg54 (w : World) : (isAgg 54).run pg w = .ok true w := by kernel_rfl
theorem sizeOf54 (w : World) : (Go.sizeOf 54).run pg w = .ok 2 w := by kernel_rfl
theorem prL_ok : PrOk pg (PrL c34u) where
  funcs := pr0_ok.funcs
  ng := pr0_ok.ng
  quiet := pr0_ok.quiet
  spec ro g vs rargs h h' v M w hv hg r he := by
    by_cases e4 : g = 4
    · subst e4
      have he : spAwake c34u vs h = some (v, h') := he
      unfold spAwake at he
      split at he
      · split at he
        · rename_i hl
          cases he
          have : rargs = #[] := by
            have := hv.length
            exact Array.eq_empty_of_size_eq_zero (by simpa using this.symm)
          subst this
          exact awake_ok hg r hl
        · cases he
      · cases he
    by_cases e187 : g = 187
    · subst e187
      have he : spSortL 77 vs h = some (v, h') := he
      exact sortL_ok (ρ := Go.Proofs.Tryz.sortF_ren) { Go.Proofs.Tryz.sortF with } isAgg54 sizeOf54 (enters_of Go.Proofs.Tryz.func187 (by kernel_rfl) rfl) (enters_of Go.Proofs.Tryz.func77 (by kernel_rfl) rfl) (fun x y W => Go.Proofs.Tryz.order77 x y W) hv r he
    · have he : (match Nat.beq g 4 with
        | true => spAwake c34u vs h
        | false => match Nat.beq g 187 with
          | true => spSortL 77 vs h
          | false => specK ids g vs h) = some (v, h') := he
      have h1 : Nat.beq g 4 = false := by rw [beq_dec]; simpa using e4
      have h2 : Nat.beq g 187 = false := by rw [beq_dec]; simpa using e187
      rw [h1, h2] at he
      exact specK_ok hv hg r he
/-- **the law's run, in a world that holds what awake reads** -/
theorem law_runs {M : Mp} {h : H} {W : World} {rargs : Array Value} {v w : V} {ls : List (List Lt)} {pv : List Int} (hg : GOk pg M) (r : Rel pg M h W.heap) (nw : NoW M h) (hu : lies h c34u = true) (s : ClausesOf h v ls) (q : IntsOf h w pv) (hl : ls.length < 4611686018427387904) (hv : VsRel M [v, w] rargs.toList) :
    Calls pg 3 rargs W fun e w' => e = .returned (.bool true) ∧ Below W.heap.size W w' := by
  obtain ⟨h', ⟨n, hn⟩, _⟩ := f3 c34u r.hfr hu s q hl
  obtain ⟨nx, w1, q1, q2⟩ := callFn_ok prL_ok (code_ok mixed prL_ok n n (Nat.le_refl _)) (ro := none) hv hg r hn
  rw [enters_of Go.Proofs.Tryz.func3 (by kernel_rfl) rfl] at q1
  cases q1
  refine (callsIn_wide.1 q2).mono fun e w' ⟨rv, e1, M', st, hrv⟩ => ?_
  subst e1
  cases hrv
  exact ⟨rfl, st.os, st.tape, st.out, st.size, fun b hb => st.rframe b hb fun f k l hw e => absurd hw (nw f k l e)⟩
end Go.Im
