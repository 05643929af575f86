/- A part of the proof that ProofResolves holds for every input of the given program: Fs. -/
import Derived.KernelRfl
import Derived.Test.YtmdaoiabedkpcaaGreatDoorQ03
set_option linter.unusedVariables false
set_option linter.unusedSimpArgs false
open Go
namespace Go.Im
set_option maxRecDepth 100000
noncomputable def F3 : F := F.mk 63 (.seq (.reg [⟨(some (sOf 4)), .pu (.mv (.c (.bool false))), none⟩]) (
 .seq (.seq (.reg [⟨(some (sOf 12)), .call (.c (.fn (.func 4) [] [])) [], none⟩,
  ⟨(some (sOf 13)), .pu (.un .not (.t (sOf 12))), none⟩,
  ⟨(some (sOf 14)), .pu (.mv (.t (sOf 13))), none⟩,
  ⟨(some (sOf 15)), .pu (.mv (.t (sOf 0))), (some ((sOf 14), false))⟩,
  ⟨(some (sOf 16)), .pu (.lenv false (.t (sOf 15))), (some ((sOf 14), false))⟩,
  ⟨(some (sOf 17)), .pu (.bin .gtr .int (.t (sOf 16)) (.c (.int .i64 (.ofNat 102)))), (some ((sOf 14), false))⟩,
  ⟨(some (sOf 18)), .pu (.pick (.t (sOf 14)) (.c (.bool true)) (.t (sOf 17))), none⟩,
  ⟨(some (sOf 19)), .pu (.mv (.t (sOf 18))), none⟩,
  ⟨(some (sOf 20)), .pu (.mv (.t (sOf 1))), (some ((sOf 19), false))⟩,
  ⟨(some (sOf 21)), .pu (.lenv false (.t (sOf 20))), (some ((sOf 19), false))⟩,
  ⟨(some (sOf 22)), .pu (.bin .gtr .int (.t (sOf 21)) (.c (.int .i64 (.ofNat 102)))), (some ((sOf 19), false))⟩,
  ⟨(some (sOf 23)), .pu (.pick (.t (sOf 19)) (.c (.bool true)) (.t (sOf 22))), none⟩]) (
 .cond (.t (sOf 23)) (.seq (.reg [⟨(some (sOf 24)), .call (.c (.fn (.func 4) [] [])) [], none⟩,
  ⟨(some (sOf 4)), .pu (.mv (.t (sOf 24))), none⟩]) (
 .ret)) (.skip))) (
 .seq (.reg [⟨(some (sOf 5)), .pu (.mv (.c (.snil))), none⟩]) (
 .seq (.seq (.reg [⟨(some (sOf 25)), .pu (.mv (.t (sOf 0))), none⟩,
  ⟨(some (sOf 26)), .pu (.lenv false (.t (sOf 25))), none⟩,
  ⟨(some (sOf 27)), .pu (.mv (.c (.int .i64 (.ofNat 0)))), none⟩]) (
 .block 0 (.loop (.seq (.reg [⟨(some (sOf 28)), .pu (.bin .lss .int (.t (sOf 27)) (.t (sOf 26))), none⟩]) (
 .seq (.cond (.t (sOf 28)) (.skip) (.exit 0)) (
 .seq (.block 1 (.seq (.reg [⟨(some (sOf 29)), .pu (.iasl 1 (.t (sOf 25)) (.t (sOf 27))), none⟩,
  ⟨(some (sOf 30)), .rd (.load false 1 (.t (sOf 29))), none⟩,
  ⟨(some (sOf 7)), .pu (.mv (.t (sOf 30))), none⟩]) (
 .seq (.seq (.reg [⟨(some (sOf 31)), .pu (.mv (.t (sOf 7))), none⟩,
  ⟨(some (sOf 32)), .pu (.lenv false (.t (sOf 31))), none⟩,
  ⟨(some (sOf 33)), .pu (.bin .gtr .int (.t (sOf 32)) (.c (.int .i64 (.ofNat 101)))), none⟩]) (
 .cond (.t (sOf 33)) (.seq (.reg [⟨(some (sOf 4)), .pu (.mv (.c (.bool true))), none⟩]) (
 .ret)) (.skip))) (
 .reg [⟨(some (sOf 34)), .pu (.mv (.t (sOf 5))), none⟩,
  ⟨(some (sOf 35)), .mk (.bslice 54 2 0 [.int .i64 (.ofNat 0), .bool false] []), none⟩,
  ⟨(some (sOf 36)), .pu (.mv (.t (sOf 7))), none⟩,
  ⟨(some (sOf 37)), .wr (.app 54 2 16 (.t (sOf 35)) (.t (sOf 36))), none⟩,
  ⟨(some (sOf 38)), .mk (.bslice 25 1 1 [.snil] [(0, 1, (.t (sOf 37)))]), none⟩,
  ⟨(some (sOf 39)), .wr (.app 25 1 24 (.t (sOf 34)) (.t (sOf 38))), none⟩,
  ⟨(some (sOf 5)), .pu (.mv (.t (sOf 39))), none⟩])))) (
 .reg [⟨(some (sOf 40)), .pu (.bin .add .int (.t (sOf 27)) (.c (.int .i64 (.ofNat 1)))), none⟩,
  ⟨(some (sOf 27)), .pu (.mv (.t (sOf 40))), none⟩]))))))) (
 .seq (.reg [⟨(some (sOf 42)), .pu (.mv (.t (sOf 5))), none⟩,
  ⟨(some (sOf 43)), .mk (.bslice 3 1 0 [.int .i64 (.ofNat 0)] []), none⟩,
  ⟨(some (sOf 44)), .pu (.mv (.t (sOf 1))), none⟩,
  ⟨(some (sOf 45)), .wr (.app 3 1 8 (.t (sOf 43)) (.t (sOf 44))), none⟩,
  ⟨(some (sOf 46)), .call (.c (.fn (.func 5) [] [])) [(.t (sOf 42)), (.t (sOf 45))], none⟩,
  ⟨(some (sOf 41)), .pu (.mv (.t (sOf 46))), none⟩,
  ⟨(some (sOf 47)), .pu (.extr 0 (.t (sOf 41))), none⟩,
  ⟨(some (sOf 48)), .pu (.extr 1 (.t (sOf 41))), none⟩,
  ⟨(some (sOf 8)), .pu (.mv (.t (sOf 47))), none⟩,
  ⟨(some (sOf 9)), .pu (.mv (.t (sOf 48))), none⟩]) (
 .seq (.reg [⟨(some (sOf 50)), .pu (.mv (.t (sOf 0))), none⟩,
  ⟨(some (sOf 51)), .pu (.mv (.t (sOf 1))), none⟩,
  ⟨(some (sOf 52)), .call (.c (.fn (.func 6) [] [])) [(.t (sOf 50)), (.t (sOf 51))], none⟩,
  ⟨(some (sOf 49)), .pu (.mv (.t (sOf 52))), none⟩,
  ⟨(some (sOf 53)), .pu (.extr 0 (.t (sOf 49))), none⟩,
  ⟨(some (sOf 54)), .pu (.extr 1 (.t (sOf 49))), none⟩,
  ⟨(some (sOf 10)), .pu (.mv (.t (sOf 53))), none⟩,
  ⟨(some (sOf 11)), .pu (.mv (.t (sOf 54))), none⟩]) (
 .seq (.reg [⟨(some (sOf 55)), .pu (.mv (.t (sOf 8))), none⟩,
  ⟨(some (sOf 56)), .pu (.mv (.t (sOf 10))), none⟩,
  ⟨(some (sOf 57)), .call (.c (.fn (.func 7) [] [])) [(.t (sOf 55)), (.t (sOf 56))], none⟩,
  ⟨(some (sOf 58)), .pu (.mv (.t (sOf 57))), none⟩,
  ⟨(some (sOf 59)), .pu (.mv (.t (sOf 9))), (some ((sOf 58), true))⟩,
  ⟨(some (sOf 60)), .pu (.mv (.t (sOf 11))), (some ((sOf 58), true))⟩,
  ⟨(some (sOf 61)), .pu (.bin .eql .int (.t (sOf 59)) (.t (sOf 60))), (some ((sOf 58), true))⟩,
  ⟨(some (sOf 62)), .pu (.pick (.t (sOf 58)) (.t (sOf 61)) (.c (.bool false))), none⟩,
  ⟨(some (sOf 4)), .pu (.mv (.t (sOf 62))), none⟩]) (
 .ret)))))))) [.tmp (sOf 4)]
theorem F3_eq : (pg.funcs[3]?).bind (cFunc pg) = some F3 := by kernel_rfl
noncomputable def F5 : F := F.mk 75 (.seq (.reg [⟨(some (sOf 4)), .pu (.mv (.c (.snil))), none⟩,
  ⟨(some (sOf 5)), .pu (.mv (.c (.int .i64 (.ofNat 0)))), none⟩]) (
 .seq (.seq (.reg [⟨(some (sOf 13)), .pu (.mv (.t (sOf 0))), none⟩,
  ⟨(some (sOf 14)), .pu (.lenv false (.t (sOf 13))), none⟩,
  ⟨(some (sOf 15)), .pu (.bin .eql .int (.t (sOf 14)) (.c (.int .i64 (.ofNat 0)))), none⟩,
  ⟨(some (sOf 16)), .call (.c (.fn (.func 24) [] [])) [(.t (sOf 15)), (.c (.int .i64 (.ofNat 10)))], none⟩,
  ⟨(some (sOf 17)), .pu (.mv (.t (sOf 0))), none⟩,
  ⟨(some (sOf 18)), .pu (.lenv false (.t (sOf 17))), none⟩,
  ⟨(some (sOf 19)), .pu (.bin .gtr .int (.t (sOf 18)) (.c (.int .i64 (.ofNat 100)))), none⟩,
  ⟨(some (sOf 20)), .call (.c (.fn (.func 24) [] [])) [(.t (sOf 19)), (.c (.int .i64 (.ofNat 5)))], none⟩,
  ⟨(some (sOf 21)), .pu (.mv (.t (sOf 1))), none⟩,
  ⟨(some (sOf 22)), .pu (.lenv false (.t (sOf 21))), none⟩,
  ⟨(some (sOf 23)), .pu (.mv (.t (sOf 0))), none⟩,
  ⟨(some (sOf 24)), .pu (.lenv false (.t (sOf 23))), none⟩,
  ⟨(some (sOf 25)), .pu (.bin .sub .int (.t (sOf 24)) (.c (.int .i64 (.ofNat 1)))), none⟩,
  ⟨(some (sOf 26)), .pu (.bin .neq .int (.t (sOf 22)) (.t (sOf 25))), none⟩,
  ⟨(some (sOf 27)), .call (.c (.fn (.func 24) [] [])) [(.t (sOf 26)), (.c (.int .i64 (.ofNat 2)))], none⟩,
  ⟨(some (sOf 28)), .mk (.bslice 26 1 3 [.int .i64 (.ofNat 0)] [(0, 1, (.t (sOf 16))), (1, 1, (.t (sOf 20))), (2, 1, (.t (sOf 27)))]), none⟩,
  ⟨(some (sOf 29)), .call (.c (.fn (.func 23) [] [])) [(.t (sOf 28))], none⟩,
  ⟨(some (sOf 6)), .pu (.mv (.t (sOf 29))), none⟩]) (
 .seq (.reg [⟨(some (sOf 30)), .pu (.mv (.t (sOf 6))), none⟩,
  ⟨(some (sOf 31)), .pu (.bin .neq .int (.t (sOf 30)) (.c (.int .i64 (.ofNat 0)))), none⟩]) (
 .cond (.t (sOf 31)) (.seq (.reg [⟨(some (sOf 32)), .pu (.mv (.t (sOf 6))), none⟩,
  ⟨(some (sOf 4)), .pu (.mv (.c (.snil))), none⟩,
  ⟨(some (sOf 5)), .pu (.mv (.t (sOf 32))), none⟩]) (
 .ret)) (.skip)))) (
 .seq (.seq (.reg [⟨(some (sOf 33)), .pu (.mv (.t (sOf 0))), none⟩,
  ⟨(some (sOf 34)), .pu (.lenv false (.t (sOf 33))), none⟩,
  ⟨(some (sOf 35)), .pu (.mv (.c (.int .i64 (.ofNat 0)))), none⟩]) (
 .block 0 (.loop (.seq (.reg [⟨(some (sOf 36)), .pu (.bin .lss .int (.t (sOf 35)) (.t (sOf 34))), none⟩]) (
 .seq (.cond (.t (sOf 36)) (.skip) (.exit 0)) (
 .seq (.block 1 (.seq (.reg [⟨(some (sOf 37)), .pu (.iasl 1 (.t (sOf 33)) (.t (sOf 35))), none⟩,
  ⟨(some (sOf 38)), .rd (.load false 1 (.t (sOf 37))), none⟩,
  ⟨(some (sOf 8)), .pu (.mv (.t (sOf 38))), none⟩]) (
 .seq (.reg [⟨(some (sOf 39)), .pu (.mv (.t (sOf 8))), none⟩,
  ⟨(some (sOf 40)), .pu (.lenv false (.t (sOf 39))), none⟩,
  ⟨(some (sOf 41)), .pu (.bin .gtr .int (.t (sOf 40)) (.c (.int .i64 (.ofNat 100)))), none⟩,
  ⟨(some (sOf 42)), .call (.c (.fn (.func 24) [] [])) [(.t (sOf 41)), (.c (.int .i64 (.ofNat 5)))], none⟩,
  ⟨(some (sOf 43)), .pu (.mv (.t (sOf 8))), none⟩,
  ⟨(some (sOf 44)), .call (.c (.fn (.func 25) [] [])) [(.t (sOf 43)), (.c (.fn (.func 26) [] []))], none⟩,
  ⟨(some (sOf 45)), .call (.c (.fn (.func 24) [] [])) [(.t (sOf 44)), (.c (.int .i64 (.ofNat 3)))], none⟩,
  ⟨(some (sOf 46)), .pu (.mv (.t (sOf 8))), none⟩,
  ⟨(some (sOf 47)), .call (.c (.fn (.func 27) [] [])) [(.t (sOf 46))], none⟩,
  ⟨(some (sOf 48)), .pu (.un .not (.t (sOf 47))), none⟩,
  ⟨(some (sOf 49)), .call (.c (.fn (.func 24) [] [])) [(.t (sOf 48)), (.c (.int .i64 (.ofNat 9)))], none⟩,
  ⟨(some (sOf 50)), .mk (.bslice 26 1 3 [.int .i64 (.ofNat 0)] [(0, 1, (.t (sOf 42))), (1, 1, (.t (sOf 45))), (2, 1, (.t (sOf 49)))]), none⟩,
  ⟨(some (sOf 51)), .call (.c (.fn (.func 23) [] [])) [(.t (sOf 50))], none⟩,
  ⟨(some (sOf 9)), .pu (.mv (.t (sOf 51))), none⟩]) (
 .seq (.reg [⟨(some (sOf 52)), .pu (.mv (.t (sOf 9))), none⟩,
  ⟨(some (sOf 53)), .pu (.bin .neq .int (.t (sOf 52)) (.c (.int .i64 (.ofNat 0)))), none⟩]) (
 .cond (.t (sOf 53)) (.seq (.reg [⟨(some (sOf 54)), .pu (.mv (.t (sOf 9))), none⟩,
  ⟨(some (sOf 4)), .pu (.mv (.c (.snil))), none⟩,
  ⟨(some (sOf 5)), .pu (.mv (.t (sOf 54))), none⟩]) (
 .ret)) (.skip)))))) (
 .reg [⟨(some (sOf 55)), .pu (.bin .add .int (.t (sOf 35)) (.c (.int .i64 (.ofNat 1)))), none⟩,
  ⟨(some (sOf 35)), .pu (.mv (.t (sOf 55))), none⟩]))))))) (
 .seq (.reg [⟨(some (sOf 57)), .pu (.mv (.t (sOf 0))), none⟩,
  ⟨(some (sOf 58)), .pu (.mv (.t (sOf 1))), none⟩,
  ⟨(some (sOf 59)), .call (.c (.fn (.func 28) [] [])) [(.t (sOf 57)), (.t (sOf 58))], none⟩,
  ⟨(some (sOf 56)), .pu (.mv (.t (sOf 59))), none⟩,
  ⟨(some (sOf 60)), .pu (.extr 0 (.t (sOf 56))), none⟩,
  ⟨(some (sOf 61)), .pu (.extr 1 (.t (sOf 56))), none⟩,
  ⟨(some (sOf 10)), .pu (.mv (.t (sOf 60))), none⟩,
  ⟨(some (sOf 11)), .pu (.mv (.t (sOf 61))), none⟩]) (
 .seq (.seq (.reg [⟨(some (sOf 62)), .pu (.mv (.t (sOf 11))), none⟩,
  ⟨(some (sOf 63)), .pu (.un .not (.t (sOf 62))), none⟩,
  ⟨(some (sOf 64)), .call (.c (.fn (.func 24) [] [])) [(.t (sOf 63)), (.c (.int .i64 (.ofNat 29)))], none⟩,
  ⟨(some (sOf 65)), .pu (.mv (.t (sOf 10))), none⟩,
  ⟨(some (sOf 66)), .pu (.lenv false (.t (sOf 65))), none⟩,
  ⟨(some (sOf 67)), .pu (.bin .gtr .int (.t (sOf 66)) (.c (.int .i64 (.ofNat 100)))), none⟩,
  ⟨(some (sOf 68)), .call (.c (.fn (.func 24) [] [])) [(.t (sOf 67)), (.c (.int .i64 (.ofNat 5)))], none⟩,
  ⟨(some (sOf 69)), .mk (.bslice 26 1 2 [.int .i64 (.ofNat 0)] [(0, 1, (.t (sOf 64))), (1, 1, (.t (sOf 68)))]), none⟩,
  ⟨(some (sOf 70)), .call (.c (.fn (.func 23) [] [])) [(.t (sOf 69))], none⟩,
  ⟨(some (sOf 12)), .pu (.mv (.t (sOf 70))), none⟩]) (
 .seq (.reg [⟨(some (sOf 71)), .pu (.mv (.t (sOf 12))), none⟩,
  ⟨(some (sOf 72)), .pu (.bin .neq .int (.t (sOf 71)) (.c (.int .i64 (.ofNat 0)))), none⟩]) (
 .cond (.t (sOf 72)) (.seq (.reg [⟨(some (sOf 73)), .pu (.mv (.t (sOf 12))), none⟩,
  ⟨(some (sOf 4)), .pu (.mv (.c (.snil))), none⟩,
  ⟨(some (sOf 5)), .pu (.mv (.t (sOf 73))), none⟩]) (
 .ret)) (.skip)))) (
 .seq (.reg [⟨(some (sOf 74)), .pu (.mv (.t (sOf 10))), none⟩,
  ⟨(some (sOf 4)), .pu (.mv (.t (sOf 74))), none⟩,
  ⟨(some (sOf 5)), .pu (.mv (.c (.int .i64 (.ofNat 0)))), none⟩]) (
 .ret))))))) [.tmp (sOf 4), .tmp (sOf 5)]
theorem F5_eq : (pg.funcs[5]?).bind (cFunc pg) = some F5 := by kernel_rfl
noncomputable def F23 : F := F.mk 15 (.seq (.reg [⟨(some (sOf 2)), .pu (.mv (.c (.int .i64 (.ofNat 0)))), none⟩]) (
 .seq (.seq (.reg [⟨(some (sOf 5)), .pu (.mv (.t (sOf 0))), none⟩,
  ⟨(some (sOf 6)), .pu (.lenv false (.t (sOf 5))), none⟩,
  ⟨(some (sOf 7)), .pu (.mv (.c (.int .i64 (.ofNat 0)))), none⟩]) (
 .block 0 (.loop (.seq (.reg [⟨(some (sOf 8)), .pu (.bin .lss .int (.t (sOf 7)) (.t (sOf 6))), none⟩]) (
 .seq (.cond (.t (sOf 8)) (.skip) (.exit 0)) (
 .seq (.block 1 (.seq (.reg [⟨(some (sOf 9)), .pu (.iasl 1 (.t (sOf 5)) (.t (sOf 7))), none⟩,
  ⟨(some (sOf 10)), .rd (.load false 1 (.t (sOf 9))), none⟩,
  ⟨(some (sOf 4)), .pu (.mv (.t (sOf 10))), none⟩]) (
 .seq (.reg [⟨(some (sOf 11)), .pu (.mv (.t (sOf 4))), none⟩,
  ⟨(some (sOf 12)), .pu (.bin .neq .int (.t (sOf 11)) (.c (.int .i64 (.ofNat 0)))), none⟩]) (
 .cond (.t (sOf 12)) (.seq (.reg [⟨(some (sOf 13)), .pu (.mv (.t (sOf 4))), none⟩,
  ⟨(some (sOf 2)), .pu (.mv (.t (sOf 13))), none⟩]) (
 .ret)) (.skip))))) (
 .reg [⟨(some (sOf 14)), .pu (.bin .add .int (.t (sOf 7)) (.c (.int .i64 (.ofNat 1)))), none⟩,
  ⟨(some (sOf 7)), .pu (.mv (.t (sOf 14))), none⟩]))))))) (
 .seq (.reg [⟨(some (sOf 2)), .pu (.mv (.c (.int .i64 (.ofNat 0)))), none⟩]) (
 .ret)))) [.tmp (sOf 2)]
theorem F23_eq : (pg.funcs[23]?).bind (cFunc pg) = some F23 := by kernel_rfl
noncomputable def F24 : F := F.mk 7 (.seq (.reg [⟨(some (sOf 4)), .pu (.mv (.c (.int .i64 (.ofNat 0)))), none⟩]) (
 .seq (.seq (.reg [⟨(some (sOf 5)), .pu (.mv (.t (sOf 0))), none⟩]) (
 .cond (.t (sOf 5)) (.seq (.reg [⟨(some (sOf 6)), .pu (.mv (.t (sOf 1))), none⟩,
  ⟨(some (sOf 4)), .pu (.mv (.t (sOf 6))), none⟩]) (
 .ret)) (.skip))) (
 .seq (.reg [⟨(some (sOf 4)), .pu (.mv (.c (.int .i64 (.ofNat 0)))), none⟩]) (
 .ret)))) [.tmp (sOf 4)]
theorem F24_eq : (pg.funcs[24]?).bind (cFunc pg) = some F24 := by kernel_rfl
noncomputable def F25 : F := F.mk 9 (.seq (.reg [⟨(some (sOf 4)), .pu (.mv (.c (.bool false))), none⟩]) (
 .seq (.reg [⟨(some (sOf 5)), .pu (.mv (.t (sOf 0))), none⟩,
  ⟨(some (sOf 6)), .pu (.mv (.t (sOf 1))), none⟩,
  ⟨(some (sOf 7)), .call (.c (.fn (.func 76) [] [])) [(.t (sOf 5)), (.t (sOf 6))], none⟩,
  ⟨(some (sOf 8)), .pu (.bin .geq .int (.t (sOf 7)) (.c (.int .i64 (.ofNat 0)))), none⟩,
  ⟨(some (sOf 4)), .pu (.mv (.t (sOf 8))), none⟩]) (
 .ret))) [.tmp (sOf 4)]
theorem F25_eq : (pg.funcs[25]?).bind (cFunc pg) = some F25 := by kernel_rfl
noncomputable def F26 : F := F.mk 6 (.seq (.reg [⟨(some (sOf 1)), .mk (.box 54 2 (.t (sOf 0))), none⟩,
  ⟨(some (sOf 2)), .pu (.mv (.c (.bool false))), none⟩]) (
 .seq (.reg [⟨(some (sOf 3)), .pu (.faddr 0 1 (.t (sOf 1))), none⟩,
  ⟨(some (sOf 4)), .rd (.load false 1 (.t (sOf 3))), none⟩,
  ⟨(some (sOf 5)), .pu (.bin .lss .int (.t (sOf 4)) (.c (.int .i64 (.ofNat 0)))), none⟩,
  ⟨(some (sOf 2)), .pu (.mv (.t (sOf 5))), none⟩]) (
 .ret))) [.tmp (sOf 2)]
theorem F26_eq : (pg.funcs[26]?).bind (cFunc pg) = some F26 := by kernel_rfl
noncomputable def F27 : F := F.mk 21 (.seq (.reg [⟨(some (sOf 2)), .pu (.mv (.c (.bool false))), none⟩]) (
 .seq (.seq (.reg [⟨(some (sOf 3)), .pu (.mv (.c (.int .i64 (.ofNat 1)))), none⟩]) (
 .block 0 (.loop (.seq (.seq (.reg [⟨(some (sOf 4)), .pu (.mv (.t (sOf 3))), none⟩,
  ⟨(some (sOf 5)), .pu (.mv (.t (sOf 0))), none⟩,
  ⟨(some (sOf 6)), .pu (.lenv false (.t (sOf 5))), none⟩,
  ⟨(some (sOf 7)), .pu (.bin .lss .int (.t (sOf 4)) (.t (sOf 6))), none⟩]) (
 .cond (.t (sOf 7)) (.skip) (.exit 0))) (
 .seq (.block 1 (.seq (.dreg [(⟨(some (sOf 10)), .pu (.mv (.t (sOf 0))), none⟩, []),
  (⟨(some (sOf 11)), .pu (.mv (.t (sOf 3))), none⟩, []),
  (⟨(some (sOf 12)), .pu (.bin .sub .int (.t (sOf 11)) (.c (.int .i64 (.ofNat 1)))), none⟩, []),
  (⟨(some (sOf 13)), .pu (.iasl 2 (.t (sOf 10)) (.t (sOf 12))), none⟩, []),
  (⟨(some (sOf 14)), .rd (.load true 2 (.t (sOf 13))), none⟩, []),
  (⟨(some (sOf 15)), .pu (.mv (.t (sOf 0))), none⟩, []),
  (⟨(some (sOf 16)), .pu (.mv (.t (sOf 3))), none⟩, []),
  (⟨(some (sOf 17)), .pu (.iasl 2 (.t (sOf 15)) (.t (sOf 16))), none⟩, []),
  (⟨(some (sOf 18)), .rd (.load true 2 (.t (sOf 17))), none⟩, []),
  (⟨(some (sOf 19)), .call (.c (.fn (.func 77) [] [])) [(.t (sOf 14)), (.t (sOf 18))], none⟩, []),
  (⟨(some (sOf 20)), .pu (.bin .geq .int (.t (sOf 19)) (.c (.int .i64 (.ofNat 0)))), none⟩, [])]) (
 .cond (.t (sOf 20)) (.seq (.reg [⟨(some (sOf 2)), .pu (.mv (.c (.bool false))), none⟩]) (
 .ret)) (.skip)))) (
 .reg [⟨(some (sOf 8)), .pu (.mv (.t (sOf 3))), none⟩,
  ⟨(some (sOf 9)), .pu (.bin .add .int (.t (sOf 8)) (.c (.int .i64 (.ofNat 1)))), none⟩,
  ⟨(some (sOf 3)), .pu (.mv (.t (sOf 9))), none⟩])))))) (
 .seq (.reg [⟨(some (sOf 2)), .pu (.mv (.c (.bool true))), none⟩]) (
 .ret)))) [.tmp (sOf 2)]
theorem F27_eq : (pg.funcs[27]?).bind (cFunc pg) = some F27 := by kernel_rfl
noncomputable def A28 : C := (.seq (.reg [⟨(some (sOf 33)), .pu (.mv (.t (sOf 6))), none⟩,
  ⟨(some (sOf 34)), .rd (.load true 2 (.t (sOf 10))), none⟩,
  ⟨(some (sOf 35)), .call (.c (.fn (.func 79) [] [])) [(.t (sOf 33)), (.t (sOf 34))], none⟩,
  ⟨(some (sOf 36)), .pu (.un .not (.t (sOf 35))), none⟩,
  ⟨(some (sOf 37)), .pu (.mv (.t (sOf 36))), none⟩,
  ⟨(some (sOf 38)), .pu (.mv (.t (sOf 9))), (some ((sOf 37), false))⟩,
  ⟨(some (sOf 39)), .rd (.load true 2 (.t (sOf 11))), (some ((sOf 37), false))⟩,
  ⟨(some (sOf 40)), .call (.c (.fn (.func 79) [] [])) [(.t (sOf 38)), (.t (sOf 39))], (some ((sOf 37), false))⟩,
  ⟨(some (sOf 41)), .pu (.un .not (.t (sOf 40))), (some ((sOf 37), false))⟩,
  ⟨(some (sOf 42)), .pu (.pick (.t (sOf 37)) (.c (.bool true)) (.t (sOf 41))), none⟩]) (
 .cond (.t (sOf 42)) (.reg [⟨(some (sOf 43)), .rd (.load true 2 (.t (sOf 11))), none⟩,
  ⟨(some (sOf 44)), .rd (.load true 2 (.t (sOf 10))), none⟩,
  ⟨none, .wr (.store 2 (.t (sOf 10)) (.t (sOf 43))), none⟩,
  ⟨none, .wr (.store 2 (.t (sOf 11)) (.t (sOf 44))), none⟩]) (.skip)))
noncomputable def B28 : C := (.seq (.reg [⟨(some (sOf 45)), .pu (.mv (.t (sOf 6))), none⟩,
  ⟨(some (sOf 46)), .rd (.load true 2 (.t (sOf 10))), none⟩,
  ⟨(some (sOf 47)), .call (.c (.fn (.func 79) [] [])) [(.t (sOf 45)), (.t (sOf 46))], none⟩,
  ⟨(some (sOf 48)), .pu (.un .not (.t (sOf 47))), none⟩,
  ⟨(some (sOf 49)), .pu (.mv (.t (sOf 48))), none⟩,
  ⟨(some (sOf 50)), .pu (.mv (.t (sOf 9))), (some ((sOf 49), false))⟩,
  ⟨(some (sOf 51)), .rd (.load true 2 (.t (sOf 11))), (some ((sOf 49), false))⟩,
  ⟨(some (sOf 52)), .call (.c (.fn (.func 79) [] [])) [(.t (sOf 50)), (.t (sOf 51))], (some ((sOf 49), false))⟩,
  ⟨(some (sOf 53)), .pu (.un .not (.t (sOf 52))), (some ((sOf 49), false))⟩,
  ⟨(some (sOf 54)), .pu (.pick (.t (sOf 49)) (.c (.bool true)) (.t (sOf 53))), none⟩]) (
 .cond (.t (sOf 54)) (.seq (.reg [⟨(some (sOf 4)), .pu (.mv (.c (.snil))), none⟩,
  ⟨(some (sOf 5)), .pu (.mv (.c (.bool false))), none⟩]) (
 .ret)) (.skip)))
noncomputable def T28 : C := (
 .seq (.reg [⟨(some (sOf 55)), .pu (.mv (.t (sOf 9))), none⟩,
  ⟨(some (sOf 56)), .call (.c (.fn (.func 78) [] [])) [(.t (sOf 55))], none⟩,
  ⟨(some (sOf 57)), .pu (.mkf (.func 81) [] [(.t (sOf 11))]), none⟩,
  ⟨(some (sOf 58)), .call (.c (.fn (.func 80) [] [])) [(.t (sOf 56)), (.t (sOf 57))], none⟩,
  ⟨(some (sOf 12)), .pu (.mv (.t (sOf 58))), none⟩]) (
 .reg [⟨(some (sOf 59)), .pu (.mv (.t (sOf 6))), none⟩,
  ⟨(some (sOf 60)), .pu (.mkf (.func 83) [] [(.t (sOf 10))]), none⟩,
  ⟨(some (sOf 61)), .call (.c (.fn (.func 80) [] [])) [(.t (sOf 59)), (.t (sOf 60))], none⟩,
  ⟨(some (sOf 62)), .pu (.mv (.t (sOf 12))), none⟩,
  ⟨(some (sOf 63)), .wr (.app 54 2 16 (.t (sOf 61)) (.t (sOf 62))), none⟩,
  ⟨(some (sOf 64)), .call (.c (.fn (.func 82) [] [])) [(.t (sOf 63))], none⟩,
  ⟨(some (sOf 6)), .pu (.mv (.t (sOf 64))), none⟩]))
noncomputable def F28 : F := F.mk 67 (.seq (.reg [⟨(some (sOf 4)), .pu (.mv (.c (.snil))), none⟩,
  ⟨(some (sOf 5)), .pu (.mv (.c (.bool false))), none⟩]) (
 .seq (.reg [⟨(some (sOf 13)), .pu (.mv (.t (sOf 0))), none⟩,
  ⟨(some (sOf 14)), .pu (.iasl 1 (.t (sOf 13)) (.c (.int .i64 (.ofNat 0)))), none⟩,
  ⟨(some (sOf 15)), .rd (.load false 1 (.t (sOf 14))), none⟩,
  ⟨(some (sOf 16)), .call (.c (.fn (.func 78) [] [])) [(.t (sOf 15))], none⟩,
  ⟨(some (sOf 6)), .pu (.mv (.t (sOf 16))), none⟩]) (
 .seq (.seq (.reg [⟨(some (sOf 17)), .pu (.mv (.t (sOf 1))), none⟩,
  ⟨(some (sOf 18)), .pu (.lenv false (.t (sOf 17))), none⟩,
  ⟨(some (sOf 19)), .pu (.mv (.c (.int .i64 (.ofNat 0)))), none⟩]) (
 .block 0 (.loop (.seq (.reg [⟨(some (sOf 20)), .pu (.bin .lss .int (.t (sOf 19)) (.t (sOf 18))), none⟩]) (
 .seq (.cond (.t (sOf 20)) (.skip) (.exit 0)) (
 .seq (.block 1 (.seq (.reg [⟨(some (sOf 21)), .pu (.mv (.t (sOf 19))), none⟩,
  ⟨(some (sOf 22)), .pu (.iasl 1 (.t (sOf 17)) (.t (sOf 19))), none⟩,
  ⟨(some (sOf 23)), .rd (.load false 1 (.t (sOf 22))), none⟩,
  ⟨(some (sOf 7)), .pu (.mv (.t (sOf 21))), none⟩,
  ⟨(some (sOf 8)), .pu (.mv (.t (sOf 23))), none⟩]) (
 .seq (.reg [⟨(some (sOf 24)), .pu (.mv (.t (sOf 0))), none⟩,
  ⟨(some (sOf 25)), .pu (.mv (.t (sOf 7))), none⟩,
  ⟨(some (sOf 26)), .pu (.bin .add .int (.t (sOf 25)) (.c (.int .i64 (.ofNat 1)))), none⟩,
  ⟨(some (sOf 27)), .pu (.iasl 1 (.t (sOf 24)) (.t (sOf 26))), none⟩,
  ⟨(some (sOf 28)), .rd (.load false 1 (.t (sOf 27))), none⟩,
  ⟨(some (sOf 9)), .pu (.mv (.t (sOf 28))), none⟩]) (
 .seq (.reg [⟨(some (sOf 29)), .pu (.mv (.t (sOf 8))), none⟩,
  ⟨(some (sOf 30)), .pu (.build [.int .i64 (.ofNat 0), .bool false] [(0, 1, (.t (sOf 29)))]), none⟩,
  ⟨(some (sOf 31)), .pu (.mv (.t (sOf 8))), none⟩,
  ⟨(some (sOf 32)), .pu (.build [.int .i64 (.ofNat 0), .bool false] [(0, 1, (.t (sOf 31))), (1, 1, (.c (.bool true)))]), none⟩,
  ⟨(some (sOf 10)), .mk (.alloc 54 [.int .i64 (.ofNat 0), .bool false]), none⟩,
  ⟨(some (sOf 11)), .mk (.alloc 54 [.int .i64 (.ofNat 0), .bool false]), none⟩,
  ⟨none, .wr (.store 2 (.t (sOf 10)) (.t (sOf 30))), none⟩,
  ⟨none, .wr (.store 2 (.t (sOf 11)) (.t (sOf 32))), none⟩]) (
 .seq A28 (
 .seq B28 T28)))))) (
 .reg [⟨(some (sOf 65)), .pu (.bin .add .int (.t (sOf 19)) (.c (.int .i64 (.ofNat 1)))), none⟩,
  ⟨(some (sOf 19)), .pu (.mv (.t (sOf 65))), none⟩]))))))) (
 .seq (.reg [⟨(some (sOf 66)), .pu (.mv (.t (sOf 6))), none⟩,
  ⟨(some (sOf 4)), .pu (.mv (.t (sOf 66))), none⟩,
  ⟨(some (sOf 5)), .pu (.mv (.c (.bool true))), none⟩]) (
 .ret))))) [.tmp (sOf 4), .tmp (sOf 5)]
theorem F28_eq : (pg.funcs[28]?).bind (cFunc pg) = some F28 := by kernel_rfl
noncomputable def F76 : F := F.mk 19 (.seq (.reg [⟨(some (sOf 4)), .pu (.mv (.c (.int .i64 (.ofNat 0)))), none⟩]) (
 .seq (.seq (.reg [⟨(some (sOf 6)), .pu (.mv (.t (sOf 0))), none⟩,
  ⟨(some (sOf 7)), .pu (.lenv false (.t (sOf 6))), none⟩,
  ⟨(some (sOf 8)), .pu (.mv (.c (.int .i64 (.ofNat 0)))), none⟩]) (
 .block 0 (.loop (.seq (.reg [⟨(some (sOf 9)), .pu (.bin .lss .int (.t (sOf 8)) (.t (sOf 7))), none⟩]) (
 .seq (.cond (.t (sOf 9)) (.skip) (.exit 0)) (
 .seq (.block 1 (.seq (.reg [⟨(some (sOf 10)), .pu (.mv (.t (sOf 8))), none⟩,
  ⟨(some (sOf 5)), .pu (.mv (.t (sOf 10))), none⟩]) (
 .seq (.reg [⟨(some (sOf 11)), .pu (.mv (.t (sOf 1))), none⟩,
  ⟨(some (sOf 12)), .pu (.mv (.t (sOf 0))), none⟩,
  ⟨(some (sOf 13)), .pu (.mv (.t (sOf 5))), none⟩,
  ⟨(some (sOf 14)), .pu (.iasl 2 (.t (sOf 12)) (.t (sOf 13))), none⟩,
  ⟨(some (sOf 15)), .rd (.load true 2 (.t (sOf 14))), none⟩,
  ⟨(some (sOf 16)), .call (.t (sOf 11)) [(.t (sOf 15))], none⟩]) (
 .cond (.t (sOf 16)) (.seq (.reg [⟨(some (sOf 17)), .pu (.mv (.t (sOf 5))), none⟩,
  ⟨(some (sOf 4)), .pu (.mv (.t (sOf 17))), none⟩]) (
 .ret)) (.skip))))) (
 .reg [⟨(some (sOf 18)), .pu (.bin .add .int (.t (sOf 8)) (.c (.int .i64 (.ofNat 1)))), none⟩,
  ⟨(some (sOf 8)), .pu (.mv (.t (sOf 18))), none⟩]))))))) (
 .seq (.reg [⟨(some (sOf 4)), .pu (.mv (.c (.int .i64 (.negSucc 0)))), none⟩]) (
 .ret)))) [.tmp (sOf 4)]
theorem F76_eq : (pg.funcs[76]?).bind (cFunc pg) = some F76 := by kernel_rfl
noncomputable def F77 : F := F.mk 22 (.seq (.reg [⟨(some (sOf 2)), .mk (.box 54 2 (.t (sOf 0))), none⟩,
  ⟨(some (sOf 3)), .mk (.box 54 2 (.t (sOf 1))), none⟩,
  ⟨(some (sOf 4)), .pu (.mv (.c (.int .i64 (.ofNat 0)))), none⟩]) (
 .seq (.seq (.reg [⟨(some (sOf 5)), .pu (.faddr 0 1 (.t (sOf 2))), none⟩,
  ⟨(some (sOf 6)), .rd (.load false 1 (.t (sOf 5))), none⟩,
  ⟨(some (sOf 7)), .pu (.faddr 0 1 (.t (sOf 3))), none⟩,
  ⟨(some (sOf 8)), .rd (.load false 1 (.t (sOf 7))), none⟩,
  ⟨(some (sOf 9)), .pu (.bin .neq .int (.t (sOf 6)) (.t (sOf 8))), none⟩]) (
 .cond (.t (sOf 9)) (.seq (.reg [⟨(some (sOf 10)), .pu (.faddr 0 1 (.t (sOf 2))), none⟩,
  ⟨(some (sOf 11)), .rd (.load false 1 (.t (sOf 10))), none⟩,
  ⟨(some (sOf 12)), .pu (.faddr 0 1 (.t (sOf 3))), none⟩,
  ⟨(some (sOf 13)), .rd (.load false 1 (.t (sOf 12))), none⟩,
  ⟨(some (sOf 14)), .call (.c (.fn (.func 185) [] [])) [(.t (sOf 11)), (.t (sOf 13))], none⟩,
  ⟨(some (sOf 4)), .pu (.mv (.t (sOf 14))), none⟩]) (
 .ret)) (.skip))) (
 .seq (.block 0 (.seq (.reg [⟨(some (sOf 16)), .rd (.load true 2 (.t (sOf 2))), none⟩,
  ⟨(some (sOf 17)), .rd (.load true 2 (.t (sOf 3))), none⟩,
  ⟨(some (sOf 18)), .pu (.bin .eql (.agg [.li, .lb]) (.t (sOf 16)) (.t (sOf 17))), none⟩,
  ⟨(some (sOf 15)), .pu (.mv (.t (sOf 18))), none⟩]) (
 .cond (.t (sOf 15)) (.seq (.reg [⟨(some (sOf 4)), .pu (.mv (.c (.int .i64 (.ofNat 0)))), none⟩]) (
 .ret)) (.seq (.reg [⟨(some (sOf 20)), .pu (.faddr 1 1 (.t (sOf 3))), none⟩,
  ⟨(some (sOf 21)), .rd (.load false 1 (.t (sOf 20))), none⟩,
  ⟨(some (sOf 19)), .pu (.mv (.t (sOf 21))), none⟩]) (
 .cond (.t (sOf 19)) (.seq (.reg [⟨(some (sOf 4)), .pu (.mv (.c (.int .i64 (.negSucc 0)))), none⟩]) (
 .ret)) (.skip)))))) (
 .seq (.reg [⟨(some (sOf 4)), .pu (.mv (.c (.int .i64 (.ofNat 1)))), none⟩]) (
 .ret))))) [.tmp (sOf 4)]
theorem F77_eq : (pg.funcs[77]?).bind (cFunc pg) = some F77 := by kernel_rfl
noncomputable def F78 : F := F.mk 8 (.seq (.reg [⟨(some (sOf 2)), .pu (.mv (.c (.snil))), none⟩]) (
 .seq (.seq (.reg [⟨(some (sOf 3)), .pu (.mv (.t (sOf 0))), none⟩,
  ⟨(some (sOf 4)), .pu (.bin .eql .sl (.t (sOf 3)) (.c (.snil))), none⟩]) (
 .cond (.t (sOf 4)) (.seq (.reg [⟨(some (sOf 2)), .pu (.mv (.c (.snil))), none⟩]) (
 .ret)) (.skip))) (
 .seq (.reg [⟨(some (sOf 5)), .mk (.bslice 54 2 0 [.int .i64 (.ofNat 0), .bool false] []), none⟩,
  ⟨(some (sOf 6)), .pu (.mv (.t (sOf 0))), none⟩,
  ⟨(some (sOf 7)), .wr (.app 54 2 16 (.t (sOf 5)) (.t (sOf 6))), none⟩,
  ⟨(some (sOf 2)), .pu (.mv (.t (sOf 7))), none⟩]) (
 .ret)))) [.tmp (sOf 2)]
theorem F78_eq : (pg.funcs[78]?).bind (cFunc pg) = some F78 := by kernel_rfl
noncomputable def F79 : F := F.mk 9 (.seq (.reg [⟨(some (sOf 3)), .mk (.box 54 2 (.t (sOf 1))), none⟩,
  ⟨(some (sOf 4)), .pu (.mv (.c (.bool false))), none⟩]) (
 .seq (.reg [⟨(some (sOf 5)), .pu (.mv (.t (sOf 0))), none⟩,
  ⟨(some (sOf 6)), .rd (.load true 2 (.t (sOf 3))), none⟩,
  ⟨(some (sOf 7)), .call (.c (.fn (.func 186) [] [])) [(.t (sOf 5)), (.t (sOf 6))], none⟩,
  ⟨(some (sOf 8)), .pu (.bin .geq .int (.t (sOf 7)) (.c (.int .i64 (.ofNat 0)))), none⟩,
  ⟨(some (sOf 4)), .pu (.mv (.t (sOf 8))), none⟩]) (
 .ret))) [.tmp (sOf 4)]
theorem F79_eq : (pg.funcs[79]?).bind (cFunc pg) = some F79 := by kernel_rfl
noncomputable def F80 : F := F.mk 42 (.seq (.reg [⟨(some (sOf 4)), .pu (.mv (.c (.snil))), none⟩]) (
 .seq (.reg [⟨(some (sOf 8)), .pu (.mv (.t (sOf 0))), none⟩,
  ⟨(some (sOf 9)), .pu (.mv (.t (sOf 1))), none⟩,
  ⟨(some (sOf 10)), .call (.c (.fn (.func 76) [] [])) [(.t (sOf 8)), (.t (sOf 9))], none⟩,
  ⟨(some (sOf 5)), .pu (.mv (.t (sOf 10))), none⟩]) (
 .seq (.seq (.reg [⟨(some (sOf 11)), .pu (.mv (.t (sOf 5))), none⟩,
  ⟨(some (sOf 12)), .pu (.bin .eql .int (.t (sOf 11)) (.c (.int .i64 (.negSucc 0)))), none⟩]) (
 .cond (.t (sOf 12)) (.seq (.reg [⟨(some (sOf 13)), .pu (.mv (.t (sOf 0))), none⟩,
  ⟨(some (sOf 4)), .pu (.mv (.t (sOf 13))), none⟩]) (
 .ret)) (.skip))) (
 .seq (.seq (.reg [⟨(some (sOf 14)), .pu (.mv (.t (sOf 5))), none⟩,
  ⟨(some (sOf 15)), .pu (.bin .add .int (.t (sOf 14)) (.c (.int .i64 (.ofNat 1)))), none⟩,
  ⟨(some (sOf 6)), .pu (.mv (.t (sOf 15))), none⟩]) (
 .block 0 (.loop (.seq (.seq (.reg [⟨(some (sOf 16)), .pu (.mv (.t (sOf 6))), none⟩,
  ⟨(some (sOf 17)), .pu (.mv (.t (sOf 0))), none⟩,
  ⟨(some (sOf 18)), .pu (.lenv false (.t (sOf 17))), none⟩,
  ⟨(some (sOf 19)), .pu (.bin .lss .int (.t (sOf 16)) (.t (sOf 18))), none⟩]) (
 .cond (.t (sOf 19)) (.skip) (.exit 0))) (
 .seq (.block 1 (.seq (.reg [⟨(some (sOf 22)), .pu (.mv (.t (sOf 0))), none⟩,
  ⟨(some (sOf 23)), .pu (.mv (.t (sOf 6))), none⟩,
  ⟨(some (sOf 24)), .pu (.iasl 2 (.t (sOf 22)) (.t (sOf 23))), none⟩,
  ⟨(some (sOf 25)), .rd (.load true 2 (.t (sOf 24))), none⟩,
  ⟨(some (sOf 7)), .mk (.alloc 54 [.int .i64 (.ofNat 0), .bool false]), none⟩,
  ⟨none, .wr (.store 2 (.t (sOf 7)) (.t (sOf 25))), none⟩]) (
 .seq (.reg [⟨(some (sOf 26)), .pu (.mv (.t (sOf 1))), none⟩,
  ⟨(some (sOf 27)), .rd (.load true 2 (.t (sOf 7))), none⟩,
  ⟨(some (sOf 28)), .call (.t (sOf 26)) [(.t (sOf 27))], none⟩,
  ⟨(some (sOf 29)), .pu (.un .not (.t (sOf 28))), none⟩]) (
 .cond (.t (sOf 29)) (.seq (.reg [⟨(some (sOf 30)), .pu (.mv (.t (sOf 0))), none⟩,
  ⟨(some (sOf 31)), .pu (.mv (.t (sOf 5))), none⟩,
  ⟨(some (sOf 32)), .rd (.load true 2 (.t (sOf 7))), none⟩,
  ⟨(some (sOf 33)), .pu (.iasl 2 (.t (sOf 30)) (.t (sOf 31))), none⟩,
  ⟨none, .wr (.store 2 (.t (sOf 33)) (.t (sOf 32))), none⟩]) (
 .reg [⟨(some (sOf 34)), .pu (.mv (.t (sOf 5))), none⟩,
  ⟨(some (sOf 35)), .pu (.bin .add .int (.t (sOf 34)) (.c (.int .i64 (.ofNat 1)))), none⟩,
  ⟨(some (sOf 5)), .pu (.mv (.t (sOf 35))), none⟩])) (.skip))))) (
 .reg [⟨(some (sOf 20)), .pu (.mv (.t (sOf 6))), none⟩,
  ⟨(some (sOf 21)), .pu (.bin .add .int (.t (sOf 20)) (.c (.int .i64 (.ofNat 1)))), none⟩,
  ⟨(some (sOf 6)), .pu (.mv (.t (sOf 21))), none⟩])))))) (
 .seq (.reg [⟨(some (sOf 36)), .pu (.mv (.t (sOf 0))), none⟩,
  ⟨(some (sOf 37)), .pu (.mv (.t (sOf 5))), none⟩,
  ⟨(some (sOf 38)), .pu (.slsl 2 (.t (sOf 36)) (some (.t (sOf 37))) none none), none⟩,
  ⟨none, .wr (.clrs 2 [.int .i64 (.ofNat 0), .bool false] (.t (sOf 38))), none⟩]) (
 .seq (.reg [⟨(some (sOf 39)), .pu (.mv (.t (sOf 0))), none⟩,
  ⟨(some (sOf 40)), .pu (.mv (.t (sOf 5))), none⟩,
  ⟨(some (sOf 41)), .pu (.slsl 2 (.t (sOf 39)) none (some (.t (sOf 40))) none), none⟩,
  ⟨(some (sOf 4)), .pu (.mv (.t (sOf 41))), none⟩]) (
 .ret))))))) [.tmp (sOf 4)]
theorem F80_eq : (pg.funcs[80]?).bind (cFunc pg) = some F80 := by kernel_rfl
noncomputable def F81 : F := F.mk 7 (.seq (.reg [⟨(some (sOf 2)), .mk (.box 54 2 (.t (sOf 0))), none⟩,
  ⟨(some (sOf 3)), .pu (.mv (.c (.bool false))), none⟩]) (
 .seq (.reg [⟨(some (sOf 4)), .rd (.load true 2 (.t (sOf 2))), none⟩,
  ⟨(some (sOf 5)), .rd (.load true 2 (.t (sOf 1))), none⟩,
  ⟨(some (sOf 6)), .pu (.bin .eql (.agg [.li, .lb]) (.t (sOf 4)) (.t (sOf 5))), none⟩,
  ⟨(some (sOf 3)), .pu (.mv (.t (sOf 6))), none⟩]) (
 .ret))) [.tmp (sOf 3)]
theorem F81_eq : (pg.funcs[81]?).bind (cFunc pg) = some F81 := by kernel_rfl
noncomputable def F82 : F := F.mk 14 (.seq (.reg [⟨(some (sOf 2)), .pu (.mv (.c (.snil))), none⟩]) (
 .seq (.reg [⟨(some (sOf 4)), .pu (.mv (.t (sOf 0))), none⟩,
  ⟨(some (sOf 5)), .pu (.lenv false (.t (sOf 4))), none⟩,
  ⟨(some (sOf 6)), .mk (.mksl 54 2 16 [.int .i64 (.ofNat 0), .bool false] (.t (sOf 5)) (.t (sOf 5))), none⟩,
  ⟨(some (sOf 3)), .pu (.mv (.t (sOf 6))), none⟩]) (
 .seq (.reg [⟨(some (sOf 7)), .pu (.mv (.t (sOf 3))), none⟩,
  ⟨(some (sOf 8)), .pu (.mv (.t (sOf 0))), none⟩,
  ⟨(some (sOf 9)), .wr (.copy 2 (.t (sOf 7)) (.t (sOf 8))), none⟩]) (
 .seq (.reg [⟨(some (sOf 10)), .pu (.mv (.t (sOf 3))), none⟩,
  ⟨(some (sOf 11)), .call (.c (.fn (.func 187) [] [])) [(.t (sOf 10)), (.c (.fn (.func 77) [] []))], none⟩]) (
 .seq (.reg [⟨(some (sOf 12)), .pu (.mv (.t (sOf 3))), none⟩,
  ⟨(some (sOf 13)), .call (.c (.fn (.func 188) [] [])) [(.t (sOf 12))], none⟩,
  ⟨(some (sOf 2)), .pu (.mv (.t (sOf 13))), none⟩]) (
 .ret)))))) [.tmp (sOf 2)]
theorem F82_eq : (pg.funcs[82]?).bind (cFunc pg) = some F82 := by kernel_rfl
noncomputable def F83 : F := F.mk 7 (.seq (.reg [⟨(some (sOf 2)), .mk (.box 54 2 (.t (sOf 0))), none⟩,
  ⟨(some (sOf 3)), .pu (.mv (.c (.bool false))), none⟩]) (
 .seq (.reg [⟨(some (sOf 4)), .rd (.load true 2 (.t (sOf 2))), none⟩,
  ⟨(some (sOf 5)), .rd (.load true 2 (.t (sOf 1))), none⟩,
  ⟨(some (sOf 6)), .pu (.bin .eql (.agg [.li, .lb]) (.t (sOf 4)) (.t (sOf 5))), none⟩,
  ⟨(some (sOf 3)), .pu (.mv (.t (sOf 6))), none⟩]) (
 .ret))) [.tmp (sOf 3)]
theorem F83_eq : (pg.funcs[83]?).bind (cFunc pg) = some F83 := by kernel_rfl
noncomputable def F185 : F := F.mk 20 (.seq (.reg [⟨(some (sOf 4)), .pu (.mv (.c (.int .i64 (.ofNat 0)))), none⟩]) (
 .seq (.reg [⟨(some (sOf 7)), .pu (.mv (.t (sOf 0))), none⟩,
  ⟨(some (sOf 8)), .call (.c (.fn (.func 303) [] [])) [(.t (sOf 7))], none⟩,
  ⟨(some (sOf 5)), .pu (.mv (.t (sOf 8))), none⟩]) (
 .seq (.reg [⟨(some (sOf 9)), .pu (.mv (.t (sOf 1))), none⟩,
  ⟨(some (sOf 10)), .call (.c (.fn (.func 303) [] [])) [(.t (sOf 9))], none⟩,
  ⟨(some (sOf 6)), .pu (.mv (.t (sOf 10))), none⟩]) (
 .seq (.seq (.reg [⟨(some (sOf 11)), .pu (.mv (.t (sOf 5))), none⟩]) (
 .cond (.t (sOf 11)) (.seq (.seq (.reg [⟨(some (sOf 12)), .pu (.mv (.t (sOf 6))), none⟩]) (
 .cond (.t (sOf 12)) (.seq (.reg [⟨(some (sOf 4)), .pu (.mv (.c (.int .i64 (.ofNat 0)))), none⟩]) (
 .ret)) (.skip))) (
 .seq (.reg [⟨(some (sOf 4)), .pu (.mv (.c (.int .i64 (.negSucc 0)))), none⟩]) (
 .ret))) (.skip))) (
 .seq (.seq (.reg [⟨(some (sOf 13)), .pu (.mv (.t (sOf 6))), none⟩]) (
 .cond (.t (sOf 13)) (.seq (.reg [⟨(some (sOf 4)), .pu (.mv (.c (.int .i64 (.ofNat 1)))), none⟩]) (
 .ret)) (.skip))) (
 .seq (.seq (.reg [⟨(some (sOf 14)), .pu (.mv (.t (sOf 0))), none⟩,
  ⟨(some (sOf 15)), .pu (.mv (.t (sOf 1))), none⟩,
  ⟨(some (sOf 16)), .pu (.bin .lss .int (.t (sOf 14)) (.t (sOf 15))), none⟩]) (
 .cond (.t (sOf 16)) (.seq (.reg [⟨(some (sOf 4)), .pu (.mv (.c (.int .i64 (.negSucc 0)))), none⟩]) (
 .ret)) (.skip))) (
 .seq (.seq (.reg [⟨(some (sOf 17)), .pu (.mv (.t (sOf 0))), none⟩,
  ⟨(some (sOf 18)), .pu (.mv (.t (sOf 1))), none⟩,
  ⟨(some (sOf 19)), .pu (.bin .gtr .int (.t (sOf 17)) (.t (sOf 18))), none⟩]) (
 .cond (.t (sOf 19)) (.seq (.reg [⟨(some (sOf 4)), .pu (.mv (.c (.int .i64 (.ofNat 1)))), none⟩]) (
 .ret)) (.skip))) (
 .seq (.reg [⟨(some (sOf 4)), .pu (.mv (.c (.int .i64 (.ofNat 0)))), none⟩]) (
 .ret))))))))) [.tmp (sOf 4)]
theorem F185_eq : (pg.funcs[185]?).bind (cFunc pg) = some F185 := by kernel_rfl
noncomputable def F186 : F := F.mk 19 (.seq (.reg [⟨(some (sOf 3)), .mk (.box 54 2 (.t (sOf 1))), none⟩,
  ⟨(some (sOf 4)), .pu (.mv (.c (.int .i64 (.ofNat 0)))), none⟩]) (
 .seq (.seq (.reg [⟨(some (sOf 6)), .pu (.mv (.t (sOf 0))), none⟩,
  ⟨(some (sOf 7)), .pu (.lenv false (.t (sOf 6))), none⟩,
  ⟨(some (sOf 8)), .pu (.mv (.c (.int .i64 (.ofNat 0)))), none⟩]) (
 .block 0 (.loop (.seq (.reg [⟨(some (sOf 9)), .pu (.bin .lss .int (.t (sOf 8)) (.t (sOf 7))), none⟩]) (
 .seq (.cond (.t (sOf 9)) (.skip) (.exit 0)) (
 .seq (.block 1 (.seq (.reg [⟨(some (sOf 10)), .pu (.mv (.t (sOf 8))), none⟩,
  ⟨(some (sOf 5)), .pu (.mv (.t (sOf 10))), none⟩]) (
 .seq (.dreg [(⟨(some (sOf 11)), .rd (.load true 2 (.t (sOf 3))), none⟩, []),
  (⟨(some (sOf 12)), .pu (.mv (.t (sOf 0))), none⟩, []),
  (⟨(some (sOf 13)), .pu (.mv (.t (sOf 5))), none⟩, []),
  (⟨(some (sOf 14)), .pu (.iasl 2 (.t (sOf 12)) (.t (sOf 13))), none⟩, []),
  (⟨(some (sOf 15)), .rd (.load true 2 (.t (sOf 14))), none⟩, []),
  (⟨(some (sOf 16)), .pu (.bin .eql (.agg [.li, .lb]) (.t (sOf 11)) (.t (sOf 15))), none⟩, [])]) (
 .cond (.t (sOf 16)) (.seq (.reg [⟨(some (sOf 17)), .pu (.mv (.t (sOf 5))), none⟩,
  ⟨(some (sOf 4)), .pu (.mv (.t (sOf 17))), none⟩]) (
 .ret)) (.skip))))) (
 .reg [⟨(some (sOf 18)), .pu (.bin .add .int (.t (sOf 8)) (.c (.int .i64 (.ofNat 1)))), none⟩,
  ⟨(some (sOf 8)), .pu (.mv (.t (sOf 18))), none⟩]))))))) (
 .seq (.reg [⟨(some (sOf 4)), .pu (.mv (.c (.int .i64 (.negSucc 0)))), none⟩]) (
 .ret)))) [.tmp (sOf 4)]
theorem F186_eq : (pg.funcs[186]?).bind (cFunc pg) = some F186 := by kernel_rfl
noncomputable def F188 : F := F.mk 61 (.seq (.reg [⟨(some (sOf 2)), .pu (.mv (.c (.snil))), none⟩]) (
 .seq (.seq (.reg [⟨(some (sOf 6)), .pu (.mv (.t (sOf 0))), none⟩,
  ⟨(some (sOf 7)), .pu (.lenv false (.t (sOf 6))), none⟩,
  ⟨(some (sOf 8)), .pu (.bin .lss .int (.t (sOf 7)) (.c (.int .i64 (.ofNat 2)))), none⟩]) (
 .cond (.t (sOf 8)) (.seq (.reg [⟨(some (sOf 9)), .pu (.mv (.t (sOf 0))), none⟩,
  ⟨(some (sOf 2)), .pu (.mv (.t (sOf 9))), none⟩]) (
 .ret)) (.skip))) (
 .seq (.seq (.reg [⟨(some (sOf 3)), .pu (.mv (.c (.int .i64 (.ofNat 1)))), none⟩]) (
 .block 0 (.loop (.seq (.seq (.reg [⟨(some (sOf 10)), .pu (.mv (.t (sOf 3))), none⟩,
  ⟨(some (sOf 11)), .pu (.mv (.t (sOf 0))), none⟩,
  ⟨(some (sOf 12)), .pu (.lenv false (.t (sOf 11))), none⟩,
  ⟨(some (sOf 13)), .pu (.bin .lss .int (.t (sOf 10)) (.t (sOf 12))), none⟩]) (
 .cond (.t (sOf 13)) (.skip) (.exit 0))) (
 .seq (.block 1 (.seq (.dreg [(⟨(some (sOf 16)), .pu (.mv (.t (sOf 0))), none⟩, []),
  (⟨(some (sOf 17)), .pu (.mv (.t (sOf 3))), none⟩, []),
  (⟨(some (sOf 18)), .pu (.iasl 2 (.t (sOf 16)) (.t (sOf 17))), none⟩, []),
  (⟨(some (sOf 19)), .rd (.load true 2 (.t (sOf 18))), none⟩, []),
  (⟨(some (sOf 20)), .pu (.mv (.t (sOf 0))), none⟩, []),
  (⟨(some (sOf 21)), .pu (.mv (.t (sOf 3))), none⟩, []),
  (⟨(some (sOf 22)), .pu (.bin .sub .int (.t (sOf 21)) (.c (.int .i64 (.ofNat 1)))), none⟩, []),
  (⟨(some (sOf 23)), .pu (.iasl 2 (.t (sOf 20)) (.t (sOf 22))), none⟩, []),
  (⟨(some (sOf 24)), .rd (.load true 2 (.t (sOf 23))), none⟩, []),
  (⟨(some (sOf 25)), .pu (.bin .eql (.agg [.li, .lb]) (.t (sOf 19)) (.t (sOf 24))), none⟩, [])]) (
 .cond (.t (sOf 25)) (.seq (.reg [⟨(some (sOf 26)), .pu (.mv (.t (sOf 0))), none⟩,
  ⟨(some (sOf 27)), .pu (.mv (.t (sOf 3))), none⟩,
  ⟨(some (sOf 28)), .pu (.slsl 2 (.t (sOf 26)) (some (.t (sOf 27))) none none), none⟩,
  ⟨(some (sOf 4)), .pu (.mv (.t (sOf 28))), none⟩]) (
 .seq (.seq (.reg [⟨(some (sOf 5)), .pu (.mv (.c (.int .i64 (.ofNat 1)))), none⟩]) (
 .block 2 (.loop (.seq (.seq (.reg [⟨(some (sOf 29)), .pu (.mv (.t (sOf 5))), none⟩,
  ⟨(some (sOf 30)), .pu (.mv (.t (sOf 4))), none⟩,
  ⟨(some (sOf 31)), .pu (.lenv false (.t (sOf 30))), none⟩,
  ⟨(some (sOf 32)), .pu (.bin .lss .int (.t (sOf 29)) (.t (sOf 31))), none⟩]) (
 .cond (.t (sOf 32)) (.skip) (.exit 2))) (
 .seq (.block 3 (.seq (.dreg [(⟨(some (sOf 35)), .pu (.mv (.t (sOf 4))), none⟩, []),
  (⟨(some (sOf 36)), .pu (.mv (.t (sOf 5))), none⟩, []),
  (⟨(some (sOf 37)), .pu (.iasl 2 (.t (sOf 35)) (.t (sOf 36))), none⟩, []),
  (⟨(some (sOf 38)), .rd (.load true 2 (.t (sOf 37))), none⟩, []),
  (⟨(some (sOf 39)), .pu (.mv (.t (sOf 4))), none⟩, []),
  (⟨(some (sOf 40)), .pu (.mv (.t (sOf 5))), none⟩, []),
  (⟨(some (sOf 41)), .pu (.bin .sub .int (.t (sOf 40)) (.c (.int .i64 (.ofNat 1)))), none⟩, []),
  (⟨(some (sOf 42)), .pu (.iasl 2 (.t (sOf 39)) (.t (sOf 41))), none⟩, []),
  (⟨(some (sOf 43)), .rd (.load true 2 (.t (sOf 42))), none⟩, []),
  (⟨(some (sOf 44)), .pu (.bin .neq (.agg [.li, .lb]) (.t (sOf 38)) (.t (sOf 43))), none⟩, [])]) (
 .cond (.t (sOf 44)) (.seq (.reg [⟨(some (sOf 45)), .pu (.mv (.t (sOf 0))), none⟩,
  ⟨(some (sOf 46)), .pu (.mv (.t (sOf 3))), none⟩,
  ⟨(some (sOf 47)), .pu (.mv (.t (sOf 4))), none⟩,
  ⟨(some (sOf 48)), .pu (.mv (.t (sOf 5))), none⟩,
  ⟨(some (sOf 49)), .pu (.iasl 2 (.t (sOf 47)) (.t (sOf 48))), none⟩,
  ⟨(some (sOf 50)), .rd (.load true 2 (.t (sOf 49))), none⟩,
  ⟨(some (sOf 51)), .pu (.iasl 2 (.t (sOf 45)) (.t (sOf 46))), none⟩,
  ⟨none, .wr (.store 2 (.t (sOf 51)) (.t (sOf 50))), none⟩]) (
 .reg [⟨(some (sOf 52)), .pu (.mv (.t (sOf 3))), none⟩,
  ⟨(some (sOf 53)), .pu (.bin .add .int (.t (sOf 52)) (.c (.int .i64 (.ofNat 1)))), none⟩,
  ⟨(some (sOf 3)), .pu (.mv (.t (sOf 53))), none⟩])) (.skip)))) (
 .reg [⟨(some (sOf 33)), .pu (.mv (.t (sOf 5))), none⟩,
  ⟨(some (sOf 34)), .pu (.bin .add .int (.t (sOf 33)) (.c (.int .i64 (.ofNat 1)))), none⟩,
  ⟨(some (sOf 5)), .pu (.mv (.t (sOf 34))), none⟩])))))) (
 .seq (.reg [⟨(some (sOf 54)), .pu (.mv (.t (sOf 0))), none⟩,
  ⟨(some (sOf 55)), .pu (.mv (.t (sOf 3))), none⟩,
  ⟨(some (sOf 56)), .pu (.slsl 2 (.t (sOf 54)) (some (.t (sOf 55))) none none), none⟩,
  ⟨none, .wr (.clrs 2 [.int .i64 (.ofNat 0), .bool false] (.t (sOf 56))), none⟩]) (
 .seq (.reg [⟨(some (sOf 57)), .pu (.mv (.t (sOf 0))), none⟩,
  ⟨(some (sOf 58)), .pu (.mv (.t (sOf 3))), none⟩,
  ⟨(some (sOf 59)), .pu (.slsl 2 (.t (sOf 57)) none (some (.t (sOf 58))) none), none⟩,
  ⟨(some (sOf 2)), .pu (.mv (.t (sOf 59))), none⟩]) (
 .ret))))) (.skip)))) (
 .reg [⟨(some (sOf 14)), .pu (.mv (.t (sOf 3))), none⟩,
  ⟨(some (sOf 15)), .pu (.bin .add .int (.t (sOf 14)) (.c (.int .i64 (.ofNat 1)))), none⟩,
  ⟨(some (sOf 3)), .pu (.mv (.t (sOf 15))), none⟩])))))) (
 .seq (.reg [⟨(some (sOf 60)), .pu (.mv (.t (sOf 0))), none⟩,
  ⟨(some (sOf 2)), .pu (.mv (.t (sOf 60))), none⟩]) (
 .ret))))) [.tmp (sOf 2)]
theorem F188_eq : (pg.funcs[188]?).bind (cFunc pg) = some F188 := by kernel_rfl
noncomputable def F303 : F := F.mk 6 (.seq (.reg [⟨(some (sOf 2)), .pu (.mv (.c (.bool false))), none⟩]) (
 .seq (.reg [⟨(some (sOf 3)), .pu (.mv (.t (sOf 0))), none⟩,
  ⟨(some (sOf 4)), .pu (.mv (.t (sOf 0))), none⟩,
  ⟨(some (sOf 5)), .pu (.bin .neq .int (.t (sOf 3)) (.t (sOf 4))), none⟩,
  ⟨(some (sOf 2)), .pu (.mv (.t (sOf 5))), none⟩]) (
 .ret))) [.tmp (sOf 2)]
theorem F303_eq : (pg.funcs[303]?).bind (cFunc pg) = some F303 := by kernel_rfl
noncomputable def F6 : F := F.mk 87 (.seq (.reg [⟨(some (sOf 4)), .pu (.mv (.c (.snil))), none⟩,
  ⟨(some (sOf 5)), .pu (.mv (.c (.int .i64 (.ofNat 0)))), none⟩]) (
 .seq (.seq (.reg [⟨(some (sOf 12)), .pu (.mv (.t (sOf 0))), none⟩,
  ⟨(some (sOf 13)), .pu (.lenv false (.t (sOf 12))), none⟩,
  ⟨(some (sOf 14)), .pu (.bin .eql .int (.t (sOf 13)) (.c (.int .i64 (.ofNat 0)))), none⟩,
  ⟨(some (sOf 15)), .call (.c (.fn (.func 30) [] [])) [(.t (sOf 14)), (.c (.int .i64 (.ofNat 10)))], none⟩,
  ⟨(some (sOf 16)), .pu (.mv (.t (sOf 0))), none⟩,
  ⟨(some (sOf 17)), .pu (.lenv false (.t (sOf 16))), none⟩,
  ⟨(some (sOf 18)), .pu (.bin .gtr .int (.t (sOf 17)) (.c (.int .i64 (.ofNat 100)))), none⟩,
  ⟨(some (sOf 19)), .call (.c (.fn (.func 30) [] [])) [(.t (sOf 18)), (.c (.int .i64 (.ofNat 5)))], none⟩,
  ⟨(some (sOf 20)), .pu (.mv (.t (sOf 1))), none⟩,
  ⟨(some (sOf 21)), .pu (.lenv false (.t (sOf 20))), none⟩,
  ⟨(some (sOf 22)), .pu (.mv (.t (sOf 0))), none⟩,
  ⟨(some (sOf 23)), .pu (.lenv false (.t (sOf 22))), none⟩,
  ⟨(some (sOf 24)), .pu (.bin .sub .int (.t (sOf 23)) (.c (.int .i64 (.ofNat 1)))), none⟩,
  ⟨(some (sOf 25)), .pu (.bin .neq .int (.t (sOf 21)) (.t (sOf 24))), none⟩,
  ⟨(some (sOf 26)), .call (.c (.fn (.func 30) [] [])) [(.t (sOf 25)), (.c (.int .i64 (.ofNat 2)))], none⟩,
  ⟨(some (sOf 27)), .mk (.bslice 3 1 3 [.int .i64 (.ofNat 0)] [(0, 1, (.t (sOf 15))), (1, 1, (.t (sOf 19))), (2, 1, (.t (sOf 26)))]), none⟩,
  ⟨(some (sOf 28)), .call (.c (.fn (.func 29) [] [])) [(.t (sOf 27))], none⟩,
  ⟨(some (sOf 6)), .pu (.mv (.t (sOf 28))), none⟩]) (
 .seq (.reg [⟨(some (sOf 29)), .pu (.mv (.t (sOf 6))), none⟩,
  ⟨(some (sOf 30)), .pu (.bin .neq .int (.t (sOf 29)) (.c (.int .i64 (.ofNat 0)))), none⟩]) (
 .cond (.t (sOf 30)) (.seq (.reg [⟨(some (sOf 31)), .pu (.mv (.t (sOf 6))), none⟩,
  ⟨(some (sOf 4)), .pu (.mv (.c (.snil))), none⟩,
  ⟨(some (sOf 5)), .pu (.mv (.t (sOf 31))), none⟩]) (
 .ret)) (.skip)))) (
 .seq (.seq (.reg [⟨(some (sOf 7)), .pu (.mv (.c (.int .i64 (.ofNat 0)))), none⟩]) (
 .block 0 (.loop (.seq (.seq (.reg [⟨(some (sOf 32)), .pu (.mv (.t (sOf 7))), none⟩,
  ⟨(some (sOf 33)), .pu (.mv (.t (sOf 0))), none⟩,
  ⟨(some (sOf 34)), .pu (.lenv false (.t (sOf 33))), none⟩,
  ⟨(some (sOf 35)), .pu (.bin .lss .int (.t (sOf 32)) (.t (sOf 34))), none⟩]) (
 .cond (.t (sOf 35)) (.skip) (.exit 0))) (
 .seq (.block 1 (.seq (.seq (.reg [⟨(some (sOf 38)), .pu (.mv (.t (sOf 0))), none⟩,
  ⟨(some (sOf 39)), .pu (.mv (.t (sOf 7))), none⟩,
  ⟨(some (sOf 40)), .pu (.iasl 1 (.t (sOf 38)) (.t (sOf 39))), none⟩,
  ⟨(some (sOf 41)), .rd (.load false 1 (.t (sOf 40))), none⟩,
  ⟨(some (sOf 42)), .pu (.lenv false (.t (sOf 41))), none⟩,
  ⟨(some (sOf 43)), .pu (.bin .gtr .int (.t (sOf 42)) (.c (.int .i64 (.ofNat 100)))), none⟩]) (
 .cond (.t (sOf 43)) (.seq (.reg [⟨(some (sOf 4)), .pu (.mv (.c (.snil))), none⟩,
  ⟨(some (sOf 5)), .pu (.mv (.c (.int .i64 (.ofNat 5)))), none⟩]) (
 .ret)) (.skip))) (
 .seq (.seq (.reg [⟨(some (sOf 8)), .pu (.mv (.c (.int .i64 (.ofNat 0)))), none⟩]) (
 .block 2 (.loop (.seq (.seq (.reg [⟨(some (sOf 44)), .pu (.mv (.t (sOf 8))), none⟩,
  ⟨(some (sOf 45)), .pu (.mv (.t (sOf 0))), none⟩,
  ⟨(some (sOf 46)), .pu (.mv (.t (sOf 7))), none⟩,
  ⟨(some (sOf 47)), .pu (.iasl 1 (.t (sOf 45)) (.t (sOf 46))), none⟩,
  ⟨(some (sOf 48)), .rd (.load false 1 (.t (sOf 47))), none⟩,
  ⟨(some (sOf 49)), .pu (.lenv false (.t (sOf 48))), none⟩,
  ⟨(some (sOf 50)), .pu (.bin .lss .int (.t (sOf 44)) (.t (sOf 49))), none⟩]) (
 .cond (.t (sOf 50)) (.skip) (.exit 2))) (
 .seq (.block 3 (.seq (.reg [⟨(some (sOf 53)), .pu (.mv (.t (sOf 0))), none⟩,
  ⟨(some (sOf 54)), .pu (.mv (.t (sOf 7))), none⟩,
  ⟨(some (sOf 55)), .pu (.iasl 1 (.t (sOf 53)) (.t (sOf 54))), none⟩,
  ⟨(some (sOf 56)), .rd (.load false 1 (.t (sOf 55))), none⟩,
  ⟨(some (sOf 57)), .pu (.mv (.t (sOf 8))), none⟩,
  ⟨(some (sOf 58)), .pu (.iasl 2 (.t (sOf 56)) (.t (sOf 57))), none⟩,
  ⟨(some (sOf 59)), .pu (.faddr 0 1 (.t (sOf 58))), none⟩,
  ⟨(some (sOf 60)), .rd (.load false 1 (.t (sOf 59))), none⟩,
  ⟨(some (sOf 61)), .pu (.bin .lss .int (.t (sOf 60)) (.c (.int .i64 (.ofNat 0)))), none⟩]) (
 .cond (.t (sOf 61)) (.seq (.reg [⟨(some (sOf 4)), .pu (.mv (.c (.snil))), none⟩,
  ⟨(some (sOf 5)), .pu (.mv (.c (.int .i64 (.ofNat 3)))), none⟩]) (
 .ret)) (.skip)))) (
 .reg [⟨(some (sOf 51)), .pu (.mv (.t (sOf 8))), none⟩,
  ⟨(some (sOf 52)), .pu (.bin .add .int (.t (sOf 51)) (.c (.int .i64 (.ofNat 1)))), none⟩,
  ⟨(some (sOf 8)), .pu (.mv (.t (sOf 52))), none⟩])))))) (
 .seq (.reg [⟨(some (sOf 62)), .pu (.mv (.t (sOf 0))), none⟩,
  ⟨(some (sOf 63)), .pu (.mv (.t (sOf 7))), none⟩,
  ⟨(some (sOf 64)), .pu (.iasl 1 (.t (sOf 62)) (.t (sOf 63))), none⟩,
  ⟨(some (sOf 65)), .rd (.load false 1 (.t (sOf 64))), none⟩,
  ⟨(some (sOf 66)), .call (.c (.fn (.func 31) [] [])) [(.t (sOf 65))], none⟩,
  ⟨(some (sOf 67)), .pu (.un .not (.t (sOf 66))), none⟩]) (
 .cond (.t (sOf 67)) (.seq (.reg [⟨(some (sOf 4)), .pu (.mv (.c (.snil))), none⟩,
  ⟨(some (sOf 5)), .pu (.mv (.c (.int .i64 (.ofNat 9)))), none⟩]) (
 .ret)) (.skip)))))) (
 .reg [⟨(some (sOf 36)), .pu (.mv (.t (sOf 7))), none⟩,
  ⟨(some (sOf 37)), .pu (.bin .add .int (.t (sOf 36)) (.c (.int .i64 (.ofNat 1)))), none⟩,
  ⟨(some (sOf 7)), .pu (.mv (.t (sOf 37))), none⟩])))))) (
 .seq (.reg [⟨(some (sOf 69)), .pu (.mv (.t (sOf 0))), none⟩,
  ⟨(some (sOf 70)), .pu (.mv (.t (sOf 1))), none⟩,
  ⟨(some (sOf 71)), .call (.c (.fn (.func 32) [] [])) [(.t (sOf 69)), (.t (sOf 70))], none⟩,
  ⟨(some (sOf 68)), .pu (.mv (.t (sOf 71))), none⟩,
  ⟨(some (sOf 72)), .pu (.extr 0 (.t (sOf 68))), none⟩,
  ⟨(some (sOf 73)), .pu (.extr 1 (.t (sOf 68))), none⟩,
  ⟨(some (sOf 9)), .pu (.mv (.t (sOf 72))), none⟩,
  ⟨(some (sOf 10)), .pu (.mv (.t (sOf 73))), none⟩]) (
 .seq (.seq (.reg [⟨(some (sOf 74)), .pu (.mv (.t (sOf 10))), none⟩,
  ⟨(some (sOf 75)), .pu (.un .not (.t (sOf 74))), none⟩,
  ⟨(some (sOf 76)), .call (.c (.fn (.func 30) [] [])) [(.t (sOf 75)), (.c (.int .i64 (.ofNat 29)))], none⟩,
  ⟨(some (sOf 77)), .pu (.mv (.t (sOf 9))), none⟩,
  ⟨(some (sOf 78)), .pu (.lenv false (.t (sOf 77))), none⟩,
  ⟨(some (sOf 79)), .pu (.bin .gtr .int (.t (sOf 78)) (.c (.int .i64 (.ofNat 100)))), none⟩,
  ⟨(some (sOf 80)), .call (.c (.fn (.func 30) [] [])) [(.t (sOf 79)), (.c (.int .i64 (.ofNat 5)))], none⟩,
  ⟨(some (sOf 81)), .mk (.bslice 3 1 2 [.int .i64 (.ofNat 0)] [(0, 1, (.t (sOf 76))), (1, 1, (.t (sOf 80)))]), none⟩,
  ⟨(some (sOf 82)), .call (.c (.fn (.func 29) [] [])) [(.t (sOf 81))], none⟩,
  ⟨(some (sOf 11)), .pu (.mv (.t (sOf 82))), none⟩]) (
 .seq (.reg [⟨(some (sOf 83)), .pu (.mv (.t (sOf 11))), none⟩,
  ⟨(some (sOf 84)), .pu (.bin .neq .int (.t (sOf 83)) (.c (.int .i64 (.ofNat 0)))), none⟩]) (
 .cond (.t (sOf 84)) (.seq (.reg [⟨(some (sOf 85)), .pu (.mv (.t (sOf 11))), none⟩,
  ⟨(some (sOf 4)), .pu (.mv (.c (.snil))), none⟩,
  ⟨(some (sOf 5)), .pu (.mv (.t (sOf 85))), none⟩]) (
 .ret)) (.skip)))) (
 .seq (.reg [⟨(some (sOf 86)), .pu (.mv (.t (sOf 9))), none⟩,
  ⟨(some (sOf 4)), .pu (.mv (.t (sOf 86))), none⟩,
  ⟨(some (sOf 5)), .pu (.mv (.c (.int .i64 (.ofNat 0)))), none⟩]) (
 .ret))))))) [.tmp (sOf 4), .tmp (sOf 5)]
theorem F6_eq : (pg.funcs[6]?).bind (cFunc pg) = some F6 := by kernel_rfl
noncomputable def F7 : F := F.mk 26 (.seq (.reg [⟨(some (sOf 4)), .pu (.mv (.c (.bool false))), none⟩]) (
 .seq (.seq (.reg [⟨(some (sOf 6)), .pu (.mv (.t (sOf 0))), none⟩,
  ⟨(some (sOf 7)), .pu (.lenv false (.t (sOf 6))), none⟩,
  ⟨(some (sOf 8)), .pu (.mv (.t (sOf 1))), none⟩,
  ⟨(some (sOf 9)), .pu (.lenv false (.t (sOf 8))), none⟩,
  ⟨(some (sOf 10)), .pu (.bin .neq .int (.t (sOf 7)) (.t (sOf 9))), none⟩]) (
 .cond (.t (sOf 10)) (.seq (.reg [⟨(some (sOf 4)), .pu (.mv (.c (.bool false))), none⟩]) (
 .ret)) (.skip))) (
 .seq (.seq (.reg [⟨(some (sOf 5)), .pu (.mv (.c (.int .i64 (.ofNat 0)))), none⟩]) (
 .block 0 (.loop (.seq (.seq (.reg [⟨(some (sOf 11)), .pu (.mv (.t (sOf 5))), none⟩,
  ⟨(some (sOf 12)), .pu (.mv (.t (sOf 0))), none⟩,
  ⟨(some (sOf 13)), .pu (.lenv false (.t (sOf 12))), none⟩,
  ⟨(some (sOf 14)), .pu (.bin .lss .int (.t (sOf 11)) (.t (sOf 13))), none⟩]) (
 .cond (.t (sOf 14)) (.skip) (.exit 0))) (
 .seq (.block 1 (.seq (.dreg [(⟨(some (sOf 17)), .pu (.mv (.t (sOf 0))), none⟩, []),
  (⟨(some (sOf 18)), .pu (.mv (.t (sOf 5))), none⟩, []),
  (⟨(some (sOf 19)), .pu (.iasl 2 (.t (sOf 17)) (.t (sOf 18))), none⟩, []),
  (⟨(some (sOf 20)), .rd (.load true 2 (.t (sOf 19))), none⟩, []),
  (⟨(some (sOf 21)), .pu (.mv (.t (sOf 1))), none⟩, []),
  (⟨(some (sOf 22)), .pu (.mv (.t (sOf 5))), none⟩, []),
  (⟨(some (sOf 23)), .pu (.iasl 2 (.t (sOf 21)) (.t (sOf 22))), none⟩, []),
  (⟨(some (sOf 24)), .rd (.load true 2 (.t (sOf 23))), none⟩, []),
  (⟨(some (sOf 25)), .pu (.bin .neq (.agg [.li, .lb]) (.t (sOf 20)) (.t (sOf 24))), none⟩, [])]) (
 .cond (.t (sOf 25)) (.seq (.reg [⟨(some (sOf 4)), .pu (.mv (.c (.bool false))), none⟩]) (
 .ret)) (.skip)))) (
 .reg [⟨(some (sOf 15)), .pu (.mv (.t (sOf 5))), none⟩,
  ⟨(some (sOf 16)), .pu (.bin .add .int (.t (sOf 15)) (.c (.int .i64 (.ofNat 1)))), none⟩,
  ⟨(some (sOf 5)), .pu (.mv (.t (sOf 16))), none⟩])))))) (
 .seq (.reg [⟨(some (sOf 4)), .pu (.mv (.c (.bool true))), none⟩]) (
 .ret))))) [.tmp (sOf 4)]
theorem F7_eq : (pg.funcs[7]?).bind (cFunc pg) = some F7 := by kernel_rfl
noncomputable def F29 : F := F.mk 19 (.seq (.reg [⟨(some (sOf 2)), .pu (.mv (.c (.int .i64 (.ofNat 0)))), none⟩]) (
 .seq (.seq (.reg [⟨(some (sOf 3)), .pu (.mv (.c (.int .i64 (.ofNat 0)))), none⟩]) (
 .block 0 (.loop (.seq (.seq (.reg [⟨(some (sOf 4)), .pu (.mv (.t (sOf 3))), none⟩,
  ⟨(some (sOf 5)), .pu (.mv (.t (sOf 0))), none⟩,
  ⟨(some (sOf 6)), .pu (.lenv false (.t (sOf 5))), none⟩,
  ⟨(some (sOf 7)), .pu (.bin .lss .int (.t (sOf 4)) (.t (sOf 6))), none⟩]) (
 .cond (.t (sOf 7)) (.skip) (.exit 0))) (
 .seq (.block 1 (.seq (.reg [⟨(some (sOf 10)), .pu (.mv (.t (sOf 0))), none⟩,
  ⟨(some (sOf 11)), .pu (.mv (.t (sOf 3))), none⟩,
  ⟨(some (sOf 12)), .pu (.iasl 1 (.t (sOf 10)) (.t (sOf 11))), none⟩,
  ⟨(some (sOf 13)), .rd (.load false 1 (.t (sOf 12))), none⟩,
  ⟨(some (sOf 14)), .pu (.bin .neq .int (.t (sOf 13)) (.c (.int .i64 (.ofNat 0)))), none⟩]) (
 .cond (.t (sOf 14)) (.seq (.reg [⟨(some (sOf 15)), .pu (.mv (.t (sOf 0))), none⟩,
  ⟨(some (sOf 16)), .pu (.mv (.t (sOf 3))), none⟩,
  ⟨(some (sOf 17)), .pu (.iasl 1 (.t (sOf 15)) (.t (sOf 16))), none⟩,
  ⟨(some (sOf 18)), .rd (.load false 1 (.t (sOf 17))), none⟩,
  ⟨(some (sOf 2)), .pu (.mv (.t (sOf 18))), none⟩]) (
 .ret)) (.skip)))) (
 .reg [⟨(some (sOf 8)), .pu (.mv (.t (sOf 3))), none⟩,
  ⟨(some (sOf 9)), .pu (.bin .add .int (.t (sOf 8)) (.c (.int .i64 (.ofNat 1)))), none⟩,
  ⟨(some (sOf 3)), .pu (.mv (.t (sOf 9))), none⟩])))))) (
 .seq (.reg [⟨(some (sOf 2)), .pu (.mv (.c (.int .i64 (.ofNat 0)))), none⟩]) (
 .ret)))) [.tmp (sOf 2)]
theorem F29_eq : (pg.funcs[29]?).bind (cFunc pg) = some F29 := by kernel_rfl
noncomputable def F30 : F := F.mk 7 (.seq (.reg [⟨(some (sOf 4)), .pu (.mv (.c (.int .i64 (.ofNat 0)))), none⟩]) (
 .seq (.seq (.reg [⟨(some (sOf 5)), .pu (.mv (.t (sOf 0))), none⟩]) (
 .cond (.t (sOf 5)) (.seq (.reg [⟨(some (sOf 6)), .pu (.mv (.t (sOf 1))), none⟩,
  ⟨(some (sOf 4)), .pu (.mv (.t (sOf 6))), none⟩]) (
 .ret)) (.skip))) (
 .seq (.reg [⟨(some (sOf 4)), .pu (.mv (.c (.int .i64 (.ofNat 0)))), none⟩]) (
 .ret)))) [.tmp (sOf 4)]
theorem F30_eq : (pg.funcs[30]?).bind (cFunc pg) = some F30 := by kernel_rfl
noncomputable def F31 : F := F.mk 21 (.seq (.reg [⟨(some (sOf 2)), .pu (.mv (.c (.bool false))), none⟩]) (
 .seq (.seq (.reg [⟨(some (sOf 3)), .pu (.mv (.c (.int .i64 (.ofNat 1)))), none⟩]) (
 .block 0 (.loop (.seq (.seq (.reg [⟨(some (sOf 4)), .pu (.mv (.t (sOf 3))), none⟩,
  ⟨(some (sOf 5)), .pu (.mv (.t (sOf 0))), none⟩,
  ⟨(some (sOf 6)), .pu (.lenv false (.t (sOf 5))), none⟩,
  ⟨(some (sOf 7)), .pu (.bin .lss .int (.t (sOf 4)) (.t (sOf 6))), none⟩]) (
 .cond (.t (sOf 7)) (.skip) (.exit 0))) (
 .seq (.block 1 (.seq (.dreg [(⟨(some (sOf 10)), .pu (.mv (.t (sOf 0))), none⟩, []),
  (⟨(some (sOf 11)), .pu (.mv (.t (sOf 3))), none⟩, []),
  (⟨(some (sOf 12)), .pu (.bin .sub .int (.t (sOf 11)) (.c (.int .i64 (.ofNat 1)))), none⟩, []),
  (⟨(some (sOf 13)), .pu (.iasl 2 (.t (sOf 10)) (.t (sOf 12))), none⟩, []),
  (⟨(some (sOf 14)), .rd (.load true 2 (.t (sOf 13))), none⟩, []),
  (⟨(some (sOf 15)), .pu (.mv (.t (sOf 0))), none⟩, []),
  (⟨(some (sOf 16)), .pu (.mv (.t (sOf 3))), none⟩, []),
  (⟨(some (sOf 17)), .pu (.iasl 2 (.t (sOf 15)) (.t (sOf 16))), none⟩, []),
  (⟨(some (sOf 18)), .rd (.load true 2 (.t (sOf 17))), none⟩, []),
  (⟨(some (sOf 19)), .call (.c (.fn (.func 84) [] [])) [(.t (sOf 14)), (.t (sOf 18))], none⟩, []),
  (⟨(some (sOf 20)), .pu (.un .not (.t (sOf 19))), none⟩, [])]) (
 .cond (.t (sOf 20)) (.seq (.reg [⟨(some (sOf 2)), .pu (.mv (.c (.bool false))), none⟩]) (
 .ret)) (.skip)))) (
 .reg [⟨(some (sOf 8)), .pu (.mv (.t (sOf 3))), none⟩,
  ⟨(some (sOf 9)), .pu (.bin .add .int (.t (sOf 8)) (.c (.int .i64 (.ofNat 1)))), none⟩,
  ⟨(some (sOf 3)), .pu (.mv (.t (sOf 9))), none⟩])))))) (
 .seq (.reg [⟨(some (sOf 2)), .pu (.mv (.c (.bool true))), none⟩]) (
 .ret)))) [.tmp (sOf 2)]
theorem F31_eq : (pg.funcs[31]?).bind (cFunc pg) = some F31 := by kernel_rfl
noncomputable def A32 : C := (.seq (.dreg [(⟨(some (sOf 31)), .pu (.mv (.t (sOf 6))), none⟩, []),
  (⟨(some (sOf 32)), .rd (.load true 2 (.t (sOf 8))), none⟩, []),
  (⟨(some (sOf 33)), .call (.c (.fn (.func 87) [] [])) [(.t (sOf 31)), (.t (sOf 32))], none⟩, []),
  (⟨(some (sOf 34)), .pu (.mv (.t (sOf 33))), none⟩, []),
  (⟨(some (sOf 35)), .pu (.mv (.t (sOf 0))), (some ((sOf 34), true))⟩, []),
  (⟨(some (sOf 36)), .pu (.mv (.t (sOf 7))), (some ((sOf 34), true))⟩, []),
  (⟨(some (sOf 37)), .pu (.bin .add .int (.t (sOf 36)) (.c (.int .i64 (.ofNat 1)))), (some ((sOf 34), true))⟩, []),
  (⟨(some (sOf 38)), .pu (.iasl 1 (.t (sOf 35)) (.t (sOf 37))), (some ((sOf 34), true))⟩, []),
  (⟨(some (sOf 39)), .rd (.load false 1 (.t (sOf 38))), (some ((sOf 34), true))⟩, []),
  (⟨(some (sOf 40)), .rd (.load true 2 (.t (sOf 9))), (some ((sOf 34), true))⟩, []),
  (⟨(some (sOf 41)), .call (.c (.fn (.func 87) [] [])) [(.t (sOf 39)), (.t (sOf 40))], (some ((sOf 34), true))⟩, []),
  (⟨(some (sOf 42)), .pu (.pick (.t (sOf 34)) (.t (sOf 41)) (.c (.bool false))), none⟩, []),
  (⟨(some (sOf 43)), .pu (.un .not (.t (sOf 42))), none⟩, [])]) (
 .cond (.t (sOf 43)) (.reg [⟨(some (sOf 44)), .rd (.load true 2 (.t (sOf 9))), none⟩,
  ⟨(some (sOf 45)), .rd (.load true 2 (.t (sOf 8))), none⟩,
  ⟨none, .wr (.store 2 (.t (sOf 8)) (.t (sOf 44))), none⟩,
  ⟨none, .wr (.store 2 (.t (sOf 9)) (.t (sOf 45))), none⟩]) (.skip)))
noncomputable def B32 : C := (.seq (.dreg [(⟨(some (sOf 46)), .pu (.mv (.t (sOf 6))), none⟩, []),
  (⟨(some (sOf 47)), .rd (.load true 2 (.t (sOf 8))), none⟩, []),
  (⟨(some (sOf 48)), .call (.c (.fn (.func 87) [] [])) [(.t (sOf 46)), (.t (sOf 47))], none⟩, []),
  (⟨(some (sOf 49)), .pu (.un .not (.t (sOf 48))), none⟩, []),
  (⟨(some (sOf 50)), .pu (.mv (.t (sOf 49))), none⟩, []),
  (⟨(some (sOf 51)), .pu (.mv (.t (sOf 0))), (some ((sOf 50), false))⟩, []),
  (⟨(some (sOf 52)), .pu (.mv (.t (sOf 7))), (some ((sOf 50), false))⟩, []),
  (⟨(some (sOf 53)), .pu (.bin .add .int (.t (sOf 52)) (.c (.int .i64 (.ofNat 1)))), (some ((sOf 50), false))⟩, []),
  (⟨(some (sOf 54)), .pu (.iasl 1 (.t (sOf 51)) (.t (sOf 53))), (some ((sOf 50), false))⟩, []),
  (⟨(some (sOf 55)), .rd (.load false 1 (.t (sOf 54))), (some ((sOf 50), false))⟩, []),
  (⟨(some (sOf 56)), .rd (.load true 2 (.t (sOf 9))), (some ((sOf 50), false))⟩, []),
  (⟨(some (sOf 57)), .call (.c (.fn (.func 87) [] [])) [(.t (sOf 55)), (.t (sOf 56))], (some ((sOf 50), false))⟩, []),
  (⟨(some (sOf 58)), .pu (.un .not (.t (sOf 57))), (some ((sOf 50), false))⟩, []),
  (⟨(some (sOf 59)), .pu (.pick (.t (sOf 50)) (.c (.bool true)) (.t (sOf 58))), none⟩, [])]) (
 .cond (.t (sOf 59)) (.seq (.reg [⟨(some (sOf 4)), .pu (.mv (.c (.snil))), none⟩,
  ⟨(some (sOf 5)), .pu (.mv (.c (.bool false))), none⟩]) (
 .ret)) (.skip)))
noncomputable def T32 : C := (
 .dreg [(⟨(some (sOf 60)), .pu (.mv (.t (sOf 6))), none⟩, []),
  (⟨(some (sOf 61)), .rd (.load true 2 (.t (sOf 8))), none⟩, []),
  (⟨(some (sOf 63)), .pu (.mv (.t (sOf 0))), none⟩, []),
  (⟨(some (sOf 64)), .pu (.mv (.t (sOf 7))), none⟩, []),
  (⟨(some (sOf 65)), .pu (.bin .add .int (.t (sOf 64)) (.c (.int .i64 (.ofNat 1)))), none⟩, []),
  (⟨(some (sOf 66)), .pu (.iasl 1 (.t (sOf 63)) (.t (sOf 65))), none⟩, []),
  (⟨(some (sOf 67)), .rd (.load false 1 (.t (sOf 66))), none⟩, []),
  (⟨(some (sOf 68)), .rd (.load true 2 (.t (sOf 9))), none⟩, []),
  (⟨(some (sOf 62)), .call (.c (.fn (.func 89) [] [])) [(.t (sOf 60)), (.t (sOf 61))], none⟩, [7, 6]),
  (⟨(some (sOf 69)), .call (.c (.fn (.func 89) [] [])) [(.t (sOf 67)), (.t (sOf 68))], none⟩, []),
  (⟨(some (sOf 70)), .wr (.app 54 2 16 (.t (sOf 62)) (.t (sOf 69))), none⟩, []),
  (⟨(some (sOf 71)), .call (.c (.fn (.func 88) [] [])) [(.t (sOf 70))], none⟩, []),
  (⟨(some (sOf 6)), .pu (.mv (.t (sOf 71))), none⟩, [])])
noncomputable def F32 : F := F.mk 73 (.seq (.reg [⟨(some (sOf 4)), .pu (.mv (.c (.snil))), none⟩,
  ⟨(some (sOf 5)), .pu (.mv (.c (.bool false))), none⟩]) (
 .seq (.reg [⟨(some (sOf 10)), .mk (.bslice 54 2 0 [.int .i64 (.ofNat 0), .bool false] []), none⟩,
  ⟨(some (sOf 11)), .pu (.mv (.t (sOf 0))), none⟩,
  ⟨(some (sOf 12)), .pu (.iasl 1 (.t (sOf 11)) (.c (.int .i64 (.ofNat 0)))), none⟩,
  ⟨(some (sOf 13)), .rd (.load false 1 (.t (sOf 12))), none⟩,
  ⟨(some (sOf 14)), .wr (.app 54 2 16 (.t (sOf 10)) (.t (sOf 13))), none⟩,
  ⟨(some (sOf 6)), .pu (.mv (.t (sOf 14))), none⟩]) (
 .seq (.seq (.reg [⟨(some (sOf 7)), .pu (.mv (.c (.int .i64 (.ofNat 0)))), none⟩]) (
 .block 0 (.loop (.seq (.seq (.reg [⟨(some (sOf 15)), .pu (.mv (.t (sOf 7))), none⟩,
  ⟨(some (sOf 16)), .pu (.mv (.t (sOf 1))), none⟩,
  ⟨(some (sOf 17)), .pu (.lenv false (.t (sOf 16))), none⟩,
  ⟨(some (sOf 18)), .pu (.bin .lss .int (.t (sOf 15)) (.t (sOf 17))), none⟩]) (
 .cond (.t (sOf 18)) (.skip) (.exit 0))) (
 .seq (.block 1 (.seq (.dreg [(⟨(some (sOf 21)), .pu (.mv (.t (sOf 1))), none⟩, []),
  (⟨(some (sOf 22)), .pu (.mv (.t (sOf 7))), none⟩, []),
  (⟨(some (sOf 23)), .pu (.iasl 1 (.t (sOf 21)) (.t (sOf 22))), none⟩, []),
  (⟨(some (sOf 24)), .rd (.load false 1 (.t (sOf 23))), none⟩, []),
  (⟨(some (sOf 26)), .pu (.mv (.t (sOf 1))), none⟩, []),
  (⟨(some (sOf 27)), .pu (.mv (.t (sOf 7))), none⟩, []),
  (⟨(some (sOf 28)), .pu (.iasl 1 (.t (sOf 26)) (.t (sOf 27))), none⟩, []),
  (⟨(some (sOf 29)), .rd (.load false 1 (.t (sOf 28))), none⟩, []),
  (⟨(some (sOf 8)), .mk (.alloc 54 [.int .i64 (.ofNat 0), .bool false]), none⟩, []),
  (⟨(some (sOf 9)), .mk (.alloc 54 [.int .i64 (.ofNat 0), .bool false]), none⟩, []),
  (⟨(some (sOf 25)), .call (.c (.fn (.func 85) [] [])) [(.t (sOf 24))], none⟩, [7]),
  (⟨(some (sOf 30)), .call (.c (.fn (.func 86) [] [])) [(.t (sOf 29))], none⟩, []),
  (⟨none, .wr (.store 2 (.t (sOf 8)) (.t (sOf 25))), none⟩, []),
  (⟨none, .wr (.store 2 (.t (sOf 9)) (.t (sOf 30))), none⟩, [])]) (
 .seq A32 (
 .seq B32 T32)))) (
 .reg [⟨(some (sOf 19)), .pu (.mv (.t (sOf 7))), none⟩,
  ⟨(some (sOf 20)), .pu (.bin .add .int (.t (sOf 19)) (.c (.int .i64 (.ofNat 1)))), none⟩,
  ⟨(some (sOf 7)), .pu (.mv (.t (sOf 20))), none⟩])))))) (
 .seq (.reg [⟨(some (sOf 72)), .pu (.mv (.t (sOf 6))), none⟩,
  ⟨(some (sOf 4)), .pu (.mv (.t (sOf 72))), none⟩,
  ⟨(some (sOf 5)), .pu (.mv (.c (.bool true))), none⟩]) (
 .ret))))) [.tmp (sOf 4), .tmp (sOf 5)]
theorem F32_eq : (pg.funcs[32]?).bind (cFunc pg) = some F32 := by kernel_rfl
noncomputable def F84 : F := F.mk 26 (.seq (.reg [⟨(some (sOf 2)), .mk (.box 54 2 (.t (sOf 0))), none⟩,
  ⟨(some (sOf 3)), .mk (.box 54 2 (.t (sOf 1))), none⟩,
  ⟨(some (sOf 4)), .pu (.mv (.c (.bool false))), none⟩]) (
 .seq (.reg [⟨(some (sOf 5)), .pu (.faddr 0 1 (.t (sOf 2))), none⟩,
  ⟨(some (sOf 6)), .rd (.load false 1 (.t (sOf 5))), none⟩,
  ⟨(some (sOf 7)), .pu (.faddr 0 1 (.t (sOf 3))), none⟩,
  ⟨(some (sOf 8)), .rd (.load false 1 (.t (sOf 7))), none⟩,
  ⟨(some (sOf 9)), .pu (.bin .lss .int (.t (sOf 6)) (.t (sOf 8))), none⟩,
  ⟨(some (sOf 10)), .pu (.mv (.t (sOf 9))), none⟩,
  ⟨(some (sOf 11)), .pu (.faddr 0 1 (.t (sOf 2))), (some ((sOf 10), false))⟩,
  ⟨(some (sOf 12)), .rd (.load false 1 (.t (sOf 11))), (some ((sOf 10), false))⟩,
  ⟨(some (sOf 13)), .pu (.faddr 0 1 (.t (sOf 3))), (some ((sOf 10), false))⟩,
  ⟨(some (sOf 14)), .rd (.load false 1 (.t (sOf 13))), (some ((sOf 10), false))⟩,
  ⟨(some (sOf 15)), .pu (.bin .eql .int (.t (sOf 12)) (.t (sOf 14))), (some ((sOf 10), false))⟩,
  ⟨(some (sOf 16)), .pu (.mv (.t (sOf 15))), (some ((sOf 10), false))⟩,
  ⟨(some (sOf 17)), .pu (.faddr 1 1 (.t (sOf 2))), (some ((sOf 16), true))⟩,
  ⟨(some (sOf 18)), .rd (.load false 1 (.t (sOf 17))), (some ((sOf 16), true))⟩,
  ⟨(some (sOf 19)), .pu (.un .not (.t (sOf 18))), (some ((sOf 16), true))⟩,
  ⟨(some (sOf 20)), .pu (.pick (.t (sOf 16)) (.t (sOf 19)) (.c (.bool false))), (some ((sOf 10), false))⟩,
  ⟨(some (sOf 21)), .pu (.mv (.t (sOf 20))), (some ((sOf 10), false))⟩,
  ⟨(some (sOf 22)), .pu (.faddr 1 1 (.t (sOf 3))), (some ((sOf 21), true))⟩,
  ⟨(some (sOf 23)), .rd (.load false 1 (.t (sOf 22))), (some ((sOf 21), true))⟩,
  ⟨(some (sOf 24)), .pu (.pick (.t (sOf 21)) (.t (sOf 23)) (.c (.bool false))), (some ((sOf 10), false))⟩,
  ⟨(some (sOf 25)), .pu (.pick (.t (sOf 10)) (.c (.bool true)) (.t (sOf 24))), none⟩,
  ⟨(some (sOf 4)), .pu (.mv (.t (sOf 25))), none⟩]) (
 .ret))) [.tmp (sOf 4)]
theorem F84_eq : (pg.funcs[84]?).bind (cFunc pg) = some F84 := by kernel_rfl
noncomputable def F85 : F := F.mk 5 (.seq (.reg [⟨(some (sOf 2)), .mk (.alloc 54 [.int .i64 (.ofNat 0), .bool false]), none⟩]) (
 .seq (.reg [⟨(some (sOf 3)), .pu (.mv (.t (sOf 0))), none⟩,
  ⟨(some (sOf 4)), .pu (.build [.int .i64 (.ofNat 0), .bool false] [(0, 1, (.t (sOf 3)))]), none⟩,
  ⟨none, .wr (.store 2 (.t (sOf 2)) (.t (sOf 4))), none⟩]) (
 .ret))) [.cell (sOf 2) true 2]
theorem F85_eq : (pg.funcs[85]?).bind (cFunc pg) = some F85 := by kernel_rfl
noncomputable def F86 : F := F.mk 5 (.seq (.reg [⟨(some (sOf 2)), .mk (.alloc 54 [.int .i64 (.ofNat 0), .bool false]), none⟩]) (
 .seq (.reg [⟨(some (sOf 3)), .pu (.mv (.t (sOf 0))), none⟩,
  ⟨(some (sOf 4)), .pu (.build [.int .i64 (.ofNat 0), .bool false] [(0, 1, (.t (sOf 3))), (1, 1, (.c (.bool true)))]), none⟩,
  ⟨none, .wr (.store 2 (.t (sOf 2)) (.t (sOf 4))), none⟩]) (
 .ret))) [.cell (sOf 2) true 2]
theorem F86_eq : (pg.funcs[86]?).bind (cFunc pg) = some F86 := by kernel_rfl
noncomputable def F87 : F := F.mk 18 (.seq (.reg [⟨(some (sOf 3)), .mk (.box 54 2 (.t (sOf 1))), none⟩,
  ⟨(some (sOf 4)), .pu (.mv (.c (.bool false))), none⟩]) (
 .seq (.seq (.reg [⟨(some (sOf 5)), .pu (.mv (.c (.int .i64 (.ofNat 0)))), none⟩]) (
 .block 0 (.loop (.seq (.seq (.reg [⟨(some (sOf 6)), .pu (.mv (.t (sOf 5))), none⟩,
  ⟨(some (sOf 7)), .pu (.mv (.t (sOf 0))), none⟩,
  ⟨(some (sOf 8)), .pu (.lenv false (.t (sOf 7))), none⟩,
  ⟨(some (sOf 9)), .pu (.bin .lss .int (.t (sOf 6)) (.t (sOf 8))), none⟩]) (
 .cond (.t (sOf 9)) (.skip) (.exit 0))) (
 .seq (.block 1 (.seq (.dreg [(⟨(some (sOf 12)), .pu (.mv (.t (sOf 0))), none⟩, []),
  (⟨(some (sOf 13)), .pu (.mv (.t (sOf 5))), none⟩, []),
  (⟨(some (sOf 14)), .pu (.iasl 2 (.t (sOf 12)) (.t (sOf 13))), none⟩, []),
  (⟨(some (sOf 15)), .rd (.load true 2 (.t (sOf 14))), none⟩, []),
  (⟨(some (sOf 16)), .rd (.load true 2 (.t (sOf 3))), none⟩, []),
  (⟨(some (sOf 17)), .pu (.bin .eql (.agg [.li, .lb]) (.t (sOf 15)) (.t (sOf 16))), none⟩, [])]) (
 .cond (.t (sOf 17)) (.seq (.reg [⟨(some (sOf 4)), .pu (.mv (.c (.bool true))), none⟩]) (
 .ret)) (.skip)))) (
 .reg [⟨(some (sOf 10)), .pu (.mv (.t (sOf 5))), none⟩,
  ⟨(some (sOf 11)), .pu (.bin .add .int (.t (sOf 10)) (.c (.int .i64 (.ofNat 1)))), none⟩,
  ⟨(some (sOf 5)), .pu (.mv (.t (sOf 11))), none⟩])))))) (
 .seq (.reg [⟨(some (sOf 4)), .pu (.mv (.c (.bool false))), none⟩]) (
 .ret)))) [.tmp (sOf 4)]
theorem F87_eq : (pg.funcs[87]?).bind (cFunc pg) = some F87 := by kernel_rfl
noncomputable def F88 : F := F.mk 60 (.seq (.reg [⟨(some (sOf 2)), .pu (.mv (.c (.snil))), none⟩]) (
 .seq (.reg [⟨(some (sOf 3)), .pu (.mv (.c (.snil))), none⟩]) (
 .seq (.seq (.reg [⟨(some (sOf 4)), .pu (.mv (.c (.int .i64 (.ofNat 0)))), none⟩]) (
 .block 0 (.loop (.seq (.seq (.reg [⟨(some (sOf 6)), .pu (.mv (.t (sOf 4))), none⟩,
  ⟨(some (sOf 7)), .pu (.mv (.t (sOf 0))), none⟩,
  ⟨(some (sOf 8)), .pu (.lenv false (.t (sOf 7))), none⟩,
  ⟨(some (sOf 9)), .pu (.bin .lss .int (.t (sOf 6)) (.t (sOf 8))), none⟩]) (
 .cond (.t (sOf 9)) (.skip) (.exit 0))) (
 .seq (.block 1 (.seq (.reg [⟨(some (sOf 5)), .pu (.mv (.c (.int .i64 (.ofNat 0)))), none⟩]) (
 .seq (.block 2 (.loop (.seq (.seq (.dreg [(⟨(some (sOf 12)), .pu (.mv (.t (sOf 5))), none⟩, []),
  (⟨(some (sOf 13)), .pu (.mv (.t (sOf 3))), none⟩, []),
  (⟨(some (sOf 14)), .pu (.lenv false (.t (sOf 13))), none⟩, []),
  (⟨(some (sOf 15)), .pu (.bin .lss .int (.t (sOf 12)) (.t (sOf 14))), none⟩, []),
  (⟨(some (sOf 16)), .pu (.mv (.t (sOf 15))), none⟩, []),
  (⟨(some (sOf 17)), .pu (.mv (.t (sOf 3))), (some ((sOf 16), true))⟩, []),
  (⟨(some (sOf 18)), .pu (.mv (.t (sOf 5))), (some ((sOf 16), true))⟩, []),
  (⟨(some (sOf 19)), .pu (.iasl 2 (.t (sOf 17)) (.t (sOf 18))), (some ((sOf 16), true))⟩, []),
  (⟨(some (sOf 20)), .rd (.load true 2 (.t (sOf 19))), (some ((sOf 16), true))⟩, []),
  (⟨(some (sOf 21)), .pu (.mv (.t (sOf 0))), (some ((sOf 16), true))⟩, []),
  (⟨(some (sOf 22)), .pu (.mv (.t (sOf 4))), (some ((sOf 16), true))⟩, []),
  (⟨(some (sOf 23)), .pu (.iasl 2 (.t (sOf 21)) (.t (sOf 22))), (some ((sOf 16), true))⟩, []),
  (⟨(some (sOf 24)), .rd (.load true 2 (.t (sOf 23))), (some ((sOf 16), true))⟩, []),
  (⟨(some (sOf 25)), .call (.c (.fn (.func 84) [] [])) [(.t (sOf 20)), (.t (sOf 24))], (some ((sOf 16), true))⟩, []),
  (⟨(some (sOf 26)), .pu (.pick (.t (sOf 16)) (.t (sOf 25)) (.c (.bool false))), none⟩, [])]) (
 .cond (.t (sOf 26)) (.skip) (.exit 2))) (
 .block 3 (.reg [⟨(some (sOf 27)), .pu (.mv (.t (sOf 5))), none⟩,
  ⟨(some (sOf 28)), .pu (.bin .add .int (.t (sOf 27)) (.c (.int .i64 (.ofNat 1)))), none⟩,
  ⟨(some (sOf 5)), .pu (.mv (.t (sOf 28))), none⟩]))))) (
 .seq (.seq (.dreg [(⟨(some (sOf 29)), .pu (.mv (.t (sOf 5))), none⟩, []),
  (⟨(some (sOf 30)), .pu (.mv (.t (sOf 3))), none⟩, []),
  (⟨(some (sOf 31)), .pu (.lenv false (.t (sOf 30))), none⟩, []),
  (⟨(some (sOf 32)), .pu (.bin .lss .int (.t (sOf 29)) (.t (sOf 31))), none⟩, []),
  (⟨(some (sOf 33)), .pu (.mv (.t (sOf 32))), none⟩, []),
  (⟨(some (sOf 34)), .pu (.mv (.t (sOf 3))), (some ((sOf 33), true))⟩, []),
  (⟨(some (sOf 35)), .pu (.mv (.t (sOf 5))), (some ((sOf 33), true))⟩, []),
  (⟨(some (sOf 36)), .pu (.iasl 2 (.t (sOf 34)) (.t (sOf 35))), (some ((sOf 33), true))⟩, []),
  (⟨(some (sOf 37)), .rd (.load true 2 (.t (sOf 36))), (some ((sOf 33), true))⟩, []),
  (⟨(some (sOf 38)), .pu (.mv (.t (sOf 0))), (some ((sOf 33), true))⟩, []),
  (⟨(some (sOf 39)), .pu (.mv (.t (sOf 4))), (some ((sOf 33), true))⟩, []),
  (⟨(some (sOf 40)), .pu (.iasl 2 (.t (sOf 38)) (.t (sOf 39))), (some ((sOf 33), true))⟩, []),
  (⟨(some (sOf 41)), .rd (.load true 2 (.t (sOf 40))), (some ((sOf 33), true))⟩, []),
  (⟨(some (sOf 42)), .pu (.bin .eql (.agg [.li, .lb]) (.t (sOf 37)) (.t (sOf 41))), (some ((sOf 33), true))⟩, []),
  (⟨(some (sOf 43)), .pu (.pick (.t (sOf 33)) (.t (sOf 42)) (.c (.bool false))), none⟩, [])]) (
 .cond (.t (sOf 43)) (.exit 1) (.skip))) (
 .dreg [(⟨(some (sOf 44)), .mk (.bslice 54 2 0 [.int .i64 (.ofNat 0), .bool false] []), none⟩, []),
  (⟨(some (sOf 45)), .pu (.mv (.t (sOf 3))), none⟩, []),
  (⟨(some (sOf 46)), .pu (.mv (.t (sOf 5))), none⟩, []),
  (⟨(some (sOf 47)), .pu (.slsl 2 (.t (sOf 45)) none (some (.t (sOf 46))) none), none⟩, []),
  (⟨(some (sOf 49)), .pu (.mv (.t (sOf 0))), none⟩, []),
  (⟨(some (sOf 50)), .pu (.mv (.t (sOf 4))), none⟩, []),
  (⟨(some (sOf 51)), .pu (.iasl 2 (.t (sOf 49)) (.t (sOf 50))), none⟩, []),
  (⟨(some (sOf 52)), .rd (.load true 2 (.t (sOf 51))), none⟩, []),
  (⟨(some (sOf 53)), .mk (.bslice 54 2 1 [.int .i64 (.ofNat 0), .bool false] [(0, 2, (.t (sOf 52)))]), none⟩, []),
  (⟨(some (sOf 55)), .pu (.mv (.t (sOf 3))), none⟩, []),
  (⟨(some (sOf 56)), .pu (.mv (.t (sOf 5))), none⟩, []),
  (⟨(some (sOf 57)), .pu (.slsl 2 (.t (sOf 55)) (some (.t (sOf 56))) none none), none⟩, []),
  (⟨(some (sOf 48)), .wr (.app 54 2 16 (.t (sOf 44)) (.t (sOf 47))), none⟩, [7]),
  (⟨(some (sOf 54)), .wr (.app 54 2 16 (.t (sOf 48)) (.t (sOf 53))), none⟩, []),
  (⟨(some (sOf 58)), .wr (.app 54 2 16 (.t (sOf 54)) (.t (sOf 57))), none⟩, []),
  (⟨(some (sOf 3)), .pu (.mv (.t (sOf 58))), none⟩, [])]))))) (
 .reg [⟨(some (sOf 10)), .pu (.mv (.t (sOf 4))), none⟩,
  ⟨(some (sOf 11)), .pu (.bin .add .int (.t (sOf 10)) (.c (.int .i64 (.ofNat 1)))), none⟩,
  ⟨(some (sOf 4)), .pu (.mv (.t (sOf 11))), none⟩])))))) (
 .seq (.reg [⟨(some (sOf 59)), .pu (.mv (.t (sOf 3))), none⟩,
  ⟨(some (sOf 2)), .pu (.mv (.t (sOf 59))), none⟩]) (
 .ret))))) [.tmp (sOf 2)]
theorem F88_eq : (pg.funcs[88]?).bind (cFunc pg) = some F88 := by kernel_rfl
noncomputable def F89 : F := F.mk 27 (.seq (.reg [⟨(some (sOf 3)), .mk (.box 54 2 (.t (sOf 1))), none⟩,
  ⟨(some (sOf 4)), .pu (.mv (.c (.snil))), none⟩]) (
 .seq (.reg [⟨(some (sOf 5)), .pu (.mv (.c (.snil))), none⟩]) (
 .seq (.seq (.reg [⟨(some (sOf 6)), .pu (.mv (.c (.int .i64 (.ofNat 0)))), none⟩]) (
 .block 0 (.loop (.seq (.seq (.reg [⟨(some (sOf 7)), .pu (.mv (.t (sOf 6))), none⟩,
  ⟨(some (sOf 8)), .pu (.mv (.t (sOf 0))), none⟩,
  ⟨(some (sOf 9)), .pu (.lenv false (.t (sOf 8))), none⟩,
  ⟨(some (sOf 10)), .pu (.bin .lss .int (.t (sOf 7)) (.t (sOf 9))), none⟩]) (
 .cond (.t (sOf 10)) (.skip) (.exit 0))) (
 .seq (.block 1 (.seq (.dreg [(⟨(some (sOf 13)), .pu (.mv (.t (sOf 0))), none⟩, []),
  (⟨(some (sOf 14)), .pu (.mv (.t (sOf 6))), none⟩, []),
  (⟨(some (sOf 15)), .pu (.iasl 2 (.t (sOf 13)) (.t (sOf 14))), none⟩, []),
  (⟨(some (sOf 16)), .rd (.load true 2 (.t (sOf 15))), none⟩, []),
  (⟨(some (sOf 17)), .rd (.load true 2 (.t (sOf 3))), none⟩, []),
  (⟨(some (sOf 18)), .pu (.bin .neq (.agg [.li, .lb]) (.t (sOf 16)) (.t (sOf 17))), none⟩, [])]) (
 .cond (.t (sOf 18)) (.reg [⟨(some (sOf 19)), .pu (.mv (.t (sOf 5))), none⟩,
  ⟨(some (sOf 20)), .pu (.mv (.t (sOf 0))), none⟩,
  ⟨(some (sOf 21)), .pu (.mv (.t (sOf 6))), none⟩,
  ⟨(some (sOf 22)), .pu (.iasl 2 (.t (sOf 20)) (.t (sOf 21))), none⟩,
  ⟨(some (sOf 23)), .rd (.load true 2 (.t (sOf 22))), none⟩,
  ⟨(some (sOf 24)), .mk (.bslice 54 2 1 [.int .i64 (.ofNat 0), .bool false] [(0, 2, (.t (sOf 23)))]), none⟩,
  ⟨(some (sOf 25)), .wr (.app 54 2 16 (.t (sOf 19)) (.t (sOf 24))), none⟩,
  ⟨(some (sOf 5)), .pu (.mv (.t (sOf 25))), none⟩]) (.skip)))) (
 .reg [⟨(some (sOf 11)), .pu (.mv (.t (sOf 6))), none⟩,
  ⟨(some (sOf 12)), .pu (.bin .add .int (.t (sOf 11)) (.c (.int .i64 (.ofNat 1)))), none⟩,
  ⟨(some (sOf 6)), .pu (.mv (.t (sOf 12))), none⟩])))))) (
 .seq (.reg [⟨(some (sOf 26)), .pu (.mv (.t (sOf 5))), none⟩,
  ⟨(some (sOf 4)), .pu (.mv (.t (sOf 26))), none⟩]) (
 .ret))))) [.tmp (sOf 4)]
theorem F89_eq : (pg.funcs[89]?).bind (cFunc pg) = some F89 := by kernel_rfl
end Go.Im
