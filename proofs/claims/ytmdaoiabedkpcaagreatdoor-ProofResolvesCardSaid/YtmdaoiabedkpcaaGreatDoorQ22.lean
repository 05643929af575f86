/- A part of the proof that ProofResolves holds for every input of the given program: Ct13. -/
import Derived.KernelRfl
import Derived.Test.YtmdaoiabedkpcaaGreatDoorQ21
set_option linter.unusedVariables false
set_option linter.unusedSimpArgs false
open Go
namespace Go.Im
set_option maxRecDepth 100000
-- c24: 11590 operations; 11 objects stay, 0 change, 4 come
noncomputable def c24u : Ob := [((pOf 136), .cells [.int .i64 (.ofNat 4), .str [69], .str [97], .snil, .snil, .int .i64 (.ofNat 4), .str [66, 111, 111, 108], .str [112], .snil, .sl (pOf 138) 0 0 1 1 none] 1 0 .rw 127),
  ((pOf 138), .cells [.int .i64 (.ofNat 0)] 0 0 .rw 3),
  ((pOf 340), .cells [.int .i64 (.ofNat 4), .str [69], .str [97], .snil, .snil, .int .i64 (.ofNat 4), .str [69], .str [98], .snil, .snil, .int .i64 (.ofNat 11), .str [66, 111, 111, 108], .str [], .snil, .sl (pOf 342) 1 0 2 1 none] 2 0 .rw 127),
  ((pOf 342), .cells [.int .i64 (.ofNat 0), .int .i64 (.ofNat 1)] 1 0 .rw 3),
  ((pOf 527), .cells [.int .i64 (.ofNat 4), .str [69], .str [98], .snil, .snil, .int .i64 (.ofNat 4), .str [66, 111, 111, 108], .str [112], .snil, .sl (pOf 529) 0 0 1 1 none] 1 0 .rw 127),
  ((pOf 529), .cells [.int .i64 (.ofNat 0)] 0 0 .rw 3),
  ((pOf 18069), .cells [.int .i64 (.ofNat 4), .str [69], .str [97], .snil, .snil, .int .i64 (.ofNat 4), .str [66, 111, 111, 108], .str [112], .snil, .sl (pOf 18072) 0 0 1 1 none, .int .i64 (.ofNat 4), .str [69], .str [98], .snil, .snil, .int .i64 (.ofNat 4), .str [66, 111, 111, 108], .str [112], .snil, .sl (pOf 18080) 0 0 1 1 none, .int .i64 (.ofNat 6), .str [66, 111, 111, 108], .str [], .snil, .sl (pOf 18075) 1 0 2 1 none] 4 0 .rw 127),
  ((pOf 18072), .cells [.int .i64 (.ofNat 0)] 0 0 .rw 3),
  ((pOf 18075), .cells [.int .i64 (.ofNat 1), .int .i64 (.ofNat 3)] 1 0 .rw 3),
  ((pOf 18080), .cells [.int .i64 (.ofNat 2)] 0 0 .rw 3),
  ((pOf 18196), .cells [.sl (pOf 18069) 4 0 5 5 none, .sl (pOf 136) 1 0 2 5 none, .sl (pOf 340) 2 0 3 5 none, .sl (pOf 527) 1 0 2 5 none] 0 0 .rw 40)]
noncomputable def c24 : Ctr := { g := 18, args := [.agg [.sl (pOf 18196) 0 0 4 1 none, .snil], .int .i64 (.ofNat 0)], pre := c24u ++ [], nx := (pOf 18198), v := .tup [.sl (pOf 18710) 2 0 3 1 none, .int .i64 (.ofNat 0)], post := c24u ++ [((pOf 18703), .cells [.int .i64 (.ofNat 0), .bool true, .int .i64 (.ofNat 1), .bool false] 0 0 .rw 54),
  ((pOf 18710), .cells [.sl (pOf 18703) 0 0 2 2 (some 2), .sl (pOf 18711) 0 0 2 2 (some 2), .sl (pOf 18718) 0 0 3 2 (some 3)] 2 0 .rw 25),
  ((pOf 18711), .cells [.int .i64 (.ofNat 0), .bool true, .int .i64 (.ofNat 3), .bool false] 0 0 .rw 54),
  ((pOf 18718), .cells [.int .i64 (.ofNat 0), .bool false, .int .i64 (.ofNat 1), .bool true, .int .i64 (.ofNat 3), .bool true] 0 0 .rw 54)], nx' := (pOf 18730) }
noncomputable def P24 : Prog := Pr0
theorem c24_ok : c24.ok P24 3000 = true := by kernel_rfl
-- c25: 7991 operations; 3 objects stay, 0 change, 2 come
noncomputable def c25u : Ob := [((pOf 17), .cells [.str [69]] 0 0 .rw 9),
  ((pOf 18), .cells [.str [69]] 0 0 .rw 9),
  ((pOf 19), .cells [.str [97], .snil, .str [69], .str [98], .snil, .str [69], .str [112], .sl (pOf 18) 0 0 1 1 (some 1), .str [66, 111, 111, 108], .str [120], .snil, .str [73, 110, 116]] 0 0 .rw 83)]
noncomputable def c25 : Ctr := { g := 17, args := [.agg [.sl (pOf 17) 0 0 1 1 (some 1), .snil, .sl (pOf 19) 0 0 4 3 (some 4)], .snil, .str [40, 60, 61, 32, 120, 32, 51, 41]], pre := c25u ++ [], nx := (pOf 18730), v := .tup [.sl (pOf 18866) 2 0 3 5 none, .int .i64 (.ofNat 0), .int .i64 (.ofNat 0)], post := c25u ++ [((pOf 18866), .cells [.int .i64 (.ofNat 4), .str [73, 110, 116], .str [120], .snil, .snil, .int .i64 (.ofNat 2), .str [73, 110, 116], .str [51], .snil, .snil, .int .i64 (.ofNat 16), .str [66, 111, 111, 108], .str [], .snil, .sl (pOf 18868) 1 0 2 1 none] 2 0 .rw 127),
  ((pOf 18868), .cells [.int .i64 (.ofNat 0), .int .i64 (.ofNat 1)] 1 0 .rw 3)], nx' := (pOf 18929) }
noncomputable def P25 : Prog := Pr0
theorem c25_ok : c25.ok P25 3000 = true := by kernel_rfl
-- c26: 7942 operations; 3 objects stay, 0 change, 2 come
noncomputable def c26u : Ob := [((pOf 17), .cells [.str [69]] 0 0 .rw 9),
  ((pOf 18), .cells [.str [69]] 0 0 .rw 9),
  ((pOf 19), .cells [.str [97], .snil, .str [69], .str [98], .snil, .str [69], .str [112], .sl (pOf 18) 0 0 1 1 (some 1), .str [66, 111, 111, 108], .str [120], .snil, .str [73, 110, 116]] 0 0 .rw 83)]
noncomputable def c26 : Ctr := { g := 17, args := [.agg [.sl (pOf 17) 0 0 1 1 (some 1), .snil, .sl (pOf 19) 0 0 4 3 (some 4)], .snil, .str [40, 60, 32, 120, 32, 53, 41]], pre := c26u ++ [], nx := (pOf 18929), v := .tup [.sl (pOf 19065) 2 0 3 5 none, .int .i64 (.ofNat 0), .int .i64 (.ofNat 0)], post := c26u ++ [((pOf 19065), .cells [.int .i64 (.ofNat 4), .str [73, 110, 116], .str [120], .snil, .snil, .int .i64 (.ofNat 2), .str [73, 110, 116], .str [53], .snil, .snil, .int .i64 (.ofNat 15), .str [66, 111, 111, 108], .str [], .snil, .sl (pOf 19067) 1 0 2 1 none] 2 0 .rw 127),
  ((pOf 19067), .cells [.int .i64 (.ofNat 0), .int .i64 (.ofNat 1)] 1 0 .rw 3)], nx' := (pOf 19128) }
noncomputable def P26 : Prog := Pr0
theorem c26_ok : c26.ok P26 3000 = true := by kernel_rfl
end Go.Im
