/- A part of the proof that ProofResolves holds for every input of the given program: Ct0. -/
import Derived.KernelRfl
import Derived.Test.YtmdaoiabedkpcaaGreatDoorQ03
set_option linter.unusedVariables false
set_option linter.unusedSimpArgs false
open Go
namespace Go.Im
set_option maxRecDepth 100000
-- c0: 22465 operations; 0 objects stay, 0 change, 21 come
noncomputable def c0u : Ob := []
noncomputable def c0 : Ctr := { g := 8, args := [], pre := c0u ++ [], nx := (pOf 14), v := .tup [.agg [.sl (pOf 17) 0 0 1 1 (some 1), .snil, .sl (pOf 19) 0 0 4 3 (some 4)], .agg [.sl (pOf 598) 0 0 2 1 (some 2), .sl (pOf 599) 0 0 2 1 (some 2), .sl (pOf 527) 1 0 2 5 none, .int .i64 (.ofNat 0)], .agg [.sl (pOf 600) 0 0 3 1 (some 3), .sl (pOf 597) 0 0 5 6 (some 5)]], post := c0u ++ [((pOf 17), .cells [.str [69]] 0 0 .rw 9),
  ((pOf 18), .cells [.str [69]] 0 0 .rw 9),
  ((pOf 19), .cells [.str [97], .snil, .str [69], .str [98], .snil, .str [69], .str [112], .sl (pOf 18) 0 0 1 1 (some 1), .str [66, 111, 111, 108], .str [120], .snil, .str [73, 110, 116]] 0 0 .rw 83),
  ((pOf 136), .cells [.int .i64 (.ofNat 4), .str [69], .str [97], .snil, .snil, .int .i64 (.ofNat 4), .str [66, 111, 111, 108], .str [112], .snil, .sl (pOf 138) 0 0 1 1 none] 1 0 .rw 127),
  ((pOf 138), .cells [.int .i64 (.ofNat 0)] 0 0 .rw 3),
  ((pOf 340), .cells [.int .i64 (.ofNat 4), .str [69], .str [97], .snil, .snil, .int .i64 (.ofNat 4), .str [69], .str [98], .snil, .snil, .int .i64 (.ofNat 11), .str [66, 111, 111, 108], .str [], .snil, .sl (pOf 342) 1 0 2 1 none] 2 0 .rw 127),
  ((pOf 342), .cells [.int .i64 (.ofNat 0), .int .i64 (.ofNat 1)] 1 0 .rw 3),
  ((pOf 527), .cells [.int .i64 (.ofNat 4), .str [69], .str [98], .snil, .snil, .int .i64 (.ofNat 4), .str [66, 111, 111, 108], .str [112], .snil, .sl (pOf 529) 0 0 1 1 none] 1 0 .rw 127),
  ((pOf 529), .cells [.int .i64 (.ofNat 0)] 0 0 .rw 3),
  ((pOf 584), .cells [.int .i64 (.ofNat 0), .bool false] 0 0 .rw 54),
  ((pOf 585), .cells [.int .i64 (.ofNat 0)] 0 0 .rw 3),
  ((pOf 587), .cells [.int .i64 (.ofNat 1), .bool false] 0 0 .rw 54),
  ((pOf 588), .cells [.int .i64 (.ofNat 1)] 0 0 .rw 3),
  ((pOf 590), .cells [.int .i64 (.ofNat 2), .bool true] 0 0 .rw 54),
  ((pOf 594), .cells [.int .i64 (.ofNat 0), .bool true, .int .i64 (.ofNat 1), .bool true, .int .i64 (.ofNat 2), .bool false] 0 0 .rw 54),
  ((pOf 595), .cells [.int .i64 (.ofNat 3), .int .i64 (.ofNat 0), .int .i64 (.ofNat 1), .int .i64 (.ofNat 2)] 0 0 .rw 3),
  ((pOf 596), .cells [.int .i64 (.ofNat 0), .int .i64 (.ofNat 1), .int .i64 (.ofNat 2)] 0 0 .rw 3),
  ((pOf 597), .cells [.int .i64 (.ofNat 0), .sl (pOf 584) 0 0 1 2 (some 1), .snil, .sl (pOf 585) 0 0 1 1 (some 1), .snil, .snil, .int .i64 (.ofNat 0), .sl (pOf 587) 0 0 1 2 (some 1), .snil, .sl (pOf 588) 0 0 1 1 (some 1), .snil, .snil, .int .i64 (.ofNat 1), .sl (pOf 590) 0 0 1 2 (some 1), .snil, .snil, .snil, .snil, .int .i64 (.ofNat 5), .sl (pOf 594) 0 0 3 2 (some 3), .snil, .snil, .snil, .snil, .int .i64 (.ofNat 10), .snil, .sl (pOf 595) 0 0 4 1 (some 4), .sl (pOf 596) 0 0 3 1 (some 3), .snil, .snil] 0 0 .rw 56),
  ((pOf 598), .cells [.sl (pOf 136) 1 0 2 5 none, .sl (pOf 340) 2 0 3 5 none] 0 0 .rw 40),
  ((pOf 599), .cells [.str [111, 110, 101], .str [116, 119, 111]] 0 0 .rw 9),
  ((pOf 600), .cells [.sl (pOf 136) 1 0 2 5 none, .sl (pOf 340) 2 0 3 5 none, .sl (pOf 527) 1 0 2 5 none] 0 0 .rw 40)], nx' := (pOf 601) }
noncomputable def P0 : Prog := Pr0
theorem c0_ok : c0.ok P0 3000 = true := by kernel_rfl
-- c1: 21194 operations; 13 objects stay, 0 change, 0 come
noncomputable def c1u : Ob := [((pOf 2), .cells [.str [116, 114, 117, 101], .str [102, 97, 108, 115, 101], .str [110, 111, 116], .str [97, 110, 100], .str [111, 114], .str [105, 102, 102], .str [105, 116, 101], .str [102, 111, 114, 97, 108, 108], .str [101, 120, 105, 115, 116, 115], .str [43], .str [42], .str [60], .str [60, 61]] 0 0 .ro 305),
  ((pOf 3), .cells [.str [77, 97, 112], .str [115, 101, 108, 101, 99, 116], .str [83, 75], .str [86], .str [77, 97, 112], .str [115, 116, 111, 114, 101], .str [83, 75, 86], .str [83], .str [77, 97, 112], .str [99, 111, 110, 115, 116], .str [86], .str [83], .str [77, 97, 112], .str [100, 105, 102, 102], .str [83, 83], .str [75], .str [83, 101, 113], .str [108, 101, 110], .str [83], .str [73], .str [83, 101, 113], .str [97, 116], .str [83, 73], .str [75], .str [83, 101, 113], .str [101, 109, 112, 116, 121], .str [], .str [83], .str [83, 101, 113], .str [111, 110, 101], .str [75], .str [83], .str [83, 101, 113], .str [99, 97, 116], .str [83, 83], .str [83], .str [83, 101, 113], .str [112, 117, 116], .str [83, 73, 75], .str [83], .str [83, 101, 113], .str [99, 117, 116], .str [83, 73, 73], .str [83], .str [83, 101, 113], .str [112, 114, 101], .str [83, 83], .str [66], .str [83, 101, 113], .str [100, 105, 102, 102], .str [83, 83], .str [73], .str [83, 101, 116], .str [104, 97, 115], .str [83, 75], .str [66], .str [83, 101, 116], .str [101, 109, 112, 116, 121], .str [], .str [83], .str [83, 101, 116], .str [111, 110, 101], .str [75], .str [83], .str [83, 101, 116], .str [106, 111, 105, 110], .str [83, 83], .str [83], .str [83, 101, 116], .str [109, 101, 101, 116], .str [83, 83], .str [83], .str [83, 101, 116], .str [108, 101, 115, 115], .str [83, 83], .str [83], .str [83, 101, 116], .str [115, 117, 98], .str [83, 83], .str [66], .str [83, 101, 116], .str [115, 105, 122, 101], .str [83], .str [73], .str [83, 101, 116], .str [100, 105, 102, 102], .str [83, 83], .str [75]] 0 0 .ro 388),
  ((pOf 17), .cells [.str [69]] 0 0 .rw 9),
  ((pOf 18), .cells [.str [69]] 0 0 .rw 9),
  ((pOf 19), .cells [.str [97], .snil, .str [69], .str [98], .snil, .str [69], .str [112], .sl (pOf 18) 0 0 1 1 (some 1), .str [66, 111, 111, 108], .str [120], .snil, .str [73, 110, 116]] 0 0 .rw 83),
  ((pOf 136), .cells [.int .i64 (.ofNat 4), .str [69], .str [97], .snil, .snil, .int .i64 (.ofNat 4), .str [66, 111, 111, 108], .str [112], .snil, .sl (pOf 138) 0 0 1 1 none] 1 0 .rw 127),
  ((pOf 138), .cells [.int .i64 (.ofNat 0)] 0 0 .rw 3),
  ((pOf 340), .cells [.int .i64 (.ofNat 4), .str [69], .str [97], .snil, .snil, .int .i64 (.ofNat 4), .str [69], .str [98], .snil, .snil, .int .i64 (.ofNat 11), .str [66, 111, 111, 108], .str [], .snil, .sl (pOf 342) 1 0 2 1 none] 2 0 .rw 127),
  ((pOf 342), .cells [.int .i64 (.ofNat 0), .int .i64 (.ofNat 1)] 1 0 .rw 3),
  ((pOf 527), .cells [.int .i64 (.ofNat 4), .str [69], .str [98], .snil, .snil, .int .i64 (.ofNat 4), .str [66, 111, 111, 108], .str [112], .snil, .sl (pOf 529) 0 0 1 1 none] 1 0 .rw 127),
  ((pOf 529), .cells [.int .i64 (.ofNat 0)] 0 0 .rw 3),
  ((pOf 598), .cells [.sl (pOf 136) 1 0 2 5 none, .sl (pOf 340) 2 0 3 5 none] 0 0 .rw 40),
  ((pOf 599), .cells [.str [111, 110, 101], .str [116, 119, 111]] 0 0 .rw 9)]
noncomputable def c1 : Ctr := { g := 90, args := [.agg [.sl (pOf 17) 0 0 1 1 (some 1), .snil, .sl (pOf 19) 0 0 4 3 (some 4)], .agg [.sl (pOf 598) 0 0 2 1 (some 2), .sl (pOf 599) 0 0 2 1 (some 2), .sl (pOf 527) 1 0 2 5 none, .int .i64 (.ofNat 0)]], pre := c1u ++ [], nx := (pOf 808), v := .int .i64 (.ofNat 0), post := c1u ++ [], nx' := (pOf 1756) }
noncomputable def P1 : Prog := Pr0
theorem c1_ok : c1.ok P1 3000 = true := by kernel_rfl
end Go.Im
