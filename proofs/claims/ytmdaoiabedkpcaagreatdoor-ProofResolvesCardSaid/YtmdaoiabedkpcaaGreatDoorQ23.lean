/- A part of the proof that ProofResolves holds for every input of the given program: Ct14. -/
import Derived.KernelRfl
import Derived.Test.YtmdaoiabedkpcaaGreatDoorQ22
set_option linter.unusedVariables false
set_option linter.unusedSimpArgs false
open Go
namespace Go.Im
set_option maxRecDepth 100000
-- c27: 21194 operations; 13 objects stay, 0 change, 0 come
noncomputable def c27u : Ob := [((pOf 2), .cells [.str [116, 114, 117, 101], .str [102, 97, 108, 115, 101], .str [110, 111, 116], .str [97, 110, 100], .str [111, 114], .str [105, 102, 102], .str [105, 116, 101], .str [102, 111, 114, 97, 108, 108], .str [101, 120, 105, 115, 116, 115], .str [43], .str [42], .str [60], .str [60, 61]] 0 0 .ro 305),
  ((pOf 3), .cells [.str [77, 97, 112], .str [115, 101, 108, 101, 99, 116], .str [83, 75], .str [86], .str [77, 97, 112], .str [115, 116, 111, 114, 101], .str [83, 75, 86], .str [83], .str [77, 97, 112], .str [99, 111, 110, 115, 116], .str [86], .str [83], .str [77, 97, 112], .str [100, 105, 102, 102], .str [83, 83], .str [75], .str [83, 101, 113], .str [108, 101, 110], .str [83], .str [73], .str [83, 101, 113], .str [97, 116], .str [83, 73], .str [75], .str [83, 101, 113], .str [101, 109, 112, 116, 121], .str [], .str [83], .str [83, 101, 113], .str [111, 110, 101], .str [75], .str [83], .str [83, 101, 113], .str [99, 97, 116], .str [83, 83], .str [83], .str [83, 101, 113], .str [112, 117, 116], .str [83, 73, 75], .str [83], .str [83, 101, 113], .str [99, 117, 116], .str [83, 73, 73], .str [83], .str [83, 101, 113], .str [112, 114, 101], .str [83, 83], .str [66], .str [83, 101, 113], .str [100, 105, 102, 102], .str [83, 83], .str [73], .str [83, 101, 116], .str [104, 97, 115], .str [83, 75], .str [66], .str [83, 101, 116], .str [101, 109, 112, 116, 121], .str [], .str [83], .str [83, 101, 116], .str [111, 110, 101], .str [75], .str [83], .str [83, 101, 116], .str [106, 111, 105, 110], .str [83, 83], .str [83], .str [83, 101, 116], .str [109, 101, 101, 116], .str [83, 83], .str [83], .str [83, 101, 116], .str [108, 101, 115, 115], .str [83, 83], .str [83], .str [83, 101, 116], .str [115, 117, 98], .str [83, 83], .str [66], .str [83, 101, 116], .str [115, 105, 122, 101], .str [83], .str [73], .str [83, 101, 116], .str [100, 105, 102, 102], .str [83, 83], .str [75]] 0 0 .ro 388),
  ((pOf 17), .cells [.str [69]] 0 0 .rw 9),
  ((pOf 18), .cells [.str [69]] 0 0 .rw 9),
  ((pOf 19), .cells [.str [97], .snil, .str [69], .str [98], .snil, .str [69], .str [112], .sl (pOf 18) 0 0 1 1 (some 1), .str [66, 111, 111, 108], .str [120], .snil, .str [73, 110, 116]] 0 0 .rw 83),
  ((pOf 136), .cells [.int .i64 (.ofNat 4), .str [69], .str [97], .snil, .snil, .int .i64 (.ofNat 4), .str [66, 111, 111, 108], .str [112], .snil, .sl (pOf 138) 0 0 1 1 none] 1 0 .rw 127),
  ((pOf 138), .cells [.int .i64 (.ofNat 0)] 0 0 .rw 3),
  ((pOf 340), .cells [.int .i64 (.ofNat 4), .str [69], .str [97], .snil, .snil, .int .i64 (.ofNat 4), .str [69], .str [98], .snil, .snil, .int .i64 (.ofNat 11), .str [66, 111, 111, 108], .str [], .snil, .sl (pOf 342) 1 0 2 1 none] 2 0 .rw 127),
  ((pOf 342), .cells [.int .i64 (.ofNat 0), .int .i64 (.ofNat 1)] 1 0 .rw 3),
  ((pOf 527), .cells [.int .i64 (.ofNat 4), .str [69], .str [98], .snil, .snil, .int .i64 (.ofNat 4), .str [66, 111, 111, 108], .str [112], .snil, .sl (pOf 529) 0 0 1 1 none] 1 0 .rw 127),
  ((pOf 529), .cells [.int .i64 (.ofNat 0)] 0 0 .rw 3),
  ((pOf 598), .cells [.sl (pOf 136) 1 0 2 5 none, .sl (pOf 340) 2 0 3 5 none] 0 0 .rw 40),
  ((pOf 599), .cells [.str [111, 110, 101], .str [116, 119, 111]] 0 0 .rw 9)]
noncomputable def c27 : Ctr := { g := 90, args := [.agg [.sl (pOf 17) 0 0 1 1 (some 1), .snil, .sl (pOf 19) 0 0 4 3 (some 4)], .agg [.sl (pOf 598) 0 0 2 1 (some 2), .sl (pOf 599) 0 0 2 1 (some 2), .sl (pOf 527) 1 0 2 5 none, .int .i64 (.ofNat 0)]], pre := c27u ++ [], nx := (pOf 19292), v := .int .i64 (.ofNat 0), post := c27u ++ [], nx' := (pOf 20240) }
noncomputable def P27 : Prog := Pr0
theorem c27_ok : c27.ok P27 3000 = true := by kernel_rfl
-- c28: 44789 operations; 22 objects stay, 0 change, 2 come
noncomputable def c28u : Ob := [((pOf 1), .cells [.fn (.func 773) [] [], .fn (.func 774) [] [], .fn (.func 773) [] [], .fn (.func 775) [] [], .fn (.func 775) [] [], .fn (.func 774) [] [], .fn (.func 776) [] [], .fn (.func 774) [] [], .fn (.func 774) [] [], .fn (.func 777) [] [], .fn (.func 778) [] []] 0 0 .ro 258),
  ((pOf 2), .cells [.str [116, 114, 117, 101], .str [102, 97, 108, 115, 101], .str [110, 111, 116], .str [97, 110, 100], .str [111, 114], .str [105, 102, 102], .str [105, 116, 101], .str [102, 111, 114, 97, 108, 108], .str [101, 120, 105, 115, 116, 115], .str [43], .str [42], .str [60], .str [60, 61]] 0 0 .ro 305),
  ((pOf 3), .cells [.str [77, 97, 112], .str [115, 101, 108, 101, 99, 116], .str [83, 75], .str [86], .str [77, 97, 112], .str [115, 116, 111, 114, 101], .str [83, 75, 86], .str [83], .str [77, 97, 112], .str [99, 111, 110, 115, 116], .str [86], .str [83], .str [77, 97, 112], .str [100, 105, 102, 102], .str [83, 83], .str [75], .str [83, 101, 113], .str [108, 101, 110], .str [83], .str [73], .str [83, 101, 113], .str [97, 116], .str [83, 73], .str [75], .str [83, 101, 113], .str [101, 109, 112, 116, 121], .str [], .str [83], .str [83, 101, 113], .str [111, 110, 101], .str [75], .str [83], .str [83, 101, 113], .str [99, 97, 116], .str [83, 83], .str [83], .str [83, 101, 113], .str [112, 117, 116], .str [83, 73, 75], .str [83], .str [83, 101, 113], .str [99, 117, 116], .str [83, 73, 73], .str [83], .str [83, 101, 113], .str [112, 114, 101], .str [83, 83], .str [66], .str [83, 101, 113], .str [100, 105, 102, 102], .str [83, 83], .str [73], .str [83, 101, 116], .str [104, 97, 115], .str [83, 75], .str [66], .str [83, 101, 116], .str [101, 109, 112, 116, 121], .str [], .str [83], .str [83, 101, 116], .str [111, 110, 101], .str [75], .str [83], .str [83, 101, 116], .str [106, 111, 105, 110], .str [83, 83], .str [83], .str [83, 101, 116], .str [109, 101, 101, 116], .str [83, 83], .str [83], .str [83, 101, 116], .str [108, 101, 115, 115], .str [83, 83], .str [83], .str [83, 101, 116], .str [115, 117, 98], .str [83, 83], .str [66], .str [83, 101, 116], .str [115, 105, 122, 101], .str [83], .str [73], .str [83, 101, 116], .str [100, 105, 102, 102], .str [83, 83], .str [75]] 0 0 .ro 388),
  ((pOf 17), .cells [.str [69]] 0 0 .rw 9),
  ((pOf 18), .cells [.str [69]] 0 0 .rw 9),
  ((pOf 19), .cells [.str [97], .snil, .str [69], .str [98], .snil, .str [69], .str [112], .sl (pOf 18) 0 0 1 1 (some 1), .str [66, 111, 111, 108], .str [120], .snil, .str [73, 110, 116]] 0 0 .rw 83),
  ((pOf 136), .cells [.int .i64 (.ofNat 4), .str [69], .str [97], .snil, .snil, .int .i64 (.ofNat 4), .str [66, 111, 111, 108], .str [112], .snil, .sl (pOf 138) 0 0 1 1 none] 1 0 .rw 127),
  ((pOf 138), .cells [.int .i64 (.ofNat 0)] 0 0 .rw 3),
  ((pOf 340), .cells [.int .i64 (.ofNat 4), .str [69], .str [97], .snil, .snil, .int .i64 (.ofNat 4), .str [69], .str [98], .snil, .snil, .int .i64 (.ofNat 11), .str [66, 111, 111, 108], .str [], .snil, .sl (pOf 342) 1 0 2 1 none] 2 0 .rw 127),
  ((pOf 342), .cells [.int .i64 (.ofNat 0), .int .i64 (.ofNat 1)] 1 0 .rw 3),
  ((pOf 527), .cells [.int .i64 (.ofNat 4), .str [69], .str [98], .snil, .snil, .int .i64 (.ofNat 4), .str [66, 111, 111, 108], .str [112], .snil, .sl (pOf 529) 0 0 1 1 none] 1 0 .rw 127),
  ((pOf 529), .cells [.int .i64 (.ofNat 0)] 0 0 .rw 3),
  ((pOf 598), .cells [.sl (pOf 136) 1 0 2 5 none, .sl (pOf 340) 2 0 3 5 none] 0 0 .rw 40),
  ((pOf 599), .cells [.str [111, 110, 101], .str [116, 119, 111]] 0 0 .rw 9),
  ((pOf 18866), .cells [.int .i64 (.ofNat 4), .str [73, 110, 116], .str [120], .snil, .snil, .int .i64 (.ofNat 2), .str [73, 110, 116], .str [51], .snil, .snil, .int .i64 (.ofNat 16), .str [66, 111, 111, 108], .str [], .snil, .sl (pOf 18868) 1 0 2 1 none] 2 0 .rw 127),
  ((pOf 18868), .cells [.int .i64 (.ofNat 0), .int .i64 (.ofNat 1)] 1 0 .rw 3),
  ((pOf 19065), .cells [.int .i64 (.ofNat 4), .str [73, 110, 116], .str [120], .snil, .snil, .int .i64 (.ofNat 2), .str [73, 110, 116], .str [53], .snil, .snil, .int .i64 (.ofNat 15), .str [66, 111, 111, 108], .str [], .snil, .sl (pOf 19067) 1 0 2 1 none] 2 0 .rw 127),
  ((pOf 19067), .cells [.int .i64 (.ofNat 0), .int .i64 (.ofNat 1)] 1 0 .rw 3),
  ((pOf 19128), .cells [.sl (pOf 18866) 2 0 3 5 none, .sl (pOf 19065) 2 0 3 5 none] 0 0 .rw 40),
  ((pOf 19129), .cells [.int .i64 (.ofNat 0), .bool true, .int .i64 (.ofNat 1), .bool false] 0 0 .rw 54),
  ((pOf 19130), .cells [.str [49, 47, 49], .str [49, 47, 49]] 0 0 .rw 9),
  ((pOf 19131), .cells [.int .i64 (.ofNat 6), .sl (pOf 19129) 0 0 2 2 (some 2), .snil, .snil, .sl (pOf 19130) 0 0 2 1 (some 2), .snil] 0 0 .rw 56)]
noncomputable def c28 : Ctr := { g := 36, args := [.agg [.sl (pOf 17) 0 0 1 1 (some 1), .snil, .sl (pOf 19) 0 0 4 3 (some 4)], .agg [.sl (pOf 598) 0 0 2 1 (some 2), .sl (pOf 599) 0 0 2 1 (some 2), .sl (pOf 527) 1 0 2 5 none, .int .i64 (.ofNat 0)], .agg [.sl (pOf 19128) 0 0 2 1 (some 2), .sl (pOf 19131) 0 0 1 6 (some 1)]], pre := c28u ++ [], nx := (pOf 19136), v := .tup [.ptr (pOf 21111) 0 0 9, .int .i64 (.ofNat 0), .int .i64 (.ofNat 0)], post := c28u ++ [((pOf 20498), .cells [.str [97], .snil, .str [69], .str [98], .snil, .str [69], .str [112], .sl (pOf 18) 0 0 1 1 (some 1), .str [66, 111, 111, 108], .str [120], .snil, .str [73, 110, 116]] 0 0 .rw 83),
  ((pOf 21111), .cells [.sl (pOf 19128) 0 0 2 1 (some 2), .sl (pOf 19131) 0 0 1 6 (some 1), .sl (pOf 17) 0 0 1 1 (some 1), .snil, .sl (pOf 20498) 0 0 4 3 none, .sl (pOf 598) 0 0 2 1 (some 2), .sl (pOf 599) 0 0 2 1 (some 2), .sl (pOf 527) 1 0 2 5 none, .int .i64 (.ofNat 0)] 0 0 .rw 167)], nx' := (pOf 21112) }
noncomputable def P28 : Prog := (Pr0.with c27)
theorem c28_ok : c28.ok P28 3000 = true := by kernel_rfl
end Go.Im
