/- A part of the proof that ProofResolves holds for every input of the given program: Ct11. -/
import Derived.KernelRfl
import Derived.Test.YtmdaoiabedkpcaaGreatDoorQ19
set_option linter.unusedVariables false
set_option linter.unusedSimpArgs false
open Go
namespace Go.Im
set_option maxRecDepth 100000
-- c20: 43312 operations; 7 objects stay, 0 change, 16 come
noncomputable def c20u : Ob := [((pOf 1), .cells [.fn (.func 773) [] [], .fn (.func 774) [] [], .fn (.func 773) [] [], .fn (.func 775) [] [], .fn (.func 775) [] [], .fn (.func 774) [] [], .fn (.func 776) [] [], .fn (.func 774) [] [], .fn (.func 774) [] [], .fn (.func 777) [] [], .fn (.func 778) [] []] 0 0 .ro 258),
  ((pOf 2), .cells [.str [116, 114, 117, 101], .str [102, 97, 108, 115, 101], .str [110, 111, 116], .str [97, 110, 100], .str [111, 114], .str [105, 102, 102], .str [105, 116, 101], .str [102, 111, 114, 97, 108, 108], .str [101, 120, 105, 115, 116, 115], .str [43], .str [42], .str [60], .str [60, 61]] 0 0 .ro 305),
  ((pOf 3), .cells [.str [77, 97, 112], .str [115, 101, 108, 101, 99, 116], .str [83, 75], .str [86], .str [77, 97, 112], .str [115, 116, 111, 114, 101], .str [83, 75, 86], .str [83], .str [77, 97, 112], .str [99, 111, 110, 115, 116], .str [86], .str [83], .str [77, 97, 112], .str [100, 105, 102, 102], .str [83, 83], .str [75], .str [83, 101, 113], .str [108, 101, 110], .str [83], .str [73], .str [83, 101, 113], .str [97, 116], .str [83, 73], .str [75], .str [83, 101, 113], .str [101, 109, 112, 116, 121], .str [], .str [83], .str [83, 101, 113], .str [111, 110, 101], .str [75], .str [83], .str [83, 101, 113], .str [99, 97, 116], .str [83, 83], .str [83], .str [83, 101, 113], .str [112, 117, 116], .str [83, 73, 75], .str [83], .str [83, 101, 113], .str [99, 117, 116], .str [83, 73, 73], .str [83], .str [83, 101, 113], .str [112, 114, 101], .str [83, 83], .str [66], .str [83, 101, 113], .str [100, 105, 102, 102], .str [83, 83], .str [73], .str [83, 101, 116], .str [104, 97, 115], .str [83, 75], .str [66], .str [83, 101, 116], .str [101, 109, 112, 116, 121], .str [], .str [83], .str [83, 101, 116], .str [111, 110, 101], .str [75], .str [83], .str [83, 101, 116], .str [106, 111, 105, 110], .str [83, 83], .str [83], .str [83, 101, 116], .str [109, 101, 101, 116], .str [83, 83], .str [83], .str [83, 101, 116], .str [108, 101, 115, 115], .str [83, 83], .str [83], .str [83, 101, 116], .str [115, 117, 98], .str [83, 83], .str [66], .str [83, 101, 116], .str [115, 105, 122, 101], .str [83], .str [73], .str [83, 101, 116], .str [100, 105, 102, 102], .str [83, 83], .str [75]] 0 0 .ro 388),
  ((pOf 4), .cells [.num .i64] 0 0 .ro 3),
  ((pOf 17), .cells [.str [69]] 0 0 .rw 9),
  ((pOf 18), .cells [.str [69]] 0 0 .rw 9),
  ((pOf 19), .cells [.str [97], .snil, .str [69], .str [98], .snil, .str [69], .str [112], .sl (pOf 18) 0 0 1 1 (some 1), .str [66, 111, 111, 108], .str [120], .snil, .str [73, 110, 116]] 0 0 .rw 83)]
noncomputable def c20 : Ctr := { g := 13, args := [.agg [.sl (pOf 17) 0 0 1 1 (some 1), .snil, .sl (pOf 19) 0 0 4 3 (some 4)], .str [97, 116, 111, 109, 32, 40, 112, 32, 97, 41, 10, 97, 116, 111, 109, 32, 40, 61, 32, 97, 32, 98, 41, 10, 97, 116, 111, 109, 32, 40, 112, 32, 98, 41, 10, 104, 121, 112, 32, 91, 43, 48, 93, 32, 97, 32, 48, 10, 104, 121, 112, 32, 91, 43, 49, 93, 32, 97, 32, 49, 10, 103, 111, 97, 108, 32, 91, 45, 50, 93, 10, 99, 111, 110, 103, 32, 91, 45, 48, 32, 45, 49, 32, 43, 50, 93, 10, 114, 101, 115, 111, 108, 118, 101, 32, 91, 93, 32, 112, 32, 51, 32, 48, 32, 49, 32, 50, 32, 97, 32, 48, 32, 49, 32, 50, 10]], pre := c20u ++ [], nx := (pOf 14869), v := .tup [.agg [.sl (pOf 15588) 2 0 3 1 none, .sl (pOf 15054) 4 0 5 6 none], .int .i64 (.ofNat 0), .int .i64 (.ofNat 0)], post := c20u ++ [((pOf 15046), .cells [.int .i64 (.ofNat 0), .bool false] 0 0 .rw 54),
  ((pOf 15051), .cells [.int .i64 (.ofNat 0)] 0 0 .rw 3),
  ((pOf 15054), .cells [.int .i64 (.ofNat 0), .sl (pOf 15046) 0 0 1 2 none, .snil, .sl (pOf 15051) 0 0 1 1 none, .snil, .snil, .int .i64 (.ofNat 0), .sl (pOf 15066) 0 0 1 2 none, .snil, .sl (pOf 15071) 0 0 1 1 none, .snil, .snil, .int .i64 (.ofNat 1), .sl (pOf 15085) 0 0 1 2 none, .snil, .snil, .snil, .snil, .int .i64 (.ofNat 5), .sl (pOf 15099) 2 0 3 2 none, .snil, .snil, .snil, .snil, .int .i64 (.ofNat 10), .snil, .sl (pOf 15119) 3 0 4 1 none, .sl (pOf 15132) 2 0 3 1 none, .snil, .snil] 4 0 .rw 56),
  ((pOf 15066), .cells [.int .i64 (.ofNat 1), .bool false] 0 0 .rw 54),
  ((pOf 15071), .cells [.int .i64 (.ofNat 1)] 0 0 .rw 3),
  ((pOf 15085), .cells [.int .i64 (.ofNat 2), .bool true] 0 0 .rw 54),
  ((pOf 15099), .cells [.int .i64 (.ofNat 0), .bool true, .int .i64 (.ofNat 1), .bool true, .int .i64 (.ofNat 2), .bool false] 2 0 .rw 54),
  ((pOf 15119), .cells [.int .i64 (.ofNat 3), .int .i64 (.ofNat 0), .int .i64 (.ofNat 1), .int .i64 (.ofNat 2)] 3 0 .rw 3),
  ((pOf 15132), .cells [.int .i64 (.ofNat 0), .int .i64 (.ofNat 1), .int .i64 (.ofNat 2)] 2 0 .rw 3),
  ((pOf 15447), .cells [.int .i64 (.ofNat 4), .str [69], .str [97], .snil, .snil, .int .i64 (.ofNat 4), .str [66, 111, 111, 108], .str [112], .snil, .sl (pOf 15449) 0 0 1 1 none] 1 0 .rw 127),
  ((pOf 15449), .cells [.int .i64 (.ofNat 0)] 0 0 .rw 3),
  ((pOf 15588), .cells [.sl (pOf 15447) 1 0 2 5 none, .sl (pOf 15880) 2 0 3 5 none, .sl (pOf 16337) 1 0 2 5 none] 2 0 .rw 40),
  ((pOf 15880), .cells [.int .i64 (.ofNat 4), .str [69], .str [97], .snil, .snil, .int .i64 (.ofNat 4), .str [69], .str [98], .snil, .snil, .int .i64 (.ofNat 11), .str [66, 111, 111, 108], .str [], .snil, .sl (pOf 15882) 1 0 2 1 none] 2 0 .rw 127),
  ((pOf 15882), .cells [.int .i64 (.ofNat 0), .int .i64 (.ofNat 1)] 1 0 .rw 3),
  ((pOf 16337), .cells [.int .i64 (.ofNat 4), .str [69], .str [98], .snil, .snil, .int .i64 (.ofNat 4), .str [66, 111, 111, 108], .str [112], .snil, .sl (pOf 16339) 0 0 1 1 none] 1 0 .rw 127),
  ((pOf 16339), .cells [.int .i64 (.ofNat 0)] 0 0 .rw 3)], nx' := (pOf 16691) }
noncomputable def P20 : Prog := Pr0
theorem c20_ok : c20.ok P20 3000 = true := by kernel_rfl
end Go.Im
