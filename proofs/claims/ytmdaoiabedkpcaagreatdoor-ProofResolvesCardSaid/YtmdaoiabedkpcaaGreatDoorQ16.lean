/- A part of the proof that ProofResolves holds for every input of the given program: Ct7. -/
import Derived.KernelRfl
import Derived.Test.YtmdaoiabedkpcaaGreatDoorQ15
set_option linter.unusedVariables false
set_option linter.unusedSimpArgs false
open Go
namespace Go.Im
set_option maxRecDepth 100000
-- c11: 46186 operations; 9 objects stay, 0 change, 1 come
noncomputable def c11u : Ob := [((pOf 8395), .cells [.int .i64 (.ofNat 4), .str [69], .str [97], .snil, .snil, .int .i64 (.ofNat 4), .str [66, 111, 111, 108], .str [112], .snil, .sl (pOf 8397) 0 0 1 1 none] 0 0 .rw 127),
  ((pOf 8397), .cells [.int .i64 (.ofNat 0)] 0 0 .rw 3),
  ((pOf 8400), .cells [.int .i64 (.ofNat 0), .str [66, 111, 111, 108], .str [], .snil, .snil] 0 0 .rw 127),
  ((pOf 8402), .cells [.sl (pOf 8395) 0 0 2 5 (some 2), .sl (pOf 8400) 0 0 1 5 none, .bool false, .sl (pOf 8466) 0 0 1 5 (some 1), .sl (pOf 8529) 0 0 1 5 (some 1), .bool false, .sl (pOf 8577) 0 0 2 5 (some 2), .sl (pOf 8582) 0 0 1 5 none, .bool false] 2 0 .rw 609),
  ((pOf 8466), .cells [.int .i64 (.ofNat 4), .str [69], .str [97], .snil, .snil] 0 0 .rw 127),
  ((pOf 8529), .cells [.int .i64 (.ofNat 4), .str [69], .str [98], .snil, .snil] 0 0 .rw 127),
  ((pOf 8577), .cells [.int .i64 (.ofNat 4), .str [69], .str [98], .snil, .snil, .int .i64 (.ofNat 4), .str [66, 111, 111, 108], .str [112], .snil, .sl (pOf 8579) 0 0 1 1 none] 0 0 .rw 127),
  ((pOf 8579), .cells [.int .i64 (.ofNat 0)] 0 0 .rw 3),
  ((pOf 8582), .cells [.int .i64 (.ofNat 1), .str [66, 111, 111, 108], .str [], .snil, .snil] 0 0 .rw 127)]
noncomputable def c11 : Ctr := { g := 640, args := [.sl (pOf 8402) 2 0 3 3 none], pre := c11u ++ [], nx := (pOf 8584), v := .tup [.sl (pOf 9600) 0 0 3 1 (some 3), .bool true, .int .i64 (.ofNat 0)], post := c11u ++ [((pOf 9600), .cells [.int .i64 (.ofNat 0), .int .i64 (.ofNat 1), .int .i64 (.ofNat 2)] 0 0 .rw 3)], nx' := (pOf 10705) }
noncomputable def P11 : Prog := (Pr0.with c10)
theorem c11_ok : c11.ok P11 3000 = true := by kernel_rfl
-- c12: 54503 operations; 28 objects stay, 0 change, 0 come
noncomputable def c12u : Ob := [((pOf 17), .cells [.str [69]] 0 0 .rw 9),
  ((pOf 18), .cells [.str [69]] 0 0 .rw 9),
  ((pOf 136), .cells [.int .i64 (.ofNat 4), .str [69], .str [97], .snil, .snil, .int .i64 (.ofNat 4), .str [66, 111, 111, 108], .str [112], .snil, .sl (pOf 138) 0 0 1 1 none] 1 0 .rw 127),
  ((pOf 138), .cells [.int .i64 (.ofNat 0)] 0 0 .rw 3),
  ((pOf 340), .cells [.int .i64 (.ofNat 4), .str [69], .str [97], .snil, .snil, .int .i64 (.ofNat 4), .str [69], .str [98], .snil, .snil, .int .i64 (.ofNat 11), .str [66, 111, 111, 108], .str [], .snil, .sl (pOf 342) 1 0 2 1 none] 2 0 .rw 127),
  ((pOf 342), .cells [.int .i64 (.ofNat 0), .int .i64 (.ofNat 1)] 1 0 .rw 3),
  ((pOf 527), .cells [.int .i64 (.ofNat 4), .str [69], .str [98], .snil, .snil, .int .i64 (.ofNat 4), .str [66, 111, 111, 108], .str [112], .snil, .sl (pOf 529) 0 0 1 1 none] 1 0 .rw 127),
  ((pOf 529), .cells [.int .i64 (.ofNat 0)] 0 0 .rw 3),
  ((pOf 598), .cells [.sl (pOf 136) 1 0 2 5 none, .sl (pOf 340) 2 0 3 5 none] 0 0 .rw 40),
  ((pOf 599), .cells [.str [111, 110, 101], .str [116, 119, 111]] 0 0 .rw 9),
  ((pOf 5833), .cells [.int .i64 (.ofNat 4), .str [69], .str [97], .snil, .snil, .int .i64 (.ofNat 4), .str [66, 111, 111, 108], .str [112], .snil, .sl (pOf 5835) 0 0 1 1 none] 1 0 .rw 127),
  ((pOf 5835), .cells [.int .i64 (.ofNat 0)] 0 0 .rw 3),
  ((pOf 5838), .cells [.sl (pOf 5833) 1 0 2 5 none, .sl (pOf 5841) 2 0 3 5 none, .sl (pOf 5850) 1 0 2 5 none] 2 0 .rw 40),
  ((pOf 5841), .cells [.int .i64 (.ofNat 4), .str [69], .str [97], .snil, .snil, .int .i64 (.ofNat 4), .str [69], .str [98], .snil, .snil, .int .i64 (.ofNat 11), .str [66, 111, 111, 108], .str [], .snil, .sl (pOf 5845) 0 0 2 1 none] 2 0 .rw 127),
  ((pOf 5845), .cells [.int .i64 (.ofNat 0), .int .i64 (.ofNat 1)] 0 0 .rw 3),
  ((pOf 5850), .cells [.int .i64 (.ofNat 4), .str [69], .str [98], .snil, .snil, .int .i64 (.ofNat 4), .str [66, 111, 111, 108], .str [112], .snil, .sl (pOf 5852) 0 0 1 1 none] 1 0 .rw 127),
  ((pOf 5852), .cells [.int .i64 (.ofNat 0)] 0 0 .rw 3),
  ((pOf 5856), .cells [.int .i64 (.ofNat 0), .bool false] 0 0 .rw 54),
  ((pOf 5857), .cells [.int .i64 (.ofNat 0)] 0 0 .rw 3),
  ((pOf 5859), .cells [.int .i64 (.ofNat 0), .sl (pOf 5856) 0 0 1 2 none, .snil, .sl (pOf 5857) 0 0 1 1 none, .snil, .snil, .int .i64 (.ofNat 0), .sl (pOf 5861) 0 0 1 2 none, .snil, .sl (pOf 5862) 0 0 1 1 none, .snil, .snil, .int .i64 (.ofNat 1), .sl (pOf 5865) 0 0 1 2 none, .snil, .snil, .snil, .snil, .int .i64 (.ofNat 5), .sl (pOf 5868) 0 0 3 2 none, .snil, .snil, .snil, .snil, .int .i64 (.ofNat 10), .snil, .sl (pOf 5871) 0 0 4 1 none, .sl (pOf 5872) 0 0 3 1 none, .snil, .snil] 4 0 .rw 56),
  ((pOf 5861), .cells [.int .i64 (.ofNat 1), .bool false] 0 0 .rw 54),
  ((pOf 5862), .cells [.int .i64 (.ofNat 1)] 0 0 .rw 3),
  ((pOf 5865), .cells [.int .i64 (.ofNat 2), .bool true] 0 0 .rw 54),
  ((pOf 5868), .cells [.int .i64 (.ofNat 0), .bool true, .int .i64 (.ofNat 1), .bool true, .int .i64 (.ofNat 2), .bool false] 0 0 .rw 54),
  ((pOf 5871), .cells [.int .i64 (.ofNat 3), .int .i64 (.ofNat 0), .int .i64 (.ofNat 1), .int .i64 (.ofNat 2)] 0 0 .rw 3),
  ((pOf 5872), .cells [.int .i64 (.ofNat 0), .int .i64 (.ofNat 1), .int .i64 (.ofNat 2)] 0 0 .rw 3),
  ((pOf 7186), .cells [.str [97], .snil, .str [69], .str [98], .snil, .str [69], .str [112], .sl (pOf 18) 0 0 1 1 (some 1), .str [66, 111, 111, 108], .str [120], .snil, .str [73, 110, 116]] 0 0 .rw 83),
  ((pOf 8137), .cells [.sl (pOf 5838) 2 0 3 1 none, .sl (pOf 5859) 4 0 4 6 none, .sl (pOf 17) 0 0 1 1 (some 1), .snil, .sl (pOf 7186) 0 0 4 3 none, .sl (pOf 598) 0 0 2 1 (some 2), .sl (pOf 599) 0 0 2 1 (some 2), .sl (pOf 527) 1 0 2 5 none, .int .i64 (.ofNat 0)] 0 0 .rw 167)]
noncomputable def c12 : Ctr := { g := 625, args := [.ptr (pOf 8137) 0 0 9, .int .i64 (.ofNat 3)], pre := c12u ++ [], nx := (pOf 8178), v := .int .i64 (.ofNat 0), post := c12u ++ [], nx' := (pOf 10705) }
noncomputable def P12 : Prog := (Pr0.with c11)
theorem c12_ok : c12.ok P12 3000 = true := by kernel_rfl
-- c13: 106580 operations; 31 objects stay, 0 change, 0 come
noncomputable def c13u : Ob := [((pOf 0), .cells [.fn (.func 620) [] [], .fn (.func 621) [] [], .fn (.func 622) [] [], .fn (.func 623) [] [], .fn (.func 624) [] [], .fn (.func 625) [] [], .fn (.func 626) [] [], .fn (.func 627) [] [], .fn (.func 613) [] [], .fn (.func 628) [] [], .fn (.func 629) [] []] 0 0 .ro 90),
  ((pOf 1), .cells [.fn (.func 773) [] [], .fn (.func 774) [] [], .fn (.func 773) [] [], .fn (.func 775) [] [], .fn (.func 775) [] [], .fn (.func 774) [] [], .fn (.func 776) [] [], .fn (.func 774) [] [], .fn (.func 774) [] [], .fn (.func 777) [] [], .fn (.func 778) [] []] 0 0 .ro 258),
  ((pOf 2), .cells [.str [116, 114, 117, 101], .str [102, 97, 108, 115, 101], .str [110, 111, 116], .str [97, 110, 100], .str [111, 114], .str [105, 102, 102], .str [105, 116, 101], .str [102, 111, 114, 97, 108, 108], .str [101, 120, 105, 115, 116, 115], .str [43], .str [42], .str [60], .str [60, 61]] 0 0 .ro 305),
  ((pOf 3), .cells [.str [77, 97, 112], .str [115, 101, 108, 101, 99, 116], .str [83, 75], .str [86], .str [77, 97, 112], .str [115, 116, 111, 114, 101], .str [83, 75, 86], .str [83], .str [77, 97, 112], .str [99, 111, 110, 115, 116], .str [86], .str [83], .str [77, 97, 112], .str [100, 105, 102, 102], .str [83, 83], .str [75], .str [83, 101, 113], .str [108, 101, 110], .str [83], .str [73], .str [83, 101, 113], .str [97, 116], .str [83, 73], .str [75], .str [83, 101, 113], .str [101, 109, 112, 116, 121], .str [], .str [83], .str [83, 101, 113], .str [111, 110, 101], .str [75], .str [83], .str [83, 101, 113], .str [99, 97, 116], .str [83, 83], .str [83], .str [83, 101, 113], .str [112, 117, 116], .str [83, 73, 75], .str [83], .str [83, 101, 113], .str [99, 117, 116], .str [83, 73, 73], .str [83], .str [83, 101, 113], .str [112, 114, 101], .str [83, 83], .str [66], .str [83, 101, 113], .str [100, 105, 102, 102], .str [83, 83], .str [73], .str [83, 101, 116], .str [104, 97, 115], .str [83, 75], .str [66], .str [83, 101, 116], .str [101, 109, 112, 116, 121], .str [], .str [83], .str [83, 101, 116], .str [111, 110, 101], .str [75], .str [83], .str [83, 101, 116], .str [106, 111, 105, 110], .str [83, 83], .str [83], .str [83, 101, 116], .str [109, 101, 101, 116], .str [83, 83], .str [83], .str [83, 101, 116], .str [108, 101, 115, 115], .str [83, 83], .str [83], .str [83, 101, 116], .str [115, 117, 98], .str [83, 83], .str [66], .str [83, 101, 116], .str [115, 105, 122, 101], .str [83], .str [73], .str [83, 101, 116], .str [100, 105, 102, 102], .str [83, 83], .str [75]] 0 0 .ro 388),
  ((pOf 17), .cells [.str [69]] 0 0 .rw 9),
  ((pOf 18), .cells [.str [69]] 0 0 .rw 9),
  ((pOf 19), .cells [.str [97], .snil, .str [69], .str [98], .snil, .str [69], .str [112], .sl (pOf 18) 0 0 1 1 (some 1), .str [66, 111, 111, 108], .str [120], .snil, .str [73, 110, 116]] 0 0 .rw 83),
  ((pOf 136), .cells [.int .i64 (.ofNat 4), .str [69], .str [97], .snil, .snil, .int .i64 (.ofNat 4), .str [66, 111, 111, 108], .str [112], .snil, .sl (pOf 138) 0 0 1 1 none] 1 0 .rw 127),
  ((pOf 138), .cells [.int .i64 (.ofNat 0)] 0 0 .rw 3),
  ((pOf 340), .cells [.int .i64 (.ofNat 4), .str [69], .str [97], .snil, .snil, .int .i64 (.ofNat 4), .str [69], .str [98], .snil, .snil, .int .i64 (.ofNat 11), .str [66, 111, 111, 108], .str [], .snil, .sl (pOf 342) 1 0 2 1 none] 2 0 .rw 127),
  ((pOf 342), .cells [.int .i64 (.ofNat 0), .int .i64 (.ofNat 1)] 1 0 .rw 3),
  ((pOf 527), .cells [.int .i64 (.ofNat 4), .str [69], .str [98], .snil, .snil, .int .i64 (.ofNat 4), .str [66, 111, 111, 108], .str [112], .snil, .sl (pOf 529) 0 0 1 1 none] 1 0 .rw 127),
  ((pOf 529), .cells [.int .i64 (.ofNat 0)] 0 0 .rw 3),
  ((pOf 598), .cells [.sl (pOf 136) 1 0 2 5 none, .sl (pOf 340) 2 0 3 5 none] 0 0 .rw 40),
  ((pOf 599), .cells [.str [111, 110, 101], .str [116, 119, 111]] 0 0 .rw 9),
  ((pOf 5833), .cells [.int .i64 (.ofNat 4), .str [69], .str [97], .snil, .snil, .int .i64 (.ofNat 4), .str [66, 111, 111, 108], .str [112], .snil, .sl (pOf 5835) 0 0 1 1 none] 1 0 .rw 127),
  ((pOf 5835), .cells [.int .i64 (.ofNat 0)] 0 0 .rw 3),
  ((pOf 5838), .cells [.sl (pOf 5833) 1 0 2 5 none, .sl (pOf 5841) 2 0 3 5 none, .sl (pOf 5850) 1 0 2 5 none] 2 0 .rw 40),
  ((pOf 5841), .cells [.int .i64 (.ofNat 4), .str [69], .str [97], .snil, .snil, .int .i64 (.ofNat 4), .str [69], .str [98], .snil, .snil, .int .i64 (.ofNat 11), .str [66, 111, 111, 108], .str [], .snil, .sl (pOf 5845) 0 0 2 1 none] 2 0 .rw 127),
  ((pOf 5845), .cells [.int .i64 (.ofNat 0), .int .i64 (.ofNat 1)] 0 0 .rw 3),
  ((pOf 5850), .cells [.int .i64 (.ofNat 4), .str [69], .str [98], .snil, .snil, .int .i64 (.ofNat 4), .str [66, 111, 111, 108], .str [112], .snil, .sl (pOf 5852) 0 0 1 1 none] 1 0 .rw 127),
  ((pOf 5852), .cells [.int .i64 (.ofNat 0)] 0 0 .rw 3),
  ((pOf 5856), .cells [.int .i64 (.ofNat 0), .bool false] 0 0 .rw 54),
  ((pOf 5857), .cells [.int .i64 (.ofNat 0)] 0 0 .rw 3),
  ((pOf 5859), .cells [.int .i64 (.ofNat 0), .sl (pOf 5856) 0 0 1 2 none, .snil, .sl (pOf 5857) 0 0 1 1 none, .snil, .snil, .int .i64 (.ofNat 0), .sl (pOf 5861) 0 0 1 2 none, .snil, .sl (pOf 5862) 0 0 1 1 none, .snil, .snil, .int .i64 (.ofNat 1), .sl (pOf 5865) 0 0 1 2 none, .snil, .snil, .snil, .snil, .int .i64 (.ofNat 5), .sl (pOf 5868) 0 0 3 2 none, .snil, .snil, .snil, .snil, .int .i64 (.ofNat 10), .snil, .sl (pOf 5871) 0 0 4 1 none, .sl (pOf 5872) 0 0 3 1 none, .snil, .snil] 4 0 .rw 56),
  ((pOf 5861), .cells [.int .i64 (.ofNat 1), .bool false] 0 0 .rw 54),
  ((pOf 5862), .cells [.int .i64 (.ofNat 1)] 0 0 .rw 3),
  ((pOf 5865), .cells [.int .i64 (.ofNat 2), .bool true] 0 0 .rw 54),
  ((pOf 5868), .cells [.int .i64 (.ofNat 0), .bool true, .int .i64 (.ofNat 1), .bool true, .int .i64 (.ofNat 2), .bool false] 0 0 .rw 54),
  ((pOf 5871), .cells [.int .i64 (.ofNat 3), .int .i64 (.ofNat 0), .int .i64 (.ofNat 1), .int .i64 (.ofNat 2)] 0 0 .rw 3),
  ((pOf 5872), .cells [.int .i64 (.ofNat 0), .int .i64 (.ofNat 1), .int .i64 (.ofNat 2)] 0 0 .rw 3)]
noncomputable def c13 : Ctr := { g := 9, args := [.agg [.sl (pOf 17) 0 0 1 1 (some 1), .snil, .sl (pOf 19) 0 0 4 3 (some 4)], .agg [.sl (pOf 598) 0 0 2 1 (some 2), .sl (pOf 599) 0 0 2 1 (some 2), .sl (pOf 527) 1 0 2 5 none, .int .i64 (.ofNat 0)], .agg [.sl (pOf 5838) 2 0 3 1 none, .sl (pOf 5859) 4 0 4 6 none]], pre := c13u ++ [], nx := (pOf 5875), v := .tup [.int .i64 (.ofNat 4), .int .i64 (.ofNat 28)], post := c13u ++ [], nx' := (pOf 10705) }
noncomputable def P13 : Prog := ((Pr0.with c9).with c12)
theorem c13_ok : c13.ok P13 3000 = true := by kernel_rfl
end Go.Im
