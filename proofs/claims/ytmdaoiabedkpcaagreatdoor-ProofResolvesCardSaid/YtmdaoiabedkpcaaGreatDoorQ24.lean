/- A part of the proof that ProofResolves holds for every input of the given program: Ct15. -/
import Derived.KernelRfl
import Derived.Test.YtmdaoiabedkpcaaGreatDoorQ23
set_option linter.unusedVariables false
set_option linter.unusedSimpArgs false
open Go
namespace Go.Im
set_option maxRecDepth 100000
-- c29: 19274 operations; 7 objects stay, 0 change, 3 come
noncomputable def c29u : Ob := [((pOf 21312), .cells [.str [49, 47, 49]] 0 0 .rw 9),
  ((pOf 21314), .cells [.int .i64 (.ofNat 4), .str [73, 110, 116], .str [120], .snil, .snil] 0 0 .rw 127),
  ((pOf 21316), .cells [.sl (pOf 21314) 0 0 1 5 (some 1)] 0 0 .rw 40),
  ((pOf 21337), .cells [.sl (pOf 21312) 0 0 1 1 none, .sl (pOf 21316) 0 0 1 1 none, .str [45, 51, 47, 49], .int .i64 (.ofNat 1), .sl (pOf 21550) 0 0 1 1 none, .sl (pOf 21554) 0 0 1 1 none, .str [53, 47, 49], .int .i64 (.ofNat 1)] 1 0 .rw 595),
  ((pOf 21550), .cells [.str [45, 49, 47, 49]] 0 0 .rw 9),
  ((pOf 21552), .cells [.int .i64 (.ofNat 4), .str [73, 110, 116], .str [120], .snil, .snil] 0 0 .rw 127),
  ((pOf 21554), .cells [.sl (pOf 21552) 0 0 1 5 (some 1)] 0 0 .rw 40)]
noncomputable def c29 : Ctr := { g := 663, args := [.sl (pOf 21337) 1 0 2 4 none], pre := c29u ++ [], nx := (pOf 21575), v := .tup [.sl (pOf 22126) 1 0 2 5 none, .int .i64 (.ofNat 0)], post := c29u ++ [((pOf 21975), .cells [.int .i64 (.ofNat 1), .int .i64 (.ofNat 1), .pnil, .sl (pOf 21314) 0 0 1 5 (some 1), .str [120]] 0 0 .rw 666),
  ((pOf 22126), .cells [.sl (pOf 21975) 0 0 1 5 none, .int .i64 (.negSucc 2), .int .i64 (.ofNat 1), .pnil, .int .i64 (.ofNat 1), .sl (pOf 22527) 0 0 1 5 none, .int .i64 (.ofNat 5), .int .i64 (.ofNat 1), .pnil, .int .i64 (.ofNat 1)] 1 0 .rw 671),
  ((pOf 22527), .cells [.int .i64 (.negSucc 0), .int .i64 (.ofNat 1), .pnil, .sl (pOf 21552) 0 0 1 5 (some 1), .str [120]] 0 0 .rw 666)], nx' := (pOf 22678) }
noncomputable def P29 : Prog := Pr0
theorem c29_ok : c29.ok P29 3000 = true := by kernel_rfl
-- c30: 25364 operations; 8 objects stay, 0 change, 0 come
noncomputable def c30u : Ob := [((pOf 19130), .cells [.str [49, 47, 49], .str [49, 47, 49]] 0 0 .rw 9),
  ((pOf 21312), .cells [.str [49, 47, 49]] 0 0 .rw 9),
  ((pOf 21314), .cells [.int .i64 (.ofNat 4), .str [73, 110, 116], .str [120], .snil, .snil] 0 0 .rw 127),
  ((pOf 21316), .cells [.sl (pOf 21314) 0 0 1 5 (some 1)] 0 0 .rw 40),
  ((pOf 21337), .cells [.sl (pOf 21312) 0 0 1 1 none, .sl (pOf 21316) 0 0 1 1 none, .str [45, 51, 47, 49], .int .i64 (.ofNat 1), .sl (pOf 21550) 0 0 1 1 none, .sl (pOf 21554) 0 0 1 1 none, .str [53, 47, 49], .int .i64 (.ofNat 1)] 1 0 .rw 595),
  ((pOf 21550), .cells [.str [45, 49, 47, 49]] 0 0 .rw 9),
  ((pOf 21552), .cells [.int .i64 (.ofNat 4), .str [73, 110, 116], .str [120], .snil, .snil] 0 0 .rw 127),
  ((pOf 21554), .cells [.sl (pOf 21552) 0 0 1 5 (some 1)] 0 0 .rw 40)]
noncomputable def c30 : Ctr := { g := 642, args := [.sl (pOf 21337) 1 0 2 4 none, .sl (pOf 19130) 0 0 2 1 (some 2)], pre := c30u ++ [], nx := (pOf 21575), v := .int .i64 (.ofNat 0), post := c30u ++ [], nx' := (pOf 23018) }
noncomputable def P30 : Prog := (Pr0.with c29)
theorem c30_ok : c30.ok P30 3000 = true := by kernel_rfl
-- c31: 34312 operations; 20 objects stay, 0 change, 0 come
noncomputable def c31u : Ob := [((pOf 17), .cells [.str [69]] 0 0 .rw 9),
  ((pOf 18), .cells [.str [69]] 0 0 .rw 9),
  ((pOf 136), .cells [.int .i64 (.ofNat 4), .str [69], .str [97], .snil, .snil, .int .i64 (.ofNat 4), .str [66, 111, 111, 108], .str [112], .snil, .sl (pOf 138) 0 0 1 1 none] 1 0 .rw 127),
  ((pOf 138), .cells [.int .i64 (.ofNat 0)] 0 0 .rw 3),
  ((pOf 340), .cells [.int .i64 (.ofNat 4), .str [69], .str [97], .snil, .snil, .int .i64 (.ofNat 4), .str [69], .str [98], .snil, .snil, .int .i64 (.ofNat 11), .str [66, 111, 111, 108], .str [], .snil, .sl (pOf 342) 1 0 2 1 none] 2 0 .rw 127),
  ((pOf 342), .cells [.int .i64 (.ofNat 0), .int .i64 (.ofNat 1)] 1 0 .rw 3),
  ((pOf 527), .cells [.int .i64 (.ofNat 4), .str [69], .str [98], .snil, .snil, .int .i64 (.ofNat 4), .str [66, 111, 111, 108], .str [112], .snil, .sl (pOf 529) 0 0 1 1 none] 1 0 .rw 127),
  ((pOf 529), .cells [.int .i64 (.ofNat 0)] 0 0 .rw 3),
  ((pOf 598), .cells [.sl (pOf 136) 1 0 2 5 none, .sl (pOf 340) 2 0 3 5 none] 0 0 .rw 40),
  ((pOf 599), .cells [.str [111, 110, 101], .str [116, 119, 111]] 0 0 .rw 9),
  ((pOf 18866), .cells [.int .i64 (.ofNat 4), .str [73, 110, 116], .str [120], .snil, .snil, .int .i64 (.ofNat 2), .str [73, 110, 116], .str [51], .snil, .snil, .int .i64 (.ofNat 16), .str [66, 111, 111, 108], .str [], .snil, .sl (pOf 18868) 1 0 2 1 none] 2 0 .rw 127),
  ((pOf 18868), .cells [.int .i64 (.ofNat 0), .int .i64 (.ofNat 1)] 1 0 .rw 3),
  ((pOf 19065), .cells [.int .i64 (.ofNat 4), .str [73, 110, 116], .str [120], .snil, .snil, .int .i64 (.ofNat 2), .str [73, 110, 116], .str [53], .snil, .snil, .int .i64 (.ofNat 15), .str [66, 111, 111, 108], .str [], .snil, .sl (pOf 19067) 1 0 2 1 none] 2 0 .rw 127),
  ((pOf 19067), .cells [.int .i64 (.ofNat 0), .int .i64 (.ofNat 1)] 1 0 .rw 3),
  ((pOf 19128), .cells [.sl (pOf 18866) 2 0 3 5 none, .sl (pOf 19065) 2 0 3 5 none] 0 0 .rw 40),
  ((pOf 19129), .cells [.int .i64 (.ofNat 0), .bool true, .int .i64 (.ofNat 1), .bool false] 0 0 .rw 54),
  ((pOf 19130), .cells [.str [49, 47, 49], .str [49, 47, 49]] 0 0 .rw 9),
  ((pOf 19131), .cells [.int .i64 (.ofNat 6), .sl (pOf 19129) 0 0 2 2 (some 2), .snil, .snil, .sl (pOf 19130) 0 0 2 1 (some 2), .snil] 0 0 .rw 56),
  ((pOf 20498), .cells [.str [97], .snil, .str [69], .str [98], .snil, .str [69], .str [112], .sl (pOf 18) 0 0 1 1 (some 1), .str [66, 111, 111, 108], .str [120], .snil, .str [73, 110, 116]] 0 0 .rw 83),
  ((pOf 21111), .cells [.sl (pOf 19128) 0 0 2 1 (some 2), .sl (pOf 19131) 0 0 1 6 (some 1), .sl (pOf 17) 0 0 1 1 (some 1), .snil, .sl (pOf 20498) 0 0 4 3 none, .sl (pOf 598) 0 0 2 1 (some 2), .sl (pOf 599) 0 0 2 1 (some 2), .sl (pOf 527) 1 0 2 5 none, .int .i64 (.ofNat 0)] 0 0 .rw 167)]
noncomputable def c31 : Ctr := { g := 626, args := [.ptr (pOf 21111) 0 0 9, .int .i64 (.ofNat 0)], pre := c31u ++ [], nx := (pOf 21113), v := .int .i64 (.ofNat 0), post := c31u ++ [], nx' := (pOf 23018) }
noncomputable def P31 : Prog := (Pr0.with c30)
theorem c31_ok : c31.ok P31 3000 = true := by kernel_rfl
-- c32: 79169 operations; 23 objects stay, 0 change, 0 come
noncomputable def c32u : Ob := [((pOf 0), .cells [.fn (.func 620) [] [], .fn (.func 621) [] [], .fn (.func 622) [] [], .fn (.func 623) [] [], .fn (.func 624) [] [], .fn (.func 625) [] [], .fn (.func 626) [] [], .fn (.func 627) [] [], .fn (.func 613) [] [], .fn (.func 628) [] [], .fn (.func 629) [] []] 0 0 .ro 90),
  ((pOf 1), .cells [.fn (.func 773) [] [], .fn (.func 774) [] [], .fn (.func 773) [] [], .fn (.func 775) [] [], .fn (.func 775) [] [], .fn (.func 774) [] [], .fn (.func 776) [] [], .fn (.func 774) [] [], .fn (.func 774) [] [], .fn (.func 777) [] [], .fn (.func 778) [] []] 0 0 .ro 258),
  ((pOf 2), .cells [.str [116, 114, 117, 101], .str [102, 97, 108, 115, 101], .str [110, 111, 116], .str [97, 110, 100], .str [111, 114], .str [105, 102, 102], .str [105, 116, 101], .str [102, 111, 114, 97, 108, 108], .str [101, 120, 105, 115, 116, 115], .str [43], .str [42], .str [60], .str [60, 61]] 0 0 .ro 305),
  ((pOf 3), .cells [.str [77, 97, 112], .str [115, 101, 108, 101, 99, 116], .str [83, 75], .str [86], .str [77, 97, 112], .str [115, 116, 111, 114, 101], .str [83, 75, 86], .str [83], .str [77, 97, 112], .str [99, 111, 110, 115, 116], .str [86], .str [83], .str [77, 97, 112], .str [100, 105, 102, 102], .str [83, 83], .str [75], .str [83, 101, 113], .str [108, 101, 110], .str [83], .str [73], .str [83, 101, 113], .str [97, 116], .str [83, 73], .str [75], .str [83, 101, 113], .str [101, 109, 112, 116, 121], .str [], .str [83], .str [83, 101, 113], .str [111, 110, 101], .str [75], .str [83], .str [83, 101, 113], .str [99, 97, 116], .str [83, 83], .str [83], .str [83, 101, 113], .str [112, 117, 116], .str [83, 73, 75], .str [83], .str [83, 101, 113], .str [99, 117, 116], .str [83, 73, 73], .str [83], .str [83, 101, 113], .str [112, 114, 101], .str [83, 83], .str [66], .str [83, 101, 113], .str [100, 105, 102, 102], .str [83, 83], .str [73], .str [83, 101, 116], .str [104, 97, 115], .str [83, 75], .str [66], .str [83, 101, 116], .str [101, 109, 112, 116, 121], .str [], .str [83], .str [83, 101, 116], .str [111, 110, 101], .str [75], .str [83], .str [83, 101, 116], .str [106, 111, 105, 110], .str [83, 83], .str [83], .str [83, 101, 116], .str [109, 101, 101, 116], .str [83, 83], .str [83], .str [83, 101, 116], .str [108, 101, 115, 115], .str [83, 83], .str [83], .str [83, 101, 116], .str [115, 117, 98], .str [83, 83], .str [66], .str [83, 101, 116], .str [115, 105, 122, 101], .str [83], .str [73], .str [83, 101, 116], .str [100, 105, 102, 102], .str [83, 83], .str [75]] 0 0 .ro 388),
  ((pOf 17), .cells [.str [69]] 0 0 .rw 9),
  ((pOf 18), .cells [.str [69]] 0 0 .rw 9),
  ((pOf 19), .cells [.str [97], .snil, .str [69], .str [98], .snil, .str [69], .str [112], .sl (pOf 18) 0 0 1 1 (some 1), .str [66, 111, 111, 108], .str [120], .snil, .str [73, 110, 116]] 0 0 .rw 83),
  ((pOf 136), .cells [.int .i64 (.ofNat 4), .str [69], .str [97], .snil, .snil, .int .i64 (.ofNat 4), .str [66, 111, 111, 108], .str [112], .snil, .sl (pOf 138) 0 0 1 1 none] 1 0 .rw 127),
  ((pOf 138), .cells [.int .i64 (.ofNat 0)] 0 0 .rw 3),
  ((pOf 340), .cells [.int .i64 (.ofNat 4), .str [69], .str [97], .snil, .snil, .int .i64 (.ofNat 4), .str [69], .str [98], .snil, .snil, .int .i64 (.ofNat 11), .str [66, 111, 111, 108], .str [], .snil, .sl (pOf 342) 1 0 2 1 none] 2 0 .rw 127),
  ((pOf 342), .cells [.int .i64 (.ofNat 0), .int .i64 (.ofNat 1)] 1 0 .rw 3),
  ((pOf 527), .cells [.int .i64 (.ofNat 4), .str [69], .str [98], .snil, .snil, .int .i64 (.ofNat 4), .str [66, 111, 111, 108], .str [112], .snil, .sl (pOf 529) 0 0 1 1 none] 1 0 .rw 127),
  ((pOf 529), .cells [.int .i64 (.ofNat 0)] 0 0 .rw 3),
  ((pOf 598), .cells [.sl (pOf 136) 1 0 2 5 none, .sl (pOf 340) 2 0 3 5 none] 0 0 .rw 40),
  ((pOf 599), .cells [.str [111, 110, 101], .str [116, 119, 111]] 0 0 .rw 9),
  ((pOf 18866), .cells [.int .i64 (.ofNat 4), .str [73, 110, 116], .str [120], .snil, .snil, .int .i64 (.ofNat 2), .str [73, 110, 116], .str [51], .snil, .snil, .int .i64 (.ofNat 16), .str [66, 111, 111, 108], .str [], .snil, .sl (pOf 18868) 1 0 2 1 none] 2 0 .rw 127),
  ((pOf 18868), .cells [.int .i64 (.ofNat 0), .int .i64 (.ofNat 1)] 1 0 .rw 3),
  ((pOf 19065), .cells [.int .i64 (.ofNat 4), .str [73, 110, 116], .str [120], .snil, .snil, .int .i64 (.ofNat 2), .str [73, 110, 116], .str [53], .snil, .snil, .int .i64 (.ofNat 15), .str [66, 111, 111, 108], .str [], .snil, .sl (pOf 19067) 1 0 2 1 none] 2 0 .rw 127),
  ((pOf 19067), .cells [.int .i64 (.ofNat 0), .int .i64 (.ofNat 1)] 1 0 .rw 3),
  ((pOf 19128), .cells [.sl (pOf 18866) 2 0 3 5 none, .sl (pOf 19065) 2 0 3 5 none] 0 0 .rw 40),
  ((pOf 19129), .cells [.int .i64 (.ofNat 0), .bool true, .int .i64 (.ofNat 1), .bool false] 0 0 .rw 54),
  ((pOf 19130), .cells [.str [49, 47, 49], .str [49, 47, 49]] 0 0 .rw 9),
  ((pOf 19131), .cells [.int .i64 (.ofNat 6), .sl (pOf 19129) 0 0 2 2 (some 2), .snil, .snil, .sl (pOf 19130) 0 0 2 1 (some 2), .snil] 0 0 .rw 56)]
noncomputable def c32 : Ctr := { g := 19, args := [.agg [.sl (pOf 17) 0 0 1 1 (some 1), .snil, .sl (pOf 19) 0 0 4 3 (some 4)], .agg [.sl (pOf 598) 0 0 2 1 (some 2), .sl (pOf 599) 0 0 2 1 (some 2), .sl (pOf 527) 1 0 2 5 none, .int .i64 (.ofNat 0)], .agg [.sl (pOf 19128) 0 0 2 1 (some 2), .sl (pOf 19131) 0 0 1 6 (some 1)], .int .i64 (.ofNat 0)], pre := c32u ++ [], nx := (pOf 19133), v := .int .i64 (.ofNat 0), post := c32u ++ [], nx' := (pOf 23018) }
noncomputable def P32 : Prog := ((Pr0.with c28).with c31)
theorem c32_ok : c32.ok P32 3000 = true := by kernel_rfl
-- c33: 4787 operations; 17 objects stay, 0 change, 0 come
noncomputable def c33u : Ob := [((pOf 1), .cells [.fn (.func 773) [] [], .fn (.func 774) [] [], .fn (.func 773) [] [], .fn (.func 775) [] [], .fn (.func 775) [] [], .fn (.func 774) [] [], .fn (.func 776) [] [], .fn (.func 774) [] [], .fn (.func 774) [] [], .fn (.func 777) [] [], .fn (.func 778) [] []] 0 0 .ro 258),
  ((pOf 23022), .cells [.int .i64 (.ofNat 4), .str [69], .str [97], .snil, .snil, .int .i64 (.ofNat 4), .str [66, 111, 111, 108], .str [112], .snil, .sl (pOf 23024) 0 0 1 1 none] 1 0 .rw 127),
  ((pOf 23024), .cells [.int .i64 (.ofNat 0)] 0 0 .rw 3),
  ((pOf 23027), .cells [.sl (pOf 23022) 1 0 2 5 none, .sl (pOf 23030) 2 0 3 5 none, .sl (pOf 23039) 1 0 2 5 none] 2 0 .rw 40),
  ((pOf 23030), .cells [.int .i64 (.ofNat 4), .str [69], .str [97], .snil, .snil, .int .i64 (.ofNat 4), .str [69], .str [98], .snil, .snil, .int .i64 (.ofNat 11), .str [66, 111, 111, 108], .str [], .snil, .sl (pOf 23034) 0 0 2 1 none] 2 0 .rw 127),
  ((pOf 23034), .cells [.int .i64 (.ofNat 0), .int .i64 (.ofNat 1)] 0 0 .rw 3),
  ((pOf 23039), .cells [.int .i64 (.ofNat 4), .str [69], .str [98], .snil, .snil, .int .i64 (.ofNat 4), .str [66, 111, 111, 108], .str [112], .snil, .sl (pOf 23041) 0 0 1 1 none] 1 0 .rw 127),
  ((pOf 23041), .cells [.int .i64 (.ofNat 0)] 0 0 .rw 3),
  ((pOf 23045), .cells [.int .i64 (.ofNat 0), .bool false] 0 0 .rw 54),
  ((pOf 23046), .cells [.int .i64 (.ofNat 0)] 0 0 .rw 3),
  ((pOf 23048), .cells [.int .i64 (.ofNat 0), .sl (pOf 23045) 0 0 1 2 none, .snil, .sl (pOf 23046) 0 0 1 1 none, .snil, .snil, .int .i64 (.ofNat 0), .sl (pOf 23050) 0 0 1 2 none, .snil, .sl (pOf 23051) 0 0 1 1 none, .snil, .snil, .int .i64 (.ofNat 1), .sl (pOf 23054) 0 0 1 2 none, .snil, .snil, .snil, .snil, .int .i64 (.ofNat 5), .sl (pOf 23057) 0 0 3 2 none, .snil, .snil, .snil, .snil, .int .i64 (.ofNat 10), .snil, .sl (pOf 23060) 0 0 4 1 none, .sl (pOf 23061) 0 0 3 1 none, .snil, .snil] 4 0 .rw 56),
  ((pOf 23050), .cells [.int .i64 (.ofNat 1), .bool false] 0 0 .rw 54),
  ((pOf 23051), .cells [.int .i64 (.ofNat 1)] 0 0 .rw 3),
  ((pOf 23054), .cells [.int .i64 (.ofNat 2), .bool true] 0 0 .rw 54),
  ((pOf 23057), .cells [.int .i64 (.ofNat 0), .bool true, .int .i64 (.ofNat 1), .bool true, .int .i64 (.ofNat 2), .bool false] 0 0 .rw 54),
  ((pOf 23060), .cells [.int .i64 (.ofNat 3), .int .i64 (.ofNat 0), .int .i64 (.ofNat 1), .int .i64 (.ofNat 2)] 0 0 .rw 3),
  ((pOf 23061), .cells [.int .i64 (.ofNat 0), .int .i64 (.ofNat 1), .int .i64 (.ofNat 2)] 0 0 .rw 3)]
noncomputable def c33 : Ctr := { g := 20, args := [.agg [.sl (pOf 23027) 2 0 3 1 none, .sl (pOf 23048) 4 0 5 6 none]], pre := c33u ++ [], nx := (pOf 23063), v := .tup [.int .i64 (.ofNat 0), .int .i64 (.ofNat 0)], post := c33u ++ [], nx' := (pOf 23271) }
noncomputable def P33 : Prog := Pr0
theorem c33_ok : c33.ok P33 3000 = true := by kernel_rfl
end Go.Im
