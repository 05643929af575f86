/- A part of the proof that ProofResolves holds for every input of the given program: Ct3. -/
import Derived.KernelRfl
import Derived.Test.YtmdaoiabedkpcaaGreatDoorQ11
set_option linter.unusedVariables false
set_option linter.unusedSimpArgs false
open Go
namespace Go.Im
set_option maxRecDepth 100000
-- c4: 46186 operations; 9 objects stay, 0 change, 1 come
noncomputable def c4u : Ob := [((pOf 3179), .cells [.int .i64 (.ofNat 4), .str [69], .str [97], .snil, .snil, .int .i64 (.ofNat 4), .str [66, 111, 111, 108], .str [112], .snil, .sl (pOf 3181) 0 0 1 1 none] 0 0 .rw 127),
  ((pOf 3181), .cells [.int .i64 (.ofNat 0)] 0 0 .rw 3),
  ((pOf 3184), .cells [.int .i64 (.ofNat 0), .str [66, 111, 111, 108], .str [], .snil, .snil] 0 0 .rw 127),
  ((pOf 3186), .cells [.sl (pOf 3179) 0 0 2 5 (some 2), .sl (pOf 3184) 0 0 1 5 none, .bool false, .sl (pOf 3250) 0 0 1 5 (some 1), .sl (pOf 3313) 0 0 1 5 (some 1), .bool false, .sl (pOf 3361) 0 0 2 5 (some 2), .sl (pOf 3366) 0 0 1 5 none, .bool false] 2 0 .rw 609),
  ((pOf 3250), .cells [.int .i64 (.ofNat 4), .str [69], .str [97], .snil, .snil] 0 0 .rw 127),
  ((pOf 3313), .cells [.int .i64 (.ofNat 4), .str [69], .str [98], .snil, .snil] 0 0 .rw 127),
  ((pOf 3361), .cells [.int .i64 (.ofNat 4), .str [69], .str [98], .snil, .snil, .int .i64 (.ofNat 4), .str [66, 111, 111, 108], .str [112], .snil, .sl (pOf 3363) 0 0 1 1 none] 0 0 .rw 127),
  ((pOf 3363), .cells [.int .i64 (.ofNat 0)] 0 0 .rw 3),
  ((pOf 3366), .cells [.int .i64 (.ofNat 1), .str [66, 111, 111, 108], .str [], .snil, .snil] 0 0 .rw 127)]
noncomputable def c4 : Ctr := { g := 640, args := [.sl (pOf 3186) 2 0 3 3 none], pre := c4u ++ [], nx := (pOf 3368), v := .tup [.sl (pOf 4384) 0 0 3 1 (some 3), .bool true, .int .i64 (.ofNat 0)], post := c4u ++ [((pOf 4384), .cells [.int .i64 (.ofNat 0), .int .i64 (.ofNat 1), .int .i64 (.ofNat 2)] 0 0 .rw 3)], nx' := (pOf 5489) }
noncomputable def P4 : Prog := (Pr0.with c3)
theorem c4_ok : c4.ok P4 3000 = true := by kernel_rfl
-- c5: 54503 operations; 28 objects stay, 0 change, 0 come
noncomputable def c5u : Ob := [((pOf 17), .cells [.str [69]] 0 0 .rw 9),
  ((pOf 18), .cells [.str [69]] 0 0 .rw 9),
  ((pOf 136), .cells [.int .i64 (.ofNat 4), .str [69], .str [97], .snil, .snil, .int .i64 (.ofNat 4), .str [66, 111, 111, 108], .str [112], .snil, .sl (pOf 138) 0 0 1 1 none] 1 0 .rw 127),
  ((pOf 138), .cells [.int .i64 (.ofNat 0)] 0 0 .rw 3),
  ((pOf 340), .cells [.int .i64 (.ofNat 4), .str [69], .str [97], .snil, .snil, .int .i64 (.ofNat 4), .str [69], .str [98], .snil, .snil, .int .i64 (.ofNat 11), .str [66, 111, 111, 108], .str [], .snil, .sl (pOf 342) 1 0 2 1 none] 2 0 .rw 127),
  ((pOf 342), .cells [.int .i64 (.ofNat 0), .int .i64 (.ofNat 1)] 1 0 .rw 3),
  ((pOf 527), .cells [.int .i64 (.ofNat 4), .str [69], .str [98], .snil, .snil, .int .i64 (.ofNat 4), .str [66, 111, 111, 108], .str [112], .snil, .sl (pOf 529) 0 0 1 1 none] 1 0 .rw 127),
  ((pOf 529), .cells [.int .i64 (.ofNat 0)] 0 0 .rw 3),
  ((pOf 598), .cells [.sl (pOf 136) 1 0 2 5 none, .sl (pOf 340) 2 0 3 5 none] 0 0 .rw 40),
  ((pOf 599), .cells [.str [111, 110, 101], .str [116, 119, 111]] 0 0 .rw 9),
  ((pOf 608), .cells [.int .i64 (.ofNat 4), .str [69], .str [97], .snil, .snil, .int .i64 (.ofNat 4), .str [66, 111, 111, 108], .str [112], .snil, .sl (pOf 610) 0 0 1 1 none] 1 0 .rw 127),
  ((pOf 610), .cells [.int .i64 (.ofNat 0)] 0 0 .rw 3),
  ((pOf 613), .cells [.sl (pOf 608) 1 0 2 5 none, .sl (pOf 616) 2 0 3 5 none, .sl (pOf 625) 1 0 2 5 none] 2 0 .rw 40),
  ((pOf 616), .cells [.int .i64 (.ofNat 4), .str [69], .str [97], .snil, .snil, .int .i64 (.ofNat 4), .str [69], .str [98], .snil, .snil, .int .i64 (.ofNat 11), .str [66, 111, 111, 108], .str [], .snil, .sl (pOf 620) 0 0 2 1 none] 2 0 .rw 127),
  ((pOf 620), .cells [.int .i64 (.ofNat 0), .int .i64 (.ofNat 1)] 0 0 .rw 3),
  ((pOf 625), .cells [.int .i64 (.ofNat 4), .str [69], .str [98], .snil, .snil, .int .i64 (.ofNat 4), .str [66, 111, 111, 108], .str [112], .snil, .sl (pOf 627) 0 0 1 1 none] 1 0 .rw 127),
  ((pOf 627), .cells [.int .i64 (.ofNat 0)] 0 0 .rw 3),
  ((pOf 631), .cells [.int .i64 (.ofNat 0), .bool false] 0 0 .rw 54),
  ((pOf 632), .cells [.int .i64 (.ofNat 0)] 0 0 .rw 3),
  ((pOf 634), .cells [.int .i64 (.ofNat 0), .sl (pOf 631) 0 0 1 2 none, .snil, .sl (pOf 632) 0 0 1 1 none, .snil, .snil, .int .i64 (.ofNat 0), .sl (pOf 636) 0 0 1 2 none, .snil, .sl (pOf 637) 0 0 1 1 none, .snil, .snil, .int .i64 (.ofNat 1), .sl (pOf 640) 0 0 1 2 none, .snil, .snil, .snil, .snil, .int .i64 (.ofNat 5), .sl (pOf 643) 0 0 3 2 none, .snil, .snil, .snil, .snil, .int .i64 (.ofNat 10), .snil, .sl (pOf 646) 0 0 4 1 none, .sl (pOf 647) 0 0 3 1 none, .snil, .snil] 4 0 .rw 56),
  ((pOf 636), .cells [.int .i64 (.ofNat 1), .bool false] 0 0 .rw 54),
  ((pOf 637), .cells [.int .i64 (.ofNat 1)] 0 0 .rw 3),
  ((pOf 640), .cells [.int .i64 (.ofNat 2), .bool true] 0 0 .rw 54),
  ((pOf 643), .cells [.int .i64 (.ofNat 0), .bool true, .int .i64 (.ofNat 1), .bool true, .int .i64 (.ofNat 2), .bool false] 0 0 .rw 54),
  ((pOf 646), .cells [.int .i64 (.ofNat 3), .int .i64 (.ofNat 0), .int .i64 (.ofNat 1), .int .i64 (.ofNat 2)] 0 0 .rw 3),
  ((pOf 647), .cells [.int .i64 (.ofNat 0), .int .i64 (.ofNat 1), .int .i64 (.ofNat 2)] 0 0 .rw 3),
  ((pOf 1969), .cells [.str [97], .snil, .str [69], .str [98], .snil, .str [69], .str [112], .sl (pOf 18) 0 0 1 1 (some 1), .str [66, 111, 111, 108], .str [120], .snil, .str [73, 110, 116]] 0 0 .rw 83),
  ((pOf 2921), .cells [.sl (pOf 613) 2 0 3 1 none, .sl (pOf 634) 4 0 5 6 none, .sl (pOf 17) 0 0 1 1 (some 1), .snil, .sl (pOf 1969) 0 0 4 3 none, .sl (pOf 598) 0 0 2 1 (some 2), .sl (pOf 599) 0 0 2 1 (some 2), .sl (pOf 527) 1 0 2 5 none, .int .i64 (.ofNat 0)] 0 0 .rw 167)]
noncomputable def c5 : Ctr := { g := 625, args := [.ptr (pOf 2921) 0 0 9, .int .i64 (.ofNat 3)], pre := c5u ++ [], nx := (pOf 2962), v := .int .i64 (.ofNat 0), post := c5u ++ [], nx' := (pOf 5489) }
noncomputable def P5 : Prog := (Pr0.with c4)
theorem c5_ok : c5.ok P5 3000 = true := by kernel_rfl
-- c6: 108282 operations; 31 objects stay, 0 change, 0 come
noncomputable def c6u : Ob := [((pOf 0), .cells [.fn (.func 620) [] [], .fn (.func 621) [] [], .fn (.func 622) [] [], .fn (.func 623) [] [], .fn (.func 624) [] [], .fn (.func 625) [] [], .fn (.func 626) [] [], .fn (.func 627) [] [], .fn (.func 613) [] [], .fn (.func 628) [] [], .fn (.func 629) [] []] 0 0 .ro 90),
  ((pOf 1), .cells [.fn (.func 773) [] [], .fn (.func 774) [] [], .fn (.func 773) [] [], .fn (.func 775) [] [], .fn (.func 775) [] [], .fn (.func 774) [] [], .fn (.func 776) [] [], .fn (.func 774) [] [], .fn (.func 774) [] [], .fn (.func 777) [] [], .fn (.func 778) [] []] 0 0 .ro 258),
  ((pOf 2), .cells [.str [116, 114, 117, 101], .str [102, 97, 108, 115, 101], .str [110, 111, 116], .str [97, 110, 100], .str [111, 114], .str [105, 102, 102], .str [105, 116, 101], .str [102, 111, 114, 97, 108, 108], .str [101, 120, 105, 115, 116, 115], .str [43], .str [42], .str [60], .str [60, 61]] 0 0 .ro 305),
  ((pOf 3), .cells [.str [77, 97, 112], .str [115, 101, 108, 101, 99, 116], .str [83, 75], .str [86], .str [77, 97, 112], .str [115, 116, 111, 114, 101], .str [83, 75, 86], .str [83], .str [77, 97, 112], .str [99, 111, 110, 115, 116], .str [86], .str [83], .str [77, 97, 112], .str [100, 105, 102, 102], .str [83, 83], .str [75], .str [83, 101, 113], .str [108, 101, 110], .str [83], .str [73], .str [83, 101, 113], .str [97, 116], .str [83, 73], .str [75], .str [83, 101, 113], .str [101, 109, 112, 116, 121], .str [], .str [83], .str [83, 101, 113], .str [111, 110, 101], .str [75], .str [83], .str [83, 101, 113], .str [99, 97, 116], .str [83, 83], .str [83], .str [83, 101, 113], .str [112, 117, 116], .str [83, 73, 75], .str [83], .str [83, 101, 113], .str [99, 117, 116], .str [83, 73, 73], .str [83], .str [83, 101, 113], .str [112, 114, 101], .str [83, 83], .str [66], .str [83, 101, 113], .str [100, 105, 102, 102], .str [83, 83], .str [73], .str [83, 101, 116], .str [104, 97, 115], .str [83, 75], .str [66], .str [83, 101, 116], .str [101, 109, 112, 116, 121], .str [], .str [83], .str [83, 101, 116], .str [111, 110, 101], .str [75], .str [83], .str [83, 101, 116], .str [106, 111, 105, 110], .str [83, 83], .str [83], .str [83, 101, 116], .str [109, 101, 101, 116], .str [83, 83], .str [83], .str [83, 101, 116], .str [108, 101, 115, 115], .str [83, 83], .str [83], .str [83, 101, 116], .str [115, 117, 98], .str [83, 83], .str [66], .str [83, 101, 116], .str [115, 105, 122, 101], .str [83], .str [73], .str [83, 101, 116], .str [100, 105, 102, 102], .str [83, 83], .str [75]] 0 0 .ro 388),
  ((pOf 17), .cells [.str [69]] 0 0 .rw 9),
  ((pOf 18), .cells [.str [69]] 0 0 .rw 9),
  ((pOf 19), .cells [.str [97], .snil, .str [69], .str [98], .snil, .str [69], .str [112], .sl (pOf 18) 0 0 1 1 (some 1), .str [66, 111, 111, 108], .str [120], .snil, .str [73, 110, 116]] 0 0 .rw 83),
  ((pOf 136), .cells [.int .i64 (.ofNat 4), .str [69], .str [97], .snil, .snil, .int .i64 (.ofNat 4), .str [66, 111, 111, 108], .str [112], .snil, .sl (pOf 138) 0 0 1 1 none] 1 0 .rw 127),
  ((pOf 138), .cells [.int .i64 (.ofNat 0)] 0 0 .rw 3),
  ((pOf 340), .cells [.int .i64 (.ofNat 4), .str [69], .str [97], .snil, .snil, .int .i64 (.ofNat 4), .str [69], .str [98], .snil, .snil, .int .i64 (.ofNat 11), .str [66, 111, 111, 108], .str [], .snil, .sl (pOf 342) 1 0 2 1 none] 2 0 .rw 127),
  ((pOf 342), .cells [.int .i64 (.ofNat 0), .int .i64 (.ofNat 1)] 1 0 .rw 3),
  ((pOf 527), .cells [.int .i64 (.ofNat 4), .str [69], .str [98], .snil, .snil, .int .i64 (.ofNat 4), .str [66, 111, 111, 108], .str [112], .snil, .sl (pOf 529) 0 0 1 1 none] 1 0 .rw 127),
  ((pOf 529), .cells [.int .i64 (.ofNat 0)] 0 0 .rw 3),
  ((pOf 598), .cells [.sl (pOf 136) 1 0 2 5 none, .sl (pOf 340) 2 0 3 5 none] 0 0 .rw 40),
  ((pOf 599), .cells [.str [111, 110, 101], .str [116, 119, 111]] 0 0 .rw 9),
  ((pOf 608), .cells [.int .i64 (.ofNat 4), .str [69], .str [97], .snil, .snil, .int .i64 (.ofNat 4), .str [66, 111, 111, 108], .str [112], .snil, .sl (pOf 610) 0 0 1 1 none] 1 0 .rw 127),
  ((pOf 610), .cells [.int .i64 (.ofNat 0)] 0 0 .rw 3),
  ((pOf 613), .cells [.sl (pOf 608) 1 0 2 5 none, .sl (pOf 616) 2 0 3 5 none, .sl (pOf 625) 1 0 2 5 none] 2 0 .rw 40),
  ((pOf 616), .cells [.int .i64 (.ofNat 4), .str [69], .str [97], .snil, .snil, .int .i64 (.ofNat 4), .str [69], .str [98], .snil, .snil, .int .i64 (.ofNat 11), .str [66, 111, 111, 108], .str [], .snil, .sl (pOf 620) 0 0 2 1 none] 2 0 .rw 127),
  ((pOf 620), .cells [.int .i64 (.ofNat 0), .int .i64 (.ofNat 1)] 0 0 .rw 3),
  ((pOf 625), .cells [.int .i64 (.ofNat 4), .str [69], .str [98], .snil, .snil, .int .i64 (.ofNat 4), .str [66, 111, 111, 108], .str [112], .snil, .sl (pOf 627) 0 0 1 1 none] 1 0 .rw 127),
  ((pOf 627), .cells [.int .i64 (.ofNat 0)] 0 0 .rw 3),
  ((pOf 631), .cells [.int .i64 (.ofNat 0), .bool false] 0 0 .rw 54),
  ((pOf 632), .cells [.int .i64 (.ofNat 0)] 0 0 .rw 3),
  ((pOf 634), .cells [.int .i64 (.ofNat 0), .sl (pOf 631) 0 0 1 2 none, .snil, .sl (pOf 632) 0 0 1 1 none, .snil, .snil, .int .i64 (.ofNat 0), .sl (pOf 636) 0 0 1 2 none, .snil, .sl (pOf 637) 0 0 1 1 none, .snil, .snil, .int .i64 (.ofNat 1), .sl (pOf 640) 0 0 1 2 none, .snil, .snil, .snil, .snil, .int .i64 (.ofNat 5), .sl (pOf 643) 0 0 3 2 none, .snil, .snil, .snil, .snil, .int .i64 (.ofNat 10), .snil, .sl (pOf 646) 0 0 4 1 none, .sl (pOf 647) 0 0 3 1 none, .snil, .snil] 4 0 .rw 56),
  ((pOf 636), .cells [.int .i64 (.ofNat 1), .bool false] 0 0 .rw 54),
  ((pOf 637), .cells [.int .i64 (.ofNat 1)] 0 0 .rw 3),
  ((pOf 640), .cells [.int .i64 (.ofNat 2), .bool true] 0 0 .rw 54),
  ((pOf 643), .cells [.int .i64 (.ofNat 0), .bool true, .int .i64 (.ofNat 1), .bool true, .int .i64 (.ofNat 2), .bool false] 0 0 .rw 54),
  ((pOf 646), .cells [.int .i64 (.ofNat 3), .int .i64 (.ofNat 0), .int .i64 (.ofNat 1), .int .i64 (.ofNat 2)] 0 0 .rw 3),
  ((pOf 647), .cells [.int .i64 (.ofNat 0), .int .i64 (.ofNat 1), .int .i64 (.ofNat 2)] 0 0 .rw 3)]
noncomputable def c6 : Ctr := { g := 9, args := [.agg [.sl (pOf 17) 0 0 1 1 (some 1), .snil, .sl (pOf 19) 0 0 4 3 (some 4)], .agg [.sl (pOf 598) 0 0 2 1 (some 2), .sl (pOf 599) 0 0 2 1 (some 2), .sl (pOf 527) 1 0 2 5 none, .int .i64 (.ofNat 0)], .agg [.sl (pOf 613) 2 0 3 1 none, .sl (pOf 634) 4 0 5 6 none]], pre := c6u ++ [], nx := (pOf 649), v := .tup [.int .i64 (.ofNat 0), .int .i64 (.ofNat 0)], post := c6u ++ [], nx' := (pOf 5547) }
noncomputable def P6 : Prog := ((Pr0.with c2).with c5)
theorem c6_ok : c6.ok P6 3000 = true := by kernel_rfl
-- c7: 5342 operations; 17 objects stay, 0 change, 1 come
noncomputable def c7u : Ob := [((pOf 1), .cells [.fn (.func 773) [] [], .fn (.func 774) [] [], .fn (.func 773) [] [], .fn (.func 775) [] [], .fn (.func 775) [] [], .fn (.func 774) [] [], .fn (.func 776) [] [], .fn (.func 774) [] [], .fn (.func 774) [] [], .fn (.func 777) [] [], .fn (.func 778) [] []] 0 0 .ro 258),
  ((pOf 5551), .cells [.int .i64 (.ofNat 4), .str [69], .str [97], .snil, .snil, .int .i64 (.ofNat 4), .str [66, 111, 111, 108], .str [112], .snil, .sl (pOf 5553) 0 0 1 1 none] 1 0 .rw 127),
  ((pOf 5553), .cells [.int .i64 (.ofNat 0)] 0 0 .rw 3),
  ((pOf 5556), .cells [.sl (pOf 5551) 1 0 2 5 none, .sl (pOf 5559) 2 0 3 5 none, .sl (pOf 5568) 1 0 2 5 none] 2 0 .rw 40),
  ((pOf 5559), .cells [.int .i64 (.ofNat 4), .str [69], .str [97], .snil, .snil, .int .i64 (.ofNat 4), .str [69], .str [98], .snil, .snil, .int .i64 (.ofNat 11), .str [66, 111, 111, 108], .str [], .snil, .sl (pOf 5563) 0 0 2 1 none] 2 0 .rw 127),
  ((pOf 5563), .cells [.int .i64 (.ofNat 0), .int .i64 (.ofNat 1)] 0 0 .rw 3),
  ((pOf 5568), .cells [.int .i64 (.ofNat 4), .str [69], .str [98], .snil, .snil, .int .i64 (.ofNat 4), .str [66, 111, 111, 108], .str [112], .snil, .sl (pOf 5570) 0 0 1 1 none] 1 0 .rw 127),
  ((pOf 5570), .cells [.int .i64 (.ofNat 0)] 0 0 .rw 3),
  ((pOf 5574), .cells [.int .i64 (.ofNat 0), .bool false] 0 0 .rw 54),
  ((pOf 5575), .cells [.int .i64 (.ofNat 0)] 0 0 .rw 3),
  ((pOf 5577), .cells [.int .i64 (.ofNat 0), .sl (pOf 5574) 0 0 1 2 none, .snil, .sl (pOf 5575) 0 0 1 1 none, .snil, .snil, .int .i64 (.ofNat 0), .sl (pOf 5579) 0 0 1 2 none, .snil, .sl (pOf 5580) 0 0 1 1 none, .snil, .snil, .int .i64 (.ofNat 1), .sl (pOf 5583) 0 0 1 2 none, .snil, .snil, .snil, .snil, .int .i64 (.ofNat 5), .sl (pOf 5586) 0 0 3 2 none, .snil, .snil, .snil, .snil, .int .i64 (.ofNat 10), .snil, .sl (pOf 5589) 0 0 4 1 none, .sl (pOf 5590) 0 0 3 1 none, .snil, .snil] 4 0 .rw 56),
  ((pOf 5579), .cells [.int .i64 (.ofNat 1), .bool false] 0 0 .rw 54),
  ((pOf 5580), .cells [.int .i64 (.ofNat 1)] 0 0 .rw 3),
  ((pOf 5583), .cells [.int .i64 (.ofNat 2), .bool true] 0 0 .rw 54),
  ((pOf 5586), .cells [.int .i64 (.ofNat 0), .bool true, .int .i64 (.ofNat 1), .bool true, .int .i64 (.ofNat 2), .bool false] 0 0 .rw 54),
  ((pOf 5589), .cells [.int .i64 (.ofNat 3), .int .i64 (.ofNat 0), .int .i64 (.ofNat 1), .int .i64 (.ofNat 2)] 0 0 .rw 3),
  ((pOf 5590), .cells [.int .i64 (.ofNat 0), .int .i64 (.ofNat 1), .int .i64 (.ofNat 2)] 0 0 .rw 3)]
noncomputable def c7 : Ctr := { g := 11, args := [.agg [.sl (pOf 5556) 2 0 3 1 none, .sl (pOf 5577) 4 0 5 6 none]], pre := c7u ++ [], nx := (pOf 5592), v := .tup [.sl (pOf 5823) 1 0 2 1 none, .int .i64 (.ofNat 0)], post := c7u ++ [((pOf 5823), .cells [.int .i64 (.ofNat 0), .int .i64 (.ofNat 1)] 1 0 .rw 3)], nx' := (pOf 5829) }
noncomputable def P7 : Prog := Pr0
theorem c7_ok : c7.ok P7 3000 = true := by kernel_rfl
end Go.Im
