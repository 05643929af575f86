/- A part of the proof that ProofResolves holds for every input of the given program: Ct12. -/
import Derived.KernelRfl
import Derived.Test.YtmdaoiabedkpcaaGreatDoorQ20
set_option linter.unusedVariables false
set_option linter.unusedSimpArgs false
open Go
namespace Go.Im
set_option maxRecDepth 100000
-- c21: 10705 operations; 17 objects stay, 0 change, 16 come
noncomputable def c21u : Ob := [((pOf 1), .cells [.fn (.func 773) [] [], .fn (.func 774) [] [], .fn (.func 773) [] [], .fn (.func 775) [] [], .fn (.func 775) [] [], .fn (.func 774) [] [], .fn (.func 776) [] [], .fn (.func 774) [] [], .fn (.func 774) [] [], .fn (.func 777) [] [], .fn (.func 778) [] []] 0 0 .ro 258),
  ((pOf 16729), .cells [.int .i64 (.ofNat 4), .str [69], .str [97], .snil, .snil, .int .i64 (.ofNat 4), .str [66, 111, 111, 108], .str [112], .snil, .sl (pOf 16731) 0 0 1 1 none] 1 0 .rw 127),
  ((pOf 16731), .cells [.int .i64 (.ofNat 0)] 0 0 .rw 3),
  ((pOf 16734), .cells [.sl (pOf 16729) 1 0 2 5 none, .sl (pOf 16737) 2 0 3 5 none, .sl (pOf 16746) 1 0 2 5 none] 2 0 .rw 40),
  ((pOf 16737), .cells [.int .i64 (.ofNat 4), .str [69], .str [97], .snil, .snil, .int .i64 (.ofNat 4), .str [69], .str [98], .snil, .snil, .int .i64 (.ofNat 11), .str [66, 111, 111, 108], .str [], .snil, .sl (pOf 16741) 0 0 2 1 none] 2 0 .rw 127),
  ((pOf 16741), .cells [.int .i64 (.ofNat 0), .int .i64 (.ofNat 1)] 0 0 .rw 3),
  ((pOf 16746), .cells [.int .i64 (.ofNat 4), .str [69], .str [98], .snil, .snil, .int .i64 (.ofNat 4), .str [66, 111, 111, 108], .str [112], .snil, .sl (pOf 16748) 0 0 1 1 none] 1 0 .rw 127),
  ((pOf 16748), .cells [.int .i64 (.ofNat 0)] 0 0 .rw 3),
  ((pOf 16752), .cells [.int .i64 (.ofNat 0), .bool false] 0 0 .rw 54),
  ((pOf 16753), .cells [.int .i64 (.ofNat 0)] 0 0 .rw 3),
  ((pOf 16755), .cells [.int .i64 (.ofNat 0), .sl (pOf 16752) 0 0 1 2 none, .snil, .sl (pOf 16753) 0 0 1 1 none, .snil, .snil, .int .i64 (.ofNat 0), .sl (pOf 16757) 0 0 1 2 none, .snil, .sl (pOf 16758) 0 0 1 1 none, .snil, .snil, .int .i64 (.ofNat 1), .sl (pOf 16761) 0 0 1 2 none, .snil, .snil, .snil, .snil, .int .i64 (.ofNat 5), .sl (pOf 16764) 0 0 3 2 none, .snil, .snil, .snil, .snil, .int .i64 (.ofNat 10), .snil, .sl (pOf 16767) 0 0 4 1 none, .sl (pOf 16768) 0 0 3 1 none, .snil, .snil] 4 0 .rw 56),
  ((pOf 16757), .cells [.int .i64 (.ofNat 1), .bool false] 0 0 .rw 54),
  ((pOf 16758), .cells [.int .i64 (.ofNat 1)] 0 0 .rw 3),
  ((pOf 16761), .cells [.int .i64 (.ofNat 2), .bool true] 0 0 .rw 54),
  ((pOf 16764), .cells [.int .i64 (.ofNat 0), .bool true, .int .i64 (.ofNat 1), .bool true, .int .i64 (.ofNat 2), .bool false] 0 0 .rw 54),
  ((pOf 16767), .cells [.int .i64 (.ofNat 3), .int .i64 (.ofNat 0), .int .i64 (.ofNat 1), .int .i64 (.ofNat 2)] 0 0 .rw 3),
  ((pOf 16768), .cells [.int .i64 (.ofNat 0), .int .i64 (.ofNat 1), .int .i64 (.ofNat 2)] 0 0 .rw 3)]
noncomputable def c21 : Ctr := { g := 15, args := [.agg [.sl (pOf 16734) 2 0 3 1 none, .sl (pOf 16755) 4 0 5 6 none]], pre := c21u ++ [], nx := (pOf 16770), v := .tup [.agg [.sl (pOf 17124) 2 0 3 1 none, .sl (pOf 17250) 4 0 5 6 none], .int .i64 (.ofNat 0)], post := c21u ++ [((pOf 17120), .cells [.int .i64 (.ofNat 4), .str [69], .str [97], .snil, .snil, .int .i64 (.ofNat 4), .str [66, 111, 111, 108], .str [112], .snil, .sl (pOf 17122) 0 0 1 1 none] 0 0 .rw 127),
  ((pOf 17122), .cells [.int .i64 (.ofNat 0)] 0 0 .rw 3),
  ((pOf 17124), .cells [.sl (pOf 17120) 0 0 2 5 (some 2), .sl (pOf 17187) 0 0 3 5 (some 3), .sl (pOf 17236) 0 0 2 5 (some 2)] 2 0 .rw 40),
  ((pOf 17187), .cells [.int .i64 (.ofNat 4), .str [69], .str [97], .snil, .snil, .int .i64 (.ofNat 4), .str [69], .str [98], .snil, .snil, .int .i64 (.ofNat 11), .str [66, 111, 111, 108], .str [], .snil, .sl (pOf 17189) 0 0 2 1 none] 0 0 .rw 127),
  ((pOf 17189), .cells [.int .i64 (.ofNat 0), .int .i64 (.ofNat 1)] 0 0 .rw 3),
  ((pOf 17236), .cells [.int .i64 (.ofNat 4), .str [69], .str [98], .snil, .snil, .int .i64 (.ofNat 4), .str [66, 111, 111, 108], .str [112], .snil, .sl (pOf 17238) 0 0 1 1 none] 0 0 .rw 127),
  ((pOf 17238), .cells [.int .i64 (.ofNat 0)] 0 0 .rw 3),
  ((pOf 17246), .cells [.int .i64 (.ofNat 0), .bool false] 0 0 .rw 54),
  ((pOf 17248), .cells [.int .i64 (.ofNat 0)] 0 0 .rw 3),
  ((pOf 17250), .cells [.int .i64 (.ofNat 0), .sl (pOf 17246) 0 0 1 2 none, .snil, .sl (pOf 17248) 0 0 1 1 none, .snil, .snil, .int .i64 (.ofNat 0), .sl (pOf 17257) 0 0 1 2 none, .snil, .sl (pOf 17259) 0 0 1 1 none, .snil, .snil, .int .i64 (.ofNat 1), .sl (pOf 17267) 0 0 1 2 none, .snil, .snil, .snil, .snil, .int .i64 (.ofNat 5), .sl (pOf 17275) 2 0 3 2 none, .snil, .snil, .snil, .snil, .int .i64 (.ofNat 10), .snil, .sl (pOf 17288) 3 0 4 1 none, .sl (pOf 17293) 2 0 3 1 none, .snil, .snil] 4 0 .rw 56),
  ((pOf 17257), .cells [.int .i64 (.ofNat 1), .bool false] 0 0 .rw 54),
  ((pOf 17259), .cells [.int .i64 (.ofNat 1)] 0 0 .rw 3),
  ((pOf 17267), .cells [.int .i64 (.ofNat 2), .bool true] 0 0 .rw 54),
  ((pOf 17275), .cells [.int .i64 (.ofNat 0), .bool true, .int .i64 (.ofNat 1), .bool true, .int .i64 (.ofNat 2), .bool false] 2 0 .rw 54),
  ((pOf 17288), .cells [.int .i64 (.ofNat 3), .int .i64 (.ofNat 0), .int .i64 (.ofNat 1), .int .i64 (.ofNat 2)] 3 0 .rw 3),
  ((pOf 17293), .cells [.int .i64 (.ofNat 0), .int .i64 (.ofNat 1), .int .i64 (.ofNat 2)] 2 0 .rw 3)], nx' := (pOf 17297) }
noncomputable def P21 : Prog := Pr0
theorem c21_ok : c21.ok P21 3000 = true := by kernel_rfl
-- c22: 10985 operations; 18 objects stay, 0 change, 16 come
noncomputable def c22u : Ob := [((pOf 1), .cells [.fn (.func 773) [] [], .fn (.func 774) [] [], .fn (.func 773) [] [], .fn (.func 775) [] [], .fn (.func 775) [] [], .fn (.func 774) [] [], .fn (.func 776) [] [], .fn (.func 774) [] [], .fn (.func 774) [] [], .fn (.func 777) [] [], .fn (.func 778) [] []] 0 0 .ro 258),
  ((pOf 17302), .cells [.int .i64 (.ofNat 4), .str [69], .str [97], .snil, .snil, .int .i64 (.ofNat 4), .str [66, 111, 111, 108], .str [112], .snil, .sl (pOf 17304) 0 0 1 1 none] 1 0 .rw 127),
  ((pOf 17304), .cells [.int .i64 (.ofNat 0)] 0 0 .rw 3),
  ((pOf 17307), .cells [.sl (pOf 17302) 1 0 2 5 none, .sl (pOf 17310) 2 0 3 5 none, .sl (pOf 17319) 1 0 2 5 none] 2 0 .rw 40),
  ((pOf 17310), .cells [.int .i64 (.ofNat 4), .str [69], .str [97], .snil, .snil, .int .i64 (.ofNat 4), .str [69], .str [98], .snil, .snil, .int .i64 (.ofNat 11), .str [66, 111, 111, 108], .str [], .snil, .sl (pOf 17314) 0 0 2 1 none] 2 0 .rw 127),
  ((pOf 17314), .cells [.int .i64 (.ofNat 0), .int .i64 (.ofNat 1)] 0 0 .rw 3),
  ((pOf 17319), .cells [.int .i64 (.ofNat 4), .str [69], .str [98], .snil, .snil, .int .i64 (.ofNat 4), .str [66, 111, 111, 108], .str [112], .snil, .sl (pOf 17321) 0 0 1 1 none] 1 0 .rw 127),
  ((pOf 17321), .cells [.int .i64 (.ofNat 0)] 0 0 .rw 3),
  ((pOf 17325), .cells [.int .i64 (.ofNat 0), .bool false] 0 0 .rw 54),
  ((pOf 17326), .cells [.int .i64 (.ofNat 0)] 0 0 .rw 3),
  ((pOf 17328), .cells [.int .i64 (.ofNat 0), .sl (pOf 17325) 0 0 1 2 none, .snil, .sl (pOf 17326) 0 0 1 1 none, .snil, .snil, .int .i64 (.ofNat 0), .sl (pOf 17330) 0 0 1 2 none, .snil, .sl (pOf 17331) 0 0 1 1 none, .snil, .snil, .int .i64 (.ofNat 1), .sl (pOf 17334) 0 0 1 2 none, .snil, .snil, .snil, .snil, .int .i64 (.ofNat 5), .sl (pOf 17337) 0 0 3 2 none, .snil, .snil, .snil, .snil, .int .i64 (.ofNat 10), .snil, .sl (pOf 17340) 0 0 4 1 none, .sl (pOf 17341) 0 0 3 1 none, .snil, .snil] 4 0 .rw 56),
  ((pOf 17330), .cells [.int .i64 (.ofNat 1), .bool false] 0 0 .rw 54),
  ((pOf 17331), .cells [.int .i64 (.ofNat 1)] 0 0 .rw 3),
  ((pOf 17334), .cells [.int .i64 (.ofNat 2), .bool true] 0 0 .rw 54),
  ((pOf 17337), .cells [.int .i64 (.ofNat 0), .bool true, .int .i64 (.ofNat 1), .bool true, .int .i64 (.ofNat 2), .bool false] 0 0 .rw 54),
  ((pOf 17340), .cells [.int .i64 (.ofNat 3), .int .i64 (.ofNat 0), .int .i64 (.ofNat 1), .int .i64 (.ofNat 2)] 0 0 .rw 3),
  ((pOf 17341), .cells [.int .i64 (.ofNat 0), .int .i64 (.ofNat 1), .int .i64 (.ofNat 2)] 0 0 .rw 3),
  ((pOf 17343), .cells [.int .i64 (.ofNat 0), .int .i64 (.ofNat 1), .int .i64 (.ofNat 5)] 0 0 .rw 3)]
noncomputable def c22 : Ctr := { g := 16, args := [.agg [.sl (pOf 17307) 2 0 3 1 none, .sl (pOf 17328) 4 0 5 6 none], .sl (pOf 17343) 0 0 3 1 (some 3)], pre := c22u ++ [], nx := (pOf 17344), v := .tup [.agg [.sl (pOf 17699) 2 0 3 1 none, .sl (pOf 17825) 4 0 5 6 none], .int .i64 (.ofNat 0)], post := c22u ++ [((pOf 17695), .cells [.int .i64 (.ofNat 4), .str [69], .str [97], .snil, .snil, .int .i64 (.ofNat 4), .str [66, 111, 111, 108], .str [112], .snil, .sl (pOf 17697) 0 0 1 1 none] 0 0 .rw 127),
  ((pOf 17697), .cells [.int .i64 (.ofNat 0)] 0 0 .rw 3),
  ((pOf 17699), .cells [.sl (pOf 17695) 0 0 2 5 (some 2), .sl (pOf 17762) 0 0 3 5 (some 3), .sl (pOf 17811) 0 0 2 5 (some 2)] 2 0 .rw 40),
  ((pOf 17762), .cells [.int .i64 (.ofNat 4), .str [69], .str [97], .snil, .snil, .int .i64 (.ofNat 4), .str [69], .str [98], .snil, .snil, .int .i64 (.ofNat 11), .str [66, 111, 111, 108], .str [], .snil, .sl (pOf 17764) 0 0 2 1 none] 0 0 .rw 127),
  ((pOf 17764), .cells [.int .i64 (.ofNat 0), .int .i64 (.ofNat 1)] 0 0 .rw 3),
  ((pOf 17811), .cells [.int .i64 (.ofNat 4), .str [69], .str [98], .snil, .snil, .int .i64 (.ofNat 4), .str [66, 111, 111, 108], .str [112], .snil, .sl (pOf 17813) 0 0 1 1 none] 0 0 .rw 127),
  ((pOf 17813), .cells [.int .i64 (.ofNat 0)] 0 0 .rw 3),
  ((pOf 17821), .cells [.int .i64 (.ofNat 0), .bool false] 0 0 .rw 54),
  ((pOf 17823), .cells [.int .i64 (.ofNat 0)] 0 0 .rw 3),
  ((pOf 17825), .cells [.int .i64 (.ofNat 0), .sl (pOf 17821) 0 0 1 2 none, .snil, .sl (pOf 17823) 0 0 1 1 none, .snil, .snil, .int .i64 (.ofNat 0), .sl (pOf 17832) 0 0 1 2 none, .snil, .sl (pOf 17834) 0 0 1 1 none, .snil, .snil, .int .i64 (.ofNat 1), .sl (pOf 17842) 0 0 1 2 none, .snil, .snil, .snil, .snil, .int .i64 (.ofNat 5), .sl (pOf 17850) 2 0 3 2 none, .snil, .snil, .snil, .snil, .int .i64 (.ofNat 10), .snil, .sl (pOf 17863) 3 0 4 1 none, .sl (pOf 17868) 2 0 3 1 none, .snil, .snil] 4 0 .rw 56),
  ((pOf 17832), .cells [.int .i64 (.ofNat 1), .bool false] 0 0 .rw 54),
  ((pOf 17834), .cells [.int .i64 (.ofNat 1)] 0 0 .rw 3),
  ((pOf 17842), .cells [.int .i64 (.ofNat 2), .bool true] 0 0 .rw 54),
  ((pOf 17850), .cells [.int .i64 (.ofNat 0), .bool true, .int .i64 (.ofNat 1), .bool true, .int .i64 (.ofNat 2), .bool false] 2 0 .rw 54),
  ((pOf 17863), .cells [.int .i64 (.ofNat 3), .int .i64 (.ofNat 0), .int .i64 (.ofNat 1), .int .i64 (.ofNat 2)] 3 0 .rw 3),
  ((pOf 17868), .cells [.int .i64 (.ofNat 0), .int .i64 (.ofNat 1), .int .i64 (.ofNat 2)] 2 0 .rw 3)], nx' := (pOf 17878) }
noncomputable def P22 : Prog := Pr0
theorem c22_ok : c22.ok P22 3000 = true := by kernel_rfl
-- c23: 12342 operations; 3 objects stay, 0 change, 4 come
noncomputable def c23u : Ob := [((pOf 17), .cells [.str [69]] 0 0 .rw 9),
  ((pOf 18), .cells [.str [69]] 0 0 .rw 9),
  ((pOf 19), .cells [.str [97], .snil, .str [69], .str [98], .snil, .str [69], .str [112], .sl (pOf 18) 0 0 1 1 (some 1), .str [66, 111, 111, 108], .str [120], .snil, .str [73, 110, 116]] 0 0 .rw 83)]
noncomputable def c23 : Ctr := { g := 17, args := [.agg [.sl (pOf 17) 0 0 1 1 (some 1), .snil, .sl (pOf 19) 0 0 4 3 (some 4)], .snil, .str [40, 97, 110, 100, 32, 40, 112, 32, 97, 41, 32, 40, 112, 32, 98, 41, 41]], pre := c23u ++ [], nx := (pOf 17879), v := .tup [.sl (pOf 18069) 4 0 5 5 none, .int .i64 (.ofNat 0), .int .i64 (.ofNat 0)], post := c23u ++ [((pOf 18069), .cells [.int .i64 (.ofNat 4), .str [69], .str [97], .snil, .snil, .int .i64 (.ofNat 4), .str [66, 111, 111, 108], .str [112], .snil, .sl (pOf 18072) 0 0 1 1 none, .int .i64 (.ofNat 4), .str [69], .str [98], .snil, .snil, .int .i64 (.ofNat 4), .str [66, 111, 111, 108], .str [112], .snil, .sl (pOf 18080) 0 0 1 1 none, .int .i64 (.ofNat 6), .str [66, 111, 111, 108], .str [], .snil, .sl (pOf 18075) 1 0 2 1 none] 4 0 .rw 127),
  ((pOf 18072), .cells [.int .i64 (.ofNat 0)] 0 0 .rw 3),
  ((pOf 18075), .cells [.int .i64 (.ofNat 1), .int .i64 (.ofNat 3)] 1 0 .rw 3),
  ((pOf 18080), .cells [.int .i64 (.ofNat 2)] 0 0 .rw 3)], nx' := (pOf 18195) }
noncomputable def P23 : Prog := Pr0
theorem c23_ok : c23.ok P23 3000 = true := by kernel_rfl
end Go.Im
