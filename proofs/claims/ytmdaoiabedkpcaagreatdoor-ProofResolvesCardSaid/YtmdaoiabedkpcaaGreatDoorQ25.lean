/- A part of the proof that ProofResolves holds for every input of the given program: Ct16. -/
import Derived.KernelRfl
import Derived.Test.YtmdaoiabedkpcaaGreatDoorQ24
set_option linter.unusedVariables false
set_option linter.unusedSimpArgs false
open Go
namespace Go.Im
set_option maxRecDepth 100000
-- c34: 524968 operations; 5 objects stay, 0 change, 0 come
noncomputable def c34u : Ob := [((pOf 0), .cells [.fn (.func 620) [] [], .fn (.func 621) [] [], .fn (.func 622) [] [], .fn (.func 623) [] [], .fn (.func 624) [] [], .fn (.func 625) [] [], .fn (.func 626) [] [], .fn (.func 627) [] [], .fn (.func 613) [] [], .fn (.func 628) [] [], .fn (.func 629) [] []] 0 0 .ro 90),
  ((pOf 1), .cells [.fn (.func 773) [] [], .fn (.func 774) [] [], .fn (.func 773) [] [], .fn (.func 775) [] [], .fn (.func 775) [] [], .fn (.func 774) [] [], .fn (.func 776) [] [], .fn (.func 774) [] [], .fn (.func 774) [] [], .fn (.func 777) [] [], .fn (.func 778) [] []] 0 0 .ro 258),
  ((pOf 2), .cells [.str [116, 114, 117, 101], .str [102, 97, 108, 115, 101], .str [110, 111, 116], .str [97, 110, 100], .str [111, 114], .str [105, 102, 102], .str [105, 116, 101], .str [102, 111, 114, 97, 108, 108], .str [101, 120, 105, 115, 116, 115], .str [43], .str [42], .str [60], .str [60, 61]] 0 0 .ro 305),
  ((pOf 3), .cells [.str [77, 97, 112], .str [115, 101, 108, 101, 99, 116], .str [83, 75], .str [86], .str [77, 97, 112], .str [115, 116, 111, 114, 101], .str [83, 75, 86], .str [83], .str [77, 97, 112], .str [99, 111, 110, 115, 116], .str [86], .str [83], .str [77, 97, 112], .str [100, 105, 102, 102], .str [83, 83], .str [75], .str [83, 101, 113], .str [108, 101, 110], .str [83], .str [73], .str [83, 101, 113], .str [97, 116], .str [83, 73], .str [75], .str [83, 101, 113], .str [101, 109, 112, 116, 121], .str [], .str [83], .str [83, 101, 113], .str [111, 110, 101], .str [75], .str [83], .str [83, 101, 113], .str [99, 97, 116], .str [83, 83], .str [83], .str [83, 101, 113], .str [112, 117, 116], .str [83, 73, 75], .str [83], .str [83, 101, 113], .str [99, 117, 116], .str [83, 73, 73], .str [83], .str [83, 101, 113], .str [112, 114, 101], .str [83, 83], .str [66], .str [83, 101, 113], .str [100, 105, 102, 102], .str [83, 83], .str [73], .str [83, 101, 116], .str [104, 97, 115], .str [83, 75], .str [66], .str [83, 101, 116], .str [101, 109, 112, 116, 121], .str [], .str [83], .str [83, 101, 116], .str [111, 110, 101], .str [75], .str [83], .str [83, 101, 116], .str [106, 111, 105, 110], .str [83, 83], .str [83], .str [83, 101, 116], .str [109, 101, 101, 116], .str [83, 83], .str [83], .str [83, 101, 116], .str [108, 101, 115, 115], .str [83, 83], .str [83], .str [83, 101, 116], .str [115, 117, 98], .str [83, 83], .str [66], .str [83, 101, 116], .str [115, 105, 122, 101], .str [83], .str [73], .str [83, 101, 116], .str [100, 105, 102, 102], .str [83, 83], .str [75]] 0 0 .ro 388),
  ((pOf 4), .cells [.num .i64] 0 0 .ro 3)]
noncomputable def c34 : Ctr := { g := 4, args := [], pre := c34u ++ [], nx := (pOf 14), v := .bool true, post := c34u ++ [], nx' := (pOf 23296) }
noncomputable def P34 : Prog := (((((((((((((((Pr0.with c0).with c6).with c7).with c13).with c18).with c19).with c20).with c21).with c22).with c23).with c24).with c25).with c26).with c32).with c33)
theorem c34_ok : c34.ok P34 3000 = true := by kernel_rfl
end Go.Im
