/- A part of the proof that ProofResolves holds for every input of the given program: Ct6. -/
import Derived.KernelRfl
import Derived.Test.YtmdaoiabedkpcaaGreatDoorQ14
set_option linter.unusedVariables false
set_option linter.unusedSimpArgs false
open Go
namespace Go.Im
set_option maxRecDepth 100000
-- c10: 24131 operations; 9 objects stay, 0 change, 1 come
noncomputable def c10u : Ob := [((pOf 8395), .cells [.int .i64 (.ofNat 4), .str [69], .str [97], .snil, .snil, .int .i64 (.ofNat 4), .str [66, 111, 111, 108], .str [112], .snil, .sl (pOf 8397) 0 0 1 1 none] 0 0 .rw 127),
  ((pOf 8397), .cells [.int .i64 (.ofNat 0)] 0 0 .rw 3),
  ((pOf 8400), .cells [.int .i64 (.ofNat 0), .str [66, 111, 111, 108], .str [], .snil, .snil] 0 0 .rw 127),
  ((pOf 8402), .cells [.sl (pOf 8395) 0 0 2 5 (some 2), .sl (pOf 8400) 0 0 1 5 none, .bool false, .sl (pOf 8466) 0 0 1 5 (some 1), .sl (pOf 8529) 0 0 1 5 (some 1), .bool false, .sl (pOf 8577) 0 0 2 5 (some 2), .sl (pOf 8582) 0 0 1 5 none, .bool false] 2 0 .rw 609),
  ((pOf 8466), .cells [.int .i64 (.ofNat 4), .str [69], .str [97], .snil, .snil] 0 0 .rw 127),
  ((pOf 8529), .cells [.int .i64 (.ofNat 4), .str [69], .str [98], .snil, .snil] 0 0 .rw 127),
  ((pOf 8577), .cells [.int .i64 (.ofNat 4), .str [69], .str [98], .snil, .snil, .int .i64 (.ofNat 4), .str [66, 111, 111, 108], .str [112], .snil, .sl (pOf 8579) 0 0 1 1 none] 0 0 .rw 127),
  ((pOf 8579), .cells [.int .i64 (.ofNat 0)] 0 0 .rw 3),
  ((pOf 8582), .cells [.int .i64 (.ofNat 1), .str [66, 111, 111, 108], .str [], .snil, .snil] 0 0 .rw 127)]
noncomputable def c10 : Ctr := { g := 657, args := [.sl (pOf 8402) 2 0 3 3 none, .fn (.func 656) [] []], pre := c10u ++ [], nx := (pOf 9599), v := .sl (pOf 9600) 0 0 3 1 (some 3), post := c10u ++ [((pOf 9600), .cells [.int .i64 (.ofNat 0), .int .i64 (.ofNat 1), .int .i64 (.ofNat 2)] 0 0 .rw 3)], nx' := (pOf 10705) }
noncomputable def P10 : Prog := Pr0
theorem c10_ok : c10.ok P10 3000 = true := by kernel_rfl
end Go.Im
