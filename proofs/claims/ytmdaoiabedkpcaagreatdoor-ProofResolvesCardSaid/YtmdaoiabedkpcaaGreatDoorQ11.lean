/- A part of the proof that ProofResolves holds for every input of the given program: Ct2. -/
import Derived.KernelRfl
import Derived.Test.YtmdaoiabedkpcaaGreatDoorQ10
set_option linter.unusedVariables false
set_option linter.unusedSimpArgs false
open Go
namespace Go.Im
set_option maxRecDepth 100000
-- c3: 24131 operations; 9 objects stay, 0 change, 1 come
noncomputable def c3u : Ob := [((pOf 3179), .cells [.int .i64 (.ofNat 4), .str [69], .str [97], .snil, .snil, .int .i64 (.ofNat 4), .str [66, 111, 111, 108], .str [112], .snil, .sl (pOf 3181) 0 0 1 1 none] 0 0 .rw 127),
  ((pOf 3181), .cells [.int .i64 (.ofNat 0)] 0 0 .rw 3),
  ((pOf 3184), .cells [.int .i64 (.ofNat 0), .str [66, 111, 111, 108], .str [], .snil, .snil] 0 0 .rw 127),
  ((pOf 3186), .cells [.sl (pOf 3179) 0 0 2 5 (some 2), .sl (pOf 3184) 0 0 1 5 none, .bool false, .sl (pOf 3250) 0 0 1 5 (some 1), .sl (pOf 3313) 0 0 1 5 (some 1), .bool false, .sl (pOf 3361) 0 0 2 5 (some 2), .sl (pOf 3366) 0 0 1 5 none, .bool false] 2 0 .rw 609),
  ((pOf 3250), .cells [.int .i64 (.ofNat 4), .str [69], .str [97], .snil, .snil] 0 0 .rw 127),
  ((pOf 3313), .cells [.int .i64 (.ofNat 4), .str [69], .str [98], .snil, .snil] 0 0 .rw 127),
  ((pOf 3361), .cells [.int .i64 (.ofNat 4), .str [69], .str [98], .snil, .snil, .int .i64 (.ofNat 4), .str [66, 111, 111, 108], .str [112], .snil, .sl (pOf 3363) 0 0 1 1 none] 0 0 .rw 127),
  ((pOf 3363), .cells [.int .i64 (.ofNat 0)] 0 0 .rw 3),
  ((pOf 3366), .cells [.int .i64 (.ofNat 1), .str [66, 111, 111, 108], .str [], .snil, .snil] 0 0 .rw 127)]
noncomputable def c3 : Ctr := { g := 657, args := [.sl (pOf 3186) 2 0 3 3 none, .fn (.func 656) [] []], pre := c3u ++ [], nx := (pOf 4383), v := .sl (pOf 4384) 0 0 3 1 (some 3), post := c3u ++ [((pOf 4384), .cells [.int .i64 (.ofNat 0), .int .i64 (.ofNat 1), .int .i64 (.ofNat 2)] 0 0 .rw 3)], nx' := (pOf 5489) }
noncomputable def P3 : Prog := Pr0
theorem c3_ok : c3.ok P3 3000 = true := by kernel_rfl
end Go.Im
