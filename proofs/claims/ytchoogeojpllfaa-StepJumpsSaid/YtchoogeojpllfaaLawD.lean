/- A part of the walk or of the law. -/
import Derived.Test.YtchoogeojpllfaaMemZf
import Derived.Test.YtchoogeojpllfaaLawC
set_option linter.unusedVariables false
set_option linter.unusedSimpArgs false
namespace Go.Proofs.Ytchoogeojpllfaa
open Go.Sx
set_option maxHeartbeats 4000000
theorem f18 (w x : BitVec 32) : fetch_1 (me8_ps 8192#32 7 (sh (putB w) 0) (sh (putB x) 0)) 8192#32 = 0 := by kernel_rfl
theorem f18b (w x : BitVec 32) : fetch_1 (me8_ps 8192#32 7 (sh (putB w) 0) (sh (putB x) 0)) 8196#32 = 0 := by kernel_rfl
theorem f08 (w x : BitVec 32) : fetch_0 (me8_ps 8192#32 7 (sh (putB w) 0) (sh (putB x) 0)) 8192#32 = w := by
  have h : fetch_0 (me8_ps 8192#32 7 (sh (putB w) 0) (sh (putB x) 0)) 8192#32 = (((0#32 ||| ((w >>> 24).setWidth 8).setWidth 32) <<< 8 ||| ((w >>> 16).setWidth 8).setWidth 32) <<< 8 ||| ((w >>> 8).setWidth 8).setWidth 32) <<< 8 ||| (w.setWidth 8).setWidth 32 := by kernel_rfl
  exact h.trans (glue w)
theorem f08b (w x : BitVec 32) : fetch_0 (me8_ps 8192#32 7 (sh (putB w) 0) (sh (putB x) 0)) 8196#32 = x := by
  have h : fetch_0 (me8_ps 8192#32 7 (sh (putB w) 0) (sh (putB x) 0)) 8196#32 = (((0#32 ||| ((x >>> 24).setWidth 8).setWidth 32) <<< 8 ||| ((x >>> 16).setWidth 8).setWidth 32) <<< 8 ||| ((x >>> 8).setWidth 8).setWidth 32) <<< 8 ||| (x.setWidth 8).setWidth 32 := by kernel_rfl
  exact h.trans (glue x)
end Go.Proofs.Ytchoogeojpllfaa
