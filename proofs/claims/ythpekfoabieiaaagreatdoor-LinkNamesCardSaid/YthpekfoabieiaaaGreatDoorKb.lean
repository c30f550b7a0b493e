import Derived.Test.YthpekfoabieiaaaGreatDoorLa
set_option linter.all false
namespace Go.LN
open Go.CE
set_option maxRecDepth 1000000
theorem k32 : Finds 3737 5680 nofA m32 12 a32 v32 := by show evCall _ _ _ _ _ _ = _; kernel_rfl
theorem k55 : Finds 4893 6202 nofB m55 60 a55 v55 := by show evCall _ _ _ _ _ _ = _; kernel_rfl
end Go.LN
