import Derived.Test.YthpekfoabieiaaaGreatDoorLa
set_option linter.all false
namespace Go.LN
open Go.CE
set_option maxRecDepth 1000000
theorem k52 : Finds 3737 7030 nofB m52 19 a52 v52 := by show evCall _ _ _ _ _ _ = _; kernel_rfl
end Go.LN
