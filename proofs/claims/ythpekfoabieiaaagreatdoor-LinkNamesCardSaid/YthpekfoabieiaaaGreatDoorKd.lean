import Derived.Test.YthpekfoabieiaaaGreatDoorLa
set_option linter.all false
namespace Go.LN
open Go.CE
set_option maxRecDepth 1000000
theorem k122 : Finds 3410 4858 nofB m122 20 a122 v122 := by show evCall _ _ _ _ _ _ = _; kernel_rfl
theorem k142 : Finds 3586 5612 nofB m142 61 a142 v142 := by show evCall _ _ _ _ _ _ = _; kernel_rfl
end Go.LN
