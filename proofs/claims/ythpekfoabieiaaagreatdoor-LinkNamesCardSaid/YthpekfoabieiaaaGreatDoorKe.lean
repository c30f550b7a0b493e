import Derived.Test.YthpekfoabieiaaaGreatDoorLa
set_option linter.all false
namespace Go.LN
open Go.CE
set_option maxRecDepth 1000000
theorem k48 : Finds 8412 9996 nofB m48 20 a48 v48 := by show evCall _ _ _ _ _ _ = _; kernel_rfl
theorem k75 : Finds 5037 5196 nofB m75 105 a75 v75 := by show evCall _ _ _ _ _ _ = _; kernel_rfl
theorem k143 : Finds 3586 5196 nofB m143 62 a143 v143 := by show evCall _ _ _ _ _ _ = _; kernel_rfl
end Go.LN
