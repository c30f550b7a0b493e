import Derived.Test.YthpekfoabieiaaaGreatDoorLa
set_option linter.all false
namespace Go.LN
open Go.CE
set_option maxRecDepth 1000000
theorem k0 : Finds 5680 5848 nofB m0 105 a0 v0 := by show evCall _ _ _ _ _ _ = _; kernel_rfl
theorem k50 : Finds 7030 8412 nofB m50 17 a50 v50 := by show evCall _ _ _ _ _ _ = _; kernel_rfl
theorem k123 : Finds 3410 4858 nofB m123 20 a123 v123 := by show evCall _ _ _ _ _ _ = _; kernel_rfl
theorem k137 : Finds 5612 7324 nofB m137 138 a137 v137 := by show evCall _ _ _ _ _ _ = _; kernel_rfl
theorem k139 : Finds 5612 7285 nofB m139 138 a139 v139 := by show evCall _ _ _ _ _ _ = _; kernel_rfl
end Go.LN
