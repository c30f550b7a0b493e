import Derived.Test.YthpekfoabieiaaaGreatDoorLa
set_option linter.all false
namespace Go.LN
open Go.CE
set_option maxRecDepth 1000000
theorem k11 : Finds 6358 6510 nofB m11 105 a11 v11 := by show evCall _ _ _ _ _ _ = _; kernel_rfl
theorem k110 : Finds 3410 5015 nofA m110 12 a110 v110 := by show evCall _ _ _ _ _ _ = _; kernel_rfl
theorem k131 : Finds 3586 5191 nofA m131 12 a131 v131 := by show evCall _ _ _ _ _ _ = _; kernel_rfl
theorem k136 : Finds 5612 7117 nofB m136 138 a136 v136 := by show evCall _ _ _ _ _ _ = _; kernel_rfl
theorem k138 : Finds 5612 7285 nofB m138 138 a138 v138 := by show evCall _ _ _ _ _ _ = _; kernel_rfl
end Go.LN
