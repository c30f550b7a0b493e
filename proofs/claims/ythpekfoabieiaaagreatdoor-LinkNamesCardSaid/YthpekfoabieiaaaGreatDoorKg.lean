import Derived.Test.YthpekfoabieiaaaGreatDoorLa
set_option linter.all false
namespace Go.LN
open Go.CE
set_option maxRecDepth 1000000
theorem k45 : Finds 5883 6036 nofB m45 108 a45 v45 := by show evCall _ _ _ _ _ _ = _; kernel_rfl
theorem k98 : Finds 3410 5037 nofA m98 12 a98 v98 := by show evCall _ _ _ _ _ _ = _; kernel_rfl
theorem k104 : Finds 3410 5037 nofA m104 12 a104 v104 := by show evCall _ _ _ _ _ _ = _; kernel_rfl
theorem k135 : Finds 5612 7491 nofB m135 138 a135 v135 := by show evCall _ _ _ _ _ _ = _; kernel_rfl
end Go.LN
