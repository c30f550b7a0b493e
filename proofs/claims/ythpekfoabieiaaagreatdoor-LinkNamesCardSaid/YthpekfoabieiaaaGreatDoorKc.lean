import Derived.Test.YthpekfoabieiaaaGreatDoorLa
set_option linter.all false
namespace Go.LN
open Go.CE
set_option maxRecDepth 1000000
theorem k46 : Finds 3737 5883 nofA m46 12 a46 v46 := by show evCall _ _ _ _ _ _ = _; kernel_rfl
theorem k74 : Finds 3410 4820 nofB m74 10 a74 v74 := by show evCall _ _ _ _ _ _ = _; kernel_rfl
end Go.LN
