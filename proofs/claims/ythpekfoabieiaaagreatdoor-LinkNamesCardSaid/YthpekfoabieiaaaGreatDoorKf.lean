import Derived.Test.YthpekfoabieiaaaGreatDoorLa
set_option linter.all false
namespace Go.LN
open Go.CE
set_option maxRecDepth 1000000
theorem k49 : Finds 8412 10190 nofB m49 20 a49 v49 := by show evCall _ _ _ _ _ _ = _; kernel_rfl
theorem k57 : Finds 3410 4742 nofB m57 8 a57 v57 := by show evCall _ _ _ _ _ _ = _; kernel_rfl
theorem k86 : Finds 3410 5037 nofA m86 12 a86 v86 := by show evCall _ _ _ _ _ _ = _; kernel_rfl
end Go.LN
