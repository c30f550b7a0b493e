import Derived.Test.YthpekfoabieiaaaGreatDoorLa
set_option linter.all false
namespace Go.LN
open Go.CE
set_option maxRecDepth 1000000
theorem k2 : Finds 5680 5840 nofB m2 105 a2 v2 := by show evCall _ _ _ _ _ _ = _; kernel_rfl
theorem k6 : Finds 5832 6018 nofB m6 302 a6 v6 := by show evCall _ _ _ _ _ _ = _; kernel_rfl
theorem k43 : Finds 5883 6036 nofB m43 108 a43 v43 := by show evCall _ _ _ _ _ _ = _; kernel_rfl
theorem k54 : Finds 3410 4693 nofB m54 7 a54 v54 := by show evCall _ _ _ _ _ _ = _; kernel_rfl
theorem k56 : Finds 4742 4893 nofB m56 23 a56 v56 := by show evCall _ _ _ _ _ _ = _; kernel_rfl
theorem k62 : Finds 3410 4693 nofB m62 9 a62 v62 := by show evCall _ _ _ _ _ _ = _; kernel_rfl
theorem k99 : Finds 5037 5196 nofB m99 105 a99 v99 := by show evCall _ _ _ _ _ _ = _; kernel_rfl
theorem k105 : Finds 5015 5172 nofB m105 105 a105 v105 := by show evCall _ _ _ _ _ _ = _; kernel_rfl
theorem k128 : Finds 5191 5348 nofB m128 105 a128 v128 := by show evCall _ _ _ _ _ _ = _; kernel_rfl
theorem k133 : Finds 3586 3781 nofB m133 60 a133 v133 := by show evCall _ _ _ _ _ _ = _; kernel_rfl
theorem k134 : Finds 5612 7117 nofB m134 138 a134 v134 := by show evCall _ _ _ _ _ _ = _; kernel_rfl
theorem k141 : Finds 5612 7117 nofB m141 138 a141 v141 := by show evCall _ _ _ _ _ _ = _; kernel_rfl
end Go.LN
