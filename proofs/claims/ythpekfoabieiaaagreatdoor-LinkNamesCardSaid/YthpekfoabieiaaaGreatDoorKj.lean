import Derived.Test.YthpekfoabieiaaaGreatDoorLa
set_option linter.all false
namespace Go.LN
open Go.CE
set_option maxRecDepth 1000000
theorem k33 : Finds 5883 6048 nofB m33 105 a33 v33 := by show evCall _ _ _ _ _ _ = _; kernel_rfl
theorem k87 : Finds 5037 5196 nofB m87 105 a87 v87 := by show evCall _ _ _ _ _ _ = _; kernel_rfl
theorem k124 : Finds 3410 4858 nofB m124 20 a124 v124 := by show evCall _ _ _ _ _ _ = _; kernel_rfl
theorem k125 : Finds 3410 4858 nofB m125 20 a125 v125 := by show evCall _ _ _ _ _ _ = _; kernel_rfl
theorem k132 : Finds 3781 5229 nofB m132 20 a132 v132 := by show evCall _ _ _ _ _ _ = _; kernel_rfl
theorem k140 : Finds 5612 7117 nofB m140 138 a140 v140 := by show evCall _ _ _ _ _ _ = _; kernel_rfl
end Go.LN
