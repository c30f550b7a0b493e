import Derived.Test.YthpekfoabieiaaaGreatDoorLa
set_option linter.all false
namespace Go.LN
open Go.CE
set_option maxRecDepth 1000000
theorem k8 : Finds 5680 5832 nofB m8 105 a8 v8 := by show evCall _ _ _ _ _ _ = _; kernel_rfl
theorem k10 : Finds 6358 6511 nofB m10 105 a10 v10 := by show evCall _ _ _ _ _ _ = _; kernel_rfl
theorem k14 : Finds 5680 5832 nofB m14 105 a14 v14 := by show evCall _ _ _ _ _ _ = _; kernel_rfl
theorem k16 : Finds 5680 5832 nofB m16 105 a16 v16 := by show evCall _ _ _ _ _ _ = _; kernel_rfl
theorem k18 : Finds 5883 6035 nofB m18 105 a18 v18 := by show evCall _ _ _ _ _ _ = _; kernel_rfl
theorem k26 : Finds 5680 5832 nofB m26 105 a26 v26 := by show evCall _ _ _ _ _ _ = _; kernel_rfl
theorem k34 : Finds 5883 6035 nofB m34 105 a34 v34 := by show evCall _ _ _ _ _ _ = _; kernel_rfl
theorem k37 : Finds 5883 6039 nofB m37 105 a37 v37 := by show evCall _ _ _ _ _ _ = _; kernel_rfl
theorem k44 : Finds 5883 6038 nofB m44 105 a44 v44 := by show evCall _ _ _ _ _ _ = _; kernel_rfl
theorem k51 : Finds 3410 4690 nofB m51 4 a51 v51 := by show evCall _ _ _ _ _ _ = _; kernel_rfl
theorem k76 : Finds 5037 5189 nofB m76 105 a76 v76 := by show evCall _ _ _ _ _ _ = _; kernel_rfl
theorem k78 : Finds 5361 5514 nofB m78 105 a78 v78 := by show evCall _ _ _ _ _ _ = _; kernel_rfl
theorem k82 : Finds 5037 5189 nofB m82 105 a82 v82 := by show evCall _ _ _ _ _ _ = _; kernel_rfl
theorem k83 : Finds 5037 5193 nofB m83 105 a83 v83 := by show evCall _ _ _ _ _ _ = _; kernel_rfl
theorem k84 : Finds 5037 5189 nofB m84 105 a84 v84 := by show evCall _ _ _ _ _ _ = _; kernel_rfl
theorem k88 : Finds 5037 5189 nofB m88 105 a88 v88 := by show evCall _ _ _ _ _ _ = _; kernel_rfl
theorem k89 : Finds 5037 5193 nofB m89 105 a89 v89 := by show evCall _ _ _ _ _ _ = _; kernel_rfl
theorem k90 : Finds 5361 5514 nofB m90 105 a90 v90 := by show evCall _ _ _ _ _ _ = _; kernel_rfl
theorem k94 : Finds 5037 5189 nofB m94 105 a94 v94 := by show evCall _ _ _ _ _ _ = _; kernel_rfl
theorem k95 : Finds 5037 5193 nofB m95 105 a95 v95 := by show evCall _ _ _ _ _ _ = _; kernel_rfl
theorem k96 : Finds 5191 5343 nofB m96 105 a96 v96 := by show evCall _ _ _ _ _ _ = _; kernel_rfl
theorem k100 : Finds 5037 5189 nofB m100 105 a100 v100 := by show evCall _ _ _ _ _ _ = _; kernel_rfl
theorem k101 : Finds 5037 5193 nofB m101 105 a101 v101 := by show evCall _ _ _ _ _ _ = _; kernel_rfl
theorem k102 : Finds 5037 5189 nofB m102 105 a102 v102 := by show evCall _ _ _ _ _ _ = _; kernel_rfl
theorem k103 : Finds 5037 5193 nofB m103 105 a103 v103 := by show evCall _ _ _ _ _ _ = _; kernel_rfl
theorem k107 : Finds 5015 5171 nofB m107 105 a107 v107 := by show evCall _ _ _ _ _ _ = _; kernel_rfl
theorem k112 : Finds 3565 3759 nofB m112 20 a112 v112 := by show evCall _ _ _ _ _ _ = _; kernel_rfl
theorem k114 : Finds 3410 3562 nofB m114 9 a114 v114 := by show evCall _ _ _ _ _ _ = _; kernel_rfl
theorem k129 : Finds 5191 5343 nofB m129 105 a129 v129 := by show evCall _ _ _ _ _ _ = _; kernel_rfl
theorem k130 : Finds 5191 5347 nofB m130 105 a130 v130 := by show evCall _ _ _ _ _ _ = _; kernel_rfl
end Go.LN
