import Derived.Test.YthpekfoabieiaaaGreatDoorLa
set_option linter.all false
namespace Go.LN
open Go.CE
set_option maxRecDepth 1000000
theorem k4 : Finds 6018 6171 nofB m4 105 a4 v4 := by show evCall _ _ _ _ _ _ = _; kernel_rfl
theorem k5 : Finds 6018 6170 nofB m5 105 a5 v5 := by show evCall _ _ _ _ _ _ = _; kernel_rfl
theorem k7 : Finds 5680 5832 nofB m7 193 a7 v7 := by show evCall _ _ _ _ _ _ = _; kernel_rfl
theorem k13 : Finds 6034 6186 nofB m13 193 a13 v13 := by show evCall _ _ _ _ _ _ = _; kernel_rfl
theorem k20 : Finds 5680 5833 nofB m20 105 a20 v20 := by show evCall _ _ _ _ _ _ = _; kernel_rfl
theorem k22 : Finds 5680 5833 nofB m22 105 a22 v22 := by show evCall _ _ _ _ _ _ = _; kernel_rfl
theorem k24 : Finds 5883 6035 nofB m24 105 a24 v24 := by show evCall _ _ _ _ _ _ = _; kernel_rfl
theorem k28 : Finds 5680 5833 nofB m28 105 a28 v28 := by show evCall _ _ _ _ _ _ = _; kernel_rfl
theorem k30 : Finds 5883 6035 nofB m30 105 a30 v30 := by show evCall _ _ _ _ _ _ = _; kernel_rfl
theorem k31 : Finds 5883 6035 nofB m31 105 a31 v31 := by show evCall _ _ _ _ _ _ = _; kernel_rfl
theorem k38 : Finds 5883 6038 nofB m38 105 a38 v38 := by show evCall _ _ _ _ _ _ = _; kernel_rfl
theorem k42 : Finds 5883 6038 nofB m42 105 a42 v42 := by show evCall _ _ _ _ _ _ = _; kernel_rfl
theorem k47 : Finds 3586 3737 nofA m47 5 a47 v47 := by show evCall _ _ _ _ _ _ = _; kernel_rfl
theorem k53 : Finds 3410 3560 nofB m53 6 a53 v53 := by show evCall _ _ _ _ _ _ = _; kernel_rfl
theorem k79 : Finds 5361 5513 nofB m79 105 a79 v79 := by show evCall _ _ _ _ _ _ = _; kernel_rfl
theorem k81 : Finds 5037 5189 nofB m81 193 a81 v81 := by show evCall _ _ _ _ _ _ = _; kernel_rfl
theorem k91 : Finds 5361 5513 nofB m91 105 a91 v91 := by show evCall _ _ _ _ _ _ = _; kernel_rfl
theorem k93 : Finds 5037 5189 nofB m93 193 a93 v93 := by show evCall _ _ _ _ _ _ = _; kernel_rfl
theorem k106 : Finds 5015 5167 nofB m106 105 a106 v106 := by show evCall _ _ _ _ _ _ = _; kernel_rfl
theorem k108 : Finds 5191 5346 nofB m108 105 a108 v108 := by show evCall _ _ _ _ _ _ = _; kernel_rfl
theorem k111 : Finds 3410 3561 nofB m111 7 a111 v111 := by show evCall _ _ _ _ _ _ = _; kernel_rfl
theorem k113 : Finds 3410 3565 nofB m113 8 a113 v113 := by show evCall _ _ _ _ _ _ = _; kernel_rfl
theorem k120 : Finds 3560 3710 nofB m120 17 a120 v120 := by show evCall _ _ _ _ _ _ = _; kernel_rfl
theorem k121 : Finds 3410 3560 nofB m121 15 a121 v121 := by show evCall _ _ _ _ _ _ = _; kernel_rfl
theorem k126 : Finds 3586 3737 nofB m126 58 a126 v126 := by show evCall _ _ _ _ _ _ = _; kernel_rfl
theorem k127 : Finds 3586 3736 nofB m127 59 a127 v127 := by show evCall _ _ _ _ _ _ = _; kernel_rfl
theorem k144 : Finds 3410 3586 nofB m144 16 a144 v144 := by show evCall _ _ _ _ _ _ = _; kernel_rfl
end Go.LN
