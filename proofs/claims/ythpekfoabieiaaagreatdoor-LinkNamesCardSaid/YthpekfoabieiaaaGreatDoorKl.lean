import Derived.Test.YthpekfoabieiaaaGreatDoorLa
set_option linter.all false
namespace Go.LN
open Go.CE
set_option maxRecDepth 1000000
theorem k1 : Finds 5680 5832 nofB m1 105 a1 v1 := by show evCall _ _ _ _ _ _ = _; kernel_rfl
theorem k3 : Finds 6018 6171 nofB m3 105 a3 v3 := by show evCall _ _ _ _ _ _ = _; kernel_rfl
theorem k9 : Finds 5680 5836 nofB m9 105 a9 v9 := by show evCall _ _ _ _ _ _ = _; kernel_rfl
theorem k12 : Finds 6186 6358 nofB m12 302 a12 v12 := by show evCall _ _ _ _ _ _ = _; kernel_rfl
theorem k15 : Finds 5680 5836 nofB m15 105 a15 v15 := by show evCall _ _ _ _ _ _ = _; kernel_rfl
theorem k17 : Finds 5680 5836 nofB m17 105 a17 v17 := by show evCall _ _ _ _ _ _ = _; kernel_rfl
theorem k19 : Finds 5883 6039 nofB m19 105 a19 v19 := by show evCall _ _ _ _ _ _ = _; kernel_rfl
theorem k21 : Finds 5680 5833 nofB m21 108 a21 v21 := by show evCall _ _ _ _ _ _ = _; kernel_rfl
theorem k23 : Finds 5680 5833 nofB m23 108 a23 v23 := by show evCall _ _ _ _ _ _ = _; kernel_rfl
theorem k25 : Finds 5883 6036 nofB m25 108 a25 v25 := by show evCall _ _ _ _ _ _ = _; kernel_rfl
theorem k27 : Finds 5680 5836 nofB m27 105 a27 v27 := by show evCall _ _ _ _ _ _ = _; kernel_rfl
theorem k29 : Finds 5680 5833 nofB m29 108 a29 v29 := by show evCall _ _ _ _ _ _ = _; kernel_rfl
theorem k35 : Finds 5883 6039 nofB m35 105 a35 v35 := by show evCall _ _ _ _ _ _ = _; kernel_rfl
theorem k36 : Finds 5883 6036 nofB m36 105 a36 v36 := by show evCall _ _ _ _ _ _ = _; kernel_rfl
theorem k39 : Finds 5883 6036 nofB m39 108 a39 v39 := by show evCall _ _ _ _ _ _ = _; kernel_rfl
theorem k40 : Finds 5883 6036 nofB m40 105 a40 v40 := by show evCall _ _ _ _ _ _ = _; kernel_rfl
theorem k41 : Finds 5883 6034 nofB m41 196 a41 v41 := by show evCall _ _ _ _ _ _ = _; kernel_rfl
theorem k77 : Finds 5037 5193 nofB m77 105 a77 v77 := by show evCall _ _ _ _ _ _ = _; kernel_rfl
theorem k80 : Finds 5189 5361 nofB m80 302 a80 v80 := by show evCall _ _ _ _ _ _ = _; kernel_rfl
theorem k85 : Finds 5037 5193 nofB m85 105 a85 v85 := by show evCall _ _ _ _ _ _ = _; kernel_rfl
theorem k92 : Finds 5189 5361 nofB m92 302 a92 v92 := by show evCall _ _ _ _ _ _ = _; kernel_rfl
theorem k97 : Finds 5191 5347 nofB m97 105 a97 v97 := by show evCall _ _ _ _ _ _ = _; kernel_rfl
theorem k109 : Finds 5191 5344 nofB m109 108 a109 v109 := by show evCall _ _ _ _ _ _ = _; kernel_rfl
theorem k119 : Finds 3410 3608 nofB m119 10 a119 v119 := by show evCall _ _ _ _ _ _ = _; kernel_rfl
end Go.LN
