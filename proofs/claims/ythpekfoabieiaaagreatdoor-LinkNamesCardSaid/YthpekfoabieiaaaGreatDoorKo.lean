import Derived.Test.YthpekfoabieiaaaGreatDoorLa
set_option linter.all false
namespace Go.LN
open Go.CE
set_option maxRecDepth 1000000
noncomputable def memoMain (f : FuncId) (args : List AV) (N : Nat) : Option AV :=
  bsel (bsel (Nat.beq f 5) (nmem N [2, 3, 208]) false) none
    (bsel (bsel (Nat.beq f 12) (bsel (Nat.beq N 3) (eqL (avEq 60) args a46) false) false) none (memoOf 3410 (mQ mMain) f args N))
noncomputable def h0 : Heap := ⟨Q.full 7, 0, 1000000000⟩
theorem main_run : evCall (env nofB memoMain) 100000 60 (.fn 3) [] h0 = some (.bool true, h0) := by kernel_rfl
end Go.LN
