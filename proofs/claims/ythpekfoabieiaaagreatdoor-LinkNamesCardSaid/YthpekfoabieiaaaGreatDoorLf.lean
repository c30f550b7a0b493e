import Derived.Test.YthpekfoabieiaaaGreatDoorRows
import Derived.KernelRfl
import GoSem.ClaimGoes
set_option linter.all false
namespace Go.Proofs.YthpekfoabieiaaaGreatDoor
set_option maxRecDepth 100000
theorem goes_none {P : Program} (h : ∀ (g : Nat) (fn : Func), P.funcs[g]? = some fn → Func.goes fn = false) (f : FuncId) : P.goes f = false := by
  unfold Program.goes
  rw [Bool.or_eq_false_iff]
  constructor
  · rw [List.any_eq_false]
    intro g _ hg
    obtain ⟨fn, h2, h3⟩ := (Option.any_eq_true _ _).1 hg
    rw [h g fn h2] at h3
    cases h3
  · rw [Bool.and_eq_false_iff]
    refine .inr (Array.any_eq_false.2 fun i hi hg => ?_)
    rw [h i _ (Array.getElem?_eq_getElem hi)] at hg
    cases hg
theorem goesBy_false {c : OpenClaim} {P : Program} (hs : c.start = .entering) (h : ∀ f, P.goes f = false) : false = c.goesBy P := by
  unfold OpenClaim.goesBy Program.goesAt Program.goesFrom
  rw [hs]
  cases P.funcNamed c.func with
  | none => rfl
  | some f => simp [h f]
noncomputable def still (k : Nat) : Bool := (List.range 40).all fun i => (Tryz.prog.funcs[40 * k + i]?).all fun fn => !fn.goes
theorem still0 : still 0 = true := by kernel_rfl
theorem still1 : still 1 = true := by kernel_rfl
theorem still2 : still 2 = true := by kernel_rfl
theorem still3 : still 3 = true := by kernel_rfl
theorem still4 : still 4 = true := by kernel_rfl
theorem still5 : still 5 = true := by kernel_rfl
theorem still6 : still 6 = true := by kernel_rfl
theorem still7 : still 7 = true := by kernel_rfl
theorem still8 : still 8 = true := by kernel_rfl
theorem still9 : still 9 = true := by kernel_rfl
theorem still10 : still 10 = true := by kernel_rfl
theorem still11 : still 11 = true := by kernel_rfl
theorem size_le : Tryz.prog.funcs.size ≤ 480 := by
  have h : Nat.ble Tryz.prog.funcs.size 480 = true := by kernel_rfl
  exact Nat.le_of_ble_eq_true h
theorem stillAll (k : Nat) (h : k < 12) : still k = true := by
  rcases k with _ | _ | _ | _ | _ | _ | _ | _ | _ | _ | _ | _ | k
  · exact still0
  · exact still1
  · exact still2
  · exact still3
  · exact still4
  · exact still5
  · exact still6
  · exact still7
  · exact still8
  · exact still9
  · exact still10
  · exact still11
  · omega
theorem noGoes (g : Nat) (fn : Func) (h : Tryz.prog.funcs[g]? = some fn) : fn.goes = false := by
  have hg : g < Tryz.prog.funcs.size := (Array.getElem?_eq_some_iff.1 h).1
  have hs := size_le
  have h1 := stillAll (g / 40) (by omega)
  unfold still at h1
  have h2 := List.all_eq_true.1 h1 (g % 40) (List.mem_range.2 (Nat.mod_lt _ (by decide)))
  rw [Nat.div_add_mod, h] at h2
  simpa using h2
theorem goes3 : false = Rows.linkNamesRow.goesBy Tryz.pinned.checked.prog := goesBy_false rfl (goes_none noGoes)
end Go.Proofs.YthpekfoabieiaaaGreatDoor
