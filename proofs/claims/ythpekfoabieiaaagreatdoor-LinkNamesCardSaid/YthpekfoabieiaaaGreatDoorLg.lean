/- The law LinkNames (the document's examples, and errors; closed) returns true, for every input: it has none. Conditions: the given row's own (the listed package-level variables as the program's text lays them). The road: an evaluator of closed calls (Ea to Ed), proved sound against the model, is run by the kernel, function by function (Ka to Ko); Ld, Lg join. -/
import Derived.Test.YthpekfoabieiaaaGreatDoorLd
import Derived.Test.YthpekfoabieiaaaGreatDoorLe
import Derived.Test.YthpekfoabieiaaaGreatDoorLf
set_option linter.all false
namespace Go.Proofs.YthpekfoabieiaaaGreatDoor
open Go.ChangeShapes Go.WideShapes Go.ChangeAt Go.RowKit
set_option maxRecDepth 100000 in
theorem lifted (os : Os) (started : os.Started) (H : Type) (enc : TypeId × Value → H) :
    ReturnsInHanded {} Tryz.checked os 3 .any (fun w args => (Rows.linkNamesSpec.pre enc Tryz.prog Tryz.f3 Rows.linkNamesRow.domain false w args ∧ laidMetH Tryz.prog Rows.linkNamesRow.laid w) ∧ sizedMet enc Tryz.prog Tryz.f3 (OpenSpec.ofChange Rows.linkNamesSpec) false w args)
      (Rows.linkNamesSpec.post enc Tryz.prog Tryz.f3 false true false false) := by
  refine wrapBoth (C := Tryz.checked) (X := fun w _ => laidMetH Tryz.prog Rows.linkNamesRow.laid w) (fun _ _ _ hh h => h.of_heap hh) own started (by kernel_rfl) Tryz.func3
    (ChangeSpec.witness_shaped (enc := enc) (C := Tryz.checked) (os := os) (X := fun w _ => laidMetH Tryz.prog Rows.linkNamesRow.laid w) false (World.laidAll Tryz.prog os Rows.linkNamesRow.laid) #[] 8 (World.laidAll_os _ _ _)
      (World.shaped_of_ZipB (by kernel_rfl) (by kernel_rfl)) (by kernel_rfl) (by kernel_rfl) (by kernel_rfl)
      (by rw [MakeChecks.laidMetH_plain _ _ _ (by kernel_rfl)]; exact laidMet_laidAll _ (by kernel_rfl) (by kernel_rfl))) ?_
  intro W base args ds gs before hval0 hW hc h1 hL hS h2
  have hW' := hW
  obtain ⟨p, q, hA0, hV, rfl, hfz, hnd⟩ := hW
  have hA : DataW.TrodAll enc Tryz.prog W 0 (fun _ => true) true Tryz.f3.params.toList args.toList ds p := hA0
  rw [Tryz.params3] at hA
  obtain ⟨rfl, rfl, rfl⟩ := trodAll_none hA
  obtain ⟨rfl, rfl⟩ := trodVars_none hV
  clear hA0 hval0
  simp only [List.append_nil] at hW'
  refine (Go.LN.run (first9 hS) (globs hS hL)).mono fun e W' ⟨he, hg⟩ => ?_
  subst he
  exact ⟨_, rfl, _, _, _, _, _, _, hW', trodAll_cons_mk (shut_bool Tryz.underlying4 _) trodAll_mk0, trodAll_mk0, rfl, World.keptBut_mono (fun _ h => h.elim) hg, fun h => by cases h⟩
theorem named3 : Tryz.prog.funcNamed "riposte/ripostelaw21.LinkNames" = some 3 := by kernel_rfl
theorem inst3 : Tryz.f3.isInstance Tryz.prog Rows.linkNamesRow.origin Rows.linkNamesRow.targs := of_decide_eq_true (by as_aux_lemma => kernel_rfl)
theorem wrap3 : Tryz.f3.isWrapper Tryz.prog Rows.linkNamesRow.wrapper Rows.linkNamesRow.mainSum := by
  unfold Func.isWrapper
  first
  | (rw [if_pos (by decide +kernel)]; kernel_rfl)
  | (rw [if_neg (by decide +kernel)]; exact ⟨rfl, rfl⟩)
theorem linkNames_holds : Rows.LinkNamesSaid :=
  OpenClaim.holds_of_wide 3 Tryz.f3 rfl rfl rfl rfl rfl rfl rfl ⟨rfl, rfl, rfl, rfl, rfl⟩ rfl rfl rfl rfl rfl named3 Tryz.func3 closedFacts inst3 wrap3
    (fun os started H enc _ => lifted os started H enc)
theorem wfText : Rows.linkNamesRow.wfByText (OpenSpec.ofChange Rows.linkNamesSpec) = true := by kernel_rfl
theorem mainIs3 : Tryz.pinned.checked.prog.mainIs = some (true, "2d2fb21e3140ec8b68abe460fc1b51d758de3497fc17a85d0cf867642ed0da79".toList) := by kernel_rfl
theorem looks3 : true = Tryz.pinned.checked.prog.looks [] := by kernel_rfl
theorem linkNames_card : Rows.LinkNamesCardSaid :=
  Claim7.holds_tied_plain_at .later [] [.data, .data, .data, .data, .sentinel, .sentinel, .sentinel, .pinned] true (true, "2d2fb21e3140ec8b68abe460fc1b51d758de3497fc17a85d0cf867642ed0da79") true
    linkNames_holds (fun _ h => by cases h) wfText (fun _ h => by cases h) linkNames_row_tie rfl ⟨rfl, rfl⟩ mainIs3 rfl
    (fun f fn hf hfn => by
      obtain rfl : f = 3 := Option.some.inj (named3.symm.trans hf) |>.symm
      obtain rfl : fn = Tryz.f3 := (Option.some.inj (Tryz.func3.symm.trans hfn)).symm
      exact ⟨looks3, fun j t ht => by
        rw [Tryz.params3] at ht
        simp at ht⟩)
    goes3
#print axioms linkNames_card
end Go.Proofs.YthpekfoabieiaaaGreatDoor
