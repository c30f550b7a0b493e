import Derived.Test.YthpekfoabieiaaaGreatDoorKo
import Derived.Test.YthpekfoabieiaaaGreatDoorLc
import Derived.Stop.LaidErr
import Derived.Shelf.Vars
import Derived.HandedShaped
import Derived.Lib.LaidTab
import Derived.Test.YthpekfoabieiaaaGreatDoorRows
import Derived.Test.YthpekfoabieiaaaGreatDoorTie
import Derived.Test.YthpekfoabieiaaaGreatDoorCards
import Derived.WalkKit
import Derived.ProofKit
import Derived.OpenShut
import Derived.LaidMore
import Derived.Lay
import Derived.SevenTiedAt
import Derived.Stop.Joined
set_option linter.all false
namespace Go.LN
open Go.CE Go.Proofs
set_option maxRecDepth 1000000
variable {W : World}
theorem hk_of {nof : List Nat} {memo : FuncId → List AV → Nat → Option AV} {f : Nat} : (env nof memo).hook f = hk f := rfl
theorem memoMain_le {f : FuncId} {args : List AV} {N : Nat} {v : AV} (h : memoMain f args N = some v) : memoOf 3410 (mQ mMain) f args N = some v := by
  unfold memoMain at h
  obtain ⟨_, h1⟩ := bsel_none' h
  obtain ⟨_, h2⟩ := bsel_none' h1
  exact h2
theorem memoMain_ok : MemoOK (GI W) Tryz.prog (env nofB memoMain) := by
  intro f args N v h
  exact (MT.ok (W := W) (T := 3410) (nof := nofB) wMain) f args N v (memoMain_le h)
/-- The state in which nothing is known but the blocks. -/
noncomputable def S0 (W : World) : St := { look := fun _ => none, kn := fun _ => False, G := fun _ _ => ⟨0, 0, 0⟩, hp := W.heap }
theorem S0_live {r g : Nat} (h : (S0 W).live r g) : False := by
  obtain ⟨row, h1, _⟩ := h
  cases h1
theorem S0_rel : Rel (S0 W) :=
  ⟨fun _ _ h => (by cases h), fun _ _ h => (S0_live h).elim, fun _ _ _ _ h => (S0_live h).elim, fun _ _ h => (by cases h)⟩
theorem S0_imm {B : Nat} (h : B < W.heap.size) : (S0 W).imm B := ⟨h, fun r g hl => (S0_live hl).elim⟩
theorem at0 (h9 : ∀ B, B < 9 → B < W.heap.size ∧ ∀ ds, W.heap[B]? ≠ some (.deferred ds)) (hg : globOK W) : At (GI W) (S0 W) h0 W :=
  ⟨S0_rel, rfl, funext fun r => (Q.get_full 7 r).symm, fun _ hr => hr.elim, ⟨fun B hB => ⟨S0_imm (h9 B hB).1, (h9 B hB).2⟩, fun _ hw => hg.same fun B _ => by rw [hw]; rfl⟩, okRows_full, ⟨rfl, rfl⟩⟩
theorem kept_of {w' : World} {S' : St} {h : Heap} (hAt : At (GI W) S' h w') (hb : Ext (S0 W) S') : W.keptBut w' (fun _ => False) := by
  refine ⟨hAt.out.1, hAt.out.2, fun i hi => ?_⟩
  have h1 := (hb.imm i (S0_imm hi)).2
  have h2 : w'.heap[i]? = W.heap[i]? := by rw [← hAt.hp, h1]; rfl
  rw [h2]
  cases hq : W.heap[i]? with
  | none => rfl
  | some o =>
    cases o <;> first
      | exact ⟨rfl, rfl, rfl, fun _ _ => rfl⟩
      | exact .inr ⟨rfl, rfl⟩
      | rfl
/-- THE RUN. -/
theorem run (h9 : ∀ B, B < 9 → B < W.heap.size ∧ ∀ ds, W.heap[B]? ≠ some (.deferred ds)) (hg : globOK W) :
    Calls Tryz.prog 3 #[] W fun e w' => e = .returned (.bool true) ∧ W.keptBut w' (fun _ => False) := by
  have hs := (evCall_sound (GI := GI W) (L := 100000) free_next (envTypes nofB memoMain) (envFuncs nofB memoMain) (hooksOK nofB memoMain) (memoMain_ok (W := W)) (hooksGood nofB memoMain) 60).2
  obtain ⟨_, h2⟩ := hs 3 [] h0 _ _ (by kernel_rfl) main_run Fence.wide free_wide (S0 W) W #[] (at0 h9 hg) (by simp [VL])
  refine (callsIn_wide.1 h2).mono fun e w' hx => ?_
  cases e with
  | returned x =>
    obtain ⟨S', k1, k2, k3⟩ := hx
    simp only [V] at k3
    subst k3
    exact ⟨rfl, kept_of k1 k2.ext⟩
  | panicked c => exact hx.elim
  | outgrown => exact hx.elim
end Go.LN

namespace Go.Proofs.YthpekfoabieiaaaGreatDoor
open Go.ChangeShapes Go.WideShapes Go.ChangeAt Go.RowKit
variable {H : Type} {enc : TypeId × Value → H}
/-- The wrap that keeps both: what is laid, and the world's shape. -/
theorem wrapBoth {a : Assume} {C : Checked} {os : Os} {f : FuncId} {fn : Func} {s : ChangeSpec} {conds : List PathCond} {apart fresh handsOn again : Bool} {X : World → Array Value → Prop}
    (hX : ∀ (w w' : World) (args : Array Value), w.heap = w'.heap → X w args → X w' args)
    (own : ownKnob C.prog.godebug = none) (started : os.Started) (noInit : C.prog.inits.idxOf? f = none) (hfn : C.prog.funcs[f]? = some fn)
    (witness : ∃ (w : World) (tape : Tape) (i : Input), w.os = os ∧ (w.forCall tape i).Shaped C.prog ∧ i.vars = [] ∧ Input.okWide C.prog (w.forCall tape i) .any w.heap.size f i ∧
      ((s.pre enc C.prog fn conds apart (w.forCall tape i).memory i.args ∧ X (w.forCall tape i).memory i.args) ∧ sizedMet enc C.prog fn (OpenSpec.ofChange s) apart (w.forCall tape i).memory i.args) ∧ a.holds C.prog (lone (Frame.enter C.prog f i.args .normal) [] (w.forCall tape i)))
    (contract : ∀ (W : World) (base : Nat) (args : Array Value) (ds gs : List (DataW H)) (before : List MemPlace),
      (∀ (j : Nat) t v, fn.params[j]? = some t → args[j]? = some v → Value.okWide C.prog W .any base t v) →
      DataW.Whole enc C.prog fn.params.toList s.vars apart W args.toList ds gs before →
      conds.all (PathCond.test C.prog ⟨fn.params.toList, ds, s.plain.varTypes C.prog, gs⟩) = true →
      (DataW.weightsEach C.prog (fn.params.toList ++ s.plain.varTypes C.prog) (ds ++ gs)).all (· ≤ reachBytes) = true → X W args →
      W.ShapedOpen C.prog →
      a.holds C.prog (lone (Frame.enter C.prog f args .normal) [] W) →
      Calls C.prog f args W fun e W' => ∃ v, e = .returned v ∧ s.post enc C.prog fn apart fresh handsOn again W args v W') :
    ReturnsInHanded a C os f .any (fun w args => (s.pre enc C.prog fn conds apart w args ∧ X w args) ∧ sizedMet enc C.prog fn (OpenSpec.ofChange s) apart w args) (s.post enc C.prog fn apart fresh handsOn again) := by
  refine returnsInHanded_of_calls own started noInit witness ?_
  intro w tape i _ hsh _ hok hpre hholds
  obtain ⟨_, _, _, fn', hfn', _, _, _, _, hval⟩ := hok
  have e : fn' = fn := Option.some.inj (hfn'.symm.trans hfn)
  subst e
  obtain ⟨⟨⟨ds, gs, before, hw, hc⟩, hx⟩, hz⟩ := hpre
  have hw' := DataW.Whole.of_heap (w' := w.forCall tape i) (by rfl) hw
  refine (contract (w.forCall tape i) w.heap.size i.args ds gs before hval hw' hc (hz.weights hw) (hX _ _ _ (by rfl) hx) hsh hholds).mono fun e W' ⟨v, he, hp⟩ => ?_
  subst he
  exact ChangeSpec.post_blind hp

theorem own : ownKnob Tryz.prog.godebug = none := by kernel_rfl
set_option maxRecDepth 100000 in
theorem row_some (B : Nat) (hB : B < 9) : (((begin Tryz.prog (fun _ _ => 0) default).world.heap[B]?).bind Obj.row?).isSome = true := by
  have h : ((List.range 9).all fun B => (((begin Tryz.prog (fun _ _ => 0) default).world.heap[B]?).bind Obj.row?).isSome) = true := by kernel_rfl
  exact List.all_eq_true.1 h B (List.mem_range.2 hB)
theorem globals9 : Tryz.prog.globals.size = 9 := by kernel_rfl
theorem first9 {W : World} (h : W.ShapedOpen Tryz.prog) (B : Nat) (hB : B < 9) : B < W.heap.size ∧ ∀ ds, W.heap[B]? ≠ some (.deferred ds) := by
  obtain ⟨⟨zero, t⟩, hz⟩ := Option.isSome_iff_exists.1 (row_some B hB)
  obtain ⟨cs, h1, _, _⟩ := h.1 B zero t (by rw [globals9]; exact hB) hz
  refine ⟨(Array.getElem?_eq_some_iff.1 h1).1, fun ds hd => ?_⟩
  rw [h1] at hd
  cases hd
theorem globs {W : World} (h : W.ShapedOpen Tryz.prog) (hL : laidMetH Tryz.prog Rows.linkNamesRow.laid W) : Go.LN.globOK W := by
  refine ⟨Go.Proofs.cell_of_shapedOpen_int (g := 0) (t := 3) (zero := #[.int .i64 0]) h (by rw [globals9]; decide) (by kernel_rfl) rfl (by kernel_rfl) (by kernel_rfl) (by kernel_rfl), ?_⟩
  rw [MakeChecks.laidMetH_plain _ _ _ (by kernel_rfl)] at hL
  have hL' := laidMet.tail (laidMet.tail hL)
  exact Lib.tabIs_of_head (g := 2) (t := 442) (e := 298) (n := 20) (k := .u64) (by kernel_rfl) (by kernel_rfl) (by kernel_rfl) (by kernel_rfl) (by kernel_rfl) (by kernel_rfl) hL'
end Go.Proofs.YthpekfoabieiaaaGreatDoor
