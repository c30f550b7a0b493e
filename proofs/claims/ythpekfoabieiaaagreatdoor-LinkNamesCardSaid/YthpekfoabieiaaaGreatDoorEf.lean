import Derived.Shelf.Bytes.WriteByteAt
import Derived.Shelf.Bytes.WriteStringAt
import Derived.Shelf.Bytes.GrowAt
import Derived.Test.YthpekfoabieiaaaGreatDoorEb
import Derived.Test.YthpekfoabieiaaaGreatDoorEe
set_option linter.all false
namespace Go.CE
open Go.Proofs Go.Shelf Go.RowKit
variable {P : Program} {ρ : Ren}

set_option maxHeartbeats 2000000 in
set_option maxRecDepth 100000 in
/-- (*bytes.Buffer).Len, of whatever slice. -/
theorem buf_Len (L : LaysM.n181 P ρ) (b q l cap : Nat) (ao : Option Addr) (w : World) (c0 : w.cell? ⟨b, q, none⟩ = some (.slice ao l cap)) (c1 : w.cell? ⟨b, q + 1, none⟩ = some (.int .i64 0)) (hl : l ≤ cap) (hcm : cap ≤ maxLen) :
    Calls P (ρ.f 181) #[.pointer (some ⟨b, q, none⟩)] w fun e w' => e = .returned (.int .i64 l) ∧ ∃ n, w' = w.drewN n := by
  have mixed := L.mixed
  have t5 := L.t5; have a5 := L.a5; have z5 := L.z5; have v5 := L.v5
  have t130 := L.t130; have a130 := L.a130; have z130 := L.z130; have v130 := L.v130
  have t3 := L.t3; have a3 := L.a3; have z3 := L.z3; have v3 := L.v3
  have t0 := L.t0; have a0 := L.a0; have z0 := L.z0; have v0 := L.v0
  have t93 := L.t93; have u93 := run_underlying L.t93; have a93 := L.a93; have z93 := L.z93; have v93 := L.v93
  have t37 := L.t37; have a37 := L.a37; have z37 := L.z37; have v37 := L.v37
  unfold maxLen at hcm
  go_enter L.f181, Body.n181_ntmps ρ
  go_wp2
  go_region_o
  all_goals (go_wp2; go_ret; exact ⟨by simp, 1, rfl⟩)

set_option maxHeartbeats 6400000 in
set_option maxRecDepth 100000 in
/-- bytes.growSlice, of a slice that lies wherever. -/
theorem buf_growSlice (L : LaysM.n290 P ρ) (g off l c n : Nat) (xs : List Value) (w : World) (hgl : g < w.heap.size) (hxl : xs.length = l) (hsrc : ∀ j v, xs[j]? = some v → w.cell? ⟨g, off + j, none⟩ = some v) (hlc : l ≤ c) (hn : 1 ≤ n)
    (hlim : l + n ≤ 140737488355328) (hc2 : c ≤ 140737488355328) (h1 : ∀ v ∈ xs, v.oneCell' = true) :
    Calls P (ρ.f 290) #[.slice (some ⟨g, off, none⟩) l c, .int .i64 n] w fun e w' => ∃ cap2 cells, e = .returned (.slice (some ⟨w.heap.size, 0, none⟩) l cap2) ∧ w'.heap = w.heap.push (.cells cells (ρ.t 5) (0, 0)) ∧
      cells.size = cap2 ∧ cells.toList.take l = xs ∧ l + n ≤ cap2 ∧ cap2 ≤ maxLen ∧ SameOut w w' := by
  have mixed := L.mixed
  have t5 := L.t5; have a5 := L.a5; have z5 := L.z5; have v5 := L.v5
  have t37 := L.t37; have a37 := L.a37; have z37 := L.z37; have v37 := L.v37
  have t3 := L.t3; have a3 := L.a3; have z3 := L.z3; have v3 := L.v3
  have t0 := L.t0; have a0 := L.a0; have z0 := L.z0; have v0 := L.v0
  have t4 := L.t4; have a4 := L.a4; have z4 := L.z4; have v4 := L.v4
  obtain ⟨i0, hi, hz0, hz1, hz2⟩ := info_parts L.i5
  have hsz1 : (P.info? (ρ.t 5)).map (·.size) = some 1 := by rw [hi]; simp [hz1]
  -- what the walk leaves
  have fin : ∀ (C cap2 : Nat) (Z Y : Array Value), Z.size = cap2 → C ≤ cap2 → l + n ≤ C → cap2 ≤ maxLen → (Z.toList.take 0 ++ xs ++ Z.toList.drop (0 + l)).toArray = Y →
      ∀ w' : World, w'.heap = ((w.alloc (.cells Z (ρ.t 5))).setRow w.heap.size Y).heap → SameOut w w' → ∃ cap2' cells, (Ending.returned (.slice (some ⟨w.heap.size, 0, none⟩) l cap2)) = .returned (.slice (some ⟨w.heap.size, 0, none⟩) l cap2') ∧ w'.heap = w.heap.push (.cells cells (ρ.t 5) (0, 0)) ∧
        cells.size = cap2' ∧ cells.toList.take l = xs ∧ l + n ≤ cap2' ∧ cap2' ≤ maxLen ∧ SameOut w w' := by
    intro C cap2 Z Y hZs hC hln hcm hY w' hw hso
    have hYl : Y.toList = xs ++ Z.toList.drop l := by rw [← hY]; simp
    refine ⟨cap2, Y, rfl, ?_, ?_, ?_, by omega, hcm, hso⟩
    · rw [hw]
      have hrow := setRow_heap (w.alloc (.cells Z (ρ.t 5))) w.heap.size Z Y (ρ.t 5) (0, 0) (heap_alloc_new w _)
      refine Array.ext_getElem? fun k => ?_
      by_cases hk : k = w.heap.size
      · subst hk; rw [hrow]; simp
      · rw [setRow_other _ _ _ _ hk]
        show (w.heap.push _)[k]? = (w.heap.push _)[k]?
        rw [Array.getElem?_push, Array.getElem?_push]
        simp [hk]
    · have : Y.toList.length = cap2 := by rw [hYl, List.length_append, hxl, List.length_drop, Array.length_toList, hZs]; omega
      simpa using this
    · rw [hYl, List.take_append_of_le_length (by rw [hxl]; exact Nat.le_refl _), List.take_of_length_le (by rw [hxl]; exact Nat.le_refl _)]
  by_cases hC : l + n < 2 * c
  · have happ := Lib.run_append_nil_zeros (P := P) w (ρ.t 37) (ρ.t 3) (ρ.t 37) (ρ.t 5) i0 (.int .u8 0) .i64 .i64 L.t37 L.t3 hi hz0 (2 * c) (by omega) (by omega) (by omega) (by rw [hz2]; omega)
    rw [show (((2 * c : Nat)) : Int) = 2 * (c : Int) by omega] at happ
    generalize hcap : grownCap w (2 * c) 0 (ρ.t 5) = cap2 at happ
    have hcapge : 2 * c ≤ cap2 := by rw [← hcap]; exact grownCap_ge w _ 0 (ρ.t 5)
    have hcaple : cap2 ≤ maxLen := by rw [← hcap]; exact grownCap_le_maxLen w _ 0 (ρ.t 5) (by unfold maxLen; omega)
    generalize hZ : (Builtin.zeroCells (Value.int .u8 0).cells (2 * c) ++ Builtin.zeroCells (Value.int .u8 0).cells (cap2 - (2 * c))) = Z at happ
    have hZs : Z.size = cap2 := by rw [← hZ]; simp [size_zeroCells, Value.cells]; omega
    clear hcap hZ
    have hsrc' : ∀ j v, xs[j]? = some v → (w.alloc (.cells Z (ρ.t 5))).drew.cell? ((⟨g, off, none⟩ : Addr).add j) = some v := fun j v hj => by
      rw [add_addr]
      have := hsrc j v hj
      exact (World.cell?_of_block (a := ⟨g, off + j, none⟩) (RowKit.Below.heap_alloc w (.cells Z (ρ.t 5)) g hgl)).trans this
    have hcopy := run_copy_row (P := P) (w.alloc (.cells Z (ρ.t 5))).drew (ρ.t 37) (ρ.t 37) (ρ.t 3) (ρ.t 5) w.heap.size 0 (2 * c) cap2 ⟨g, off, none⟩ l c Z (ρ.t 5) xs L.t37 hsz1 (heap_alloc_new w _) (by rw [hxl]; exact (Nat.min_eq_left (by omega)).symm) hsrc' (by rw [hxl]; omega) h1
    rw [hxl] at hcopy
    generalize hY : (Z.toList.take 0 ++ xs ++ Z.toList.drop (0 + l)).toArray = Y at hcopy
    go_enter_defers L.f290, Body.n290_ntmps ρ
    go_wp2_with (at_builtin; refine Lib.wpList_append_run _ rfl _ _ _ _ rfl _ _ rfl rfl _ _ happ ?_)
    refine leaves_cons (f := (ρ.f 324)) (args := #[]) (by simp) (enters_of L.f324 (by kernel_rfl) rfl _ _) ?_
    refine (Any.growSlice_catch_idle { L with } _).mono ?_
    rintro e u' w'' ⟨rfl, rfl, rfl⟩
    refine ⟨_, results_tmp rfl _ _ _, ?_⟩
    exact fin (2 * c) cap2 Z Y hZs (by omega) (by omega) hcaple hY _ rfl ⟨rfl, rfl⟩
  · have happ := Lib.run_append_nil_zeros (P := P) w (ρ.t 37) (ρ.t 3) (ρ.t 37) (ρ.t 5) i0 (.int .u8 0) .i64 .i64 L.t37 L.t3 hi hz0 (l + n) (by omega) (by omega) (by omega) (by rw [hz2]; omega)
    rw [show (((l + n : Nat)) : Int) = (l : Int) + (n : Int) by omega] at happ
    generalize hcap : grownCap w (l + n) 0 (ρ.t 5) = cap2 at happ
    have hcapge : l + n ≤ cap2 := by rw [← hcap]; exact grownCap_ge w _ 0 (ρ.t 5)
    have hcaple : cap2 ≤ maxLen := by rw [← hcap]; exact grownCap_le_maxLen w _ 0 (ρ.t 5) (by unfold maxLen; omega)
    generalize hZ : (Builtin.zeroCells (Value.int .u8 0).cells (l + n) ++ Builtin.zeroCells (Value.int .u8 0).cells (cap2 - (l + n))) = Z at happ
    have hZs : Z.size = cap2 := by rw [← hZ]; simp [size_zeroCells, Value.cells]; omega
    clear hcap hZ
    have hsrc' : ∀ j v, xs[j]? = some v → (w.alloc (.cells Z (ρ.t 5))).drew.cell? ((⟨g, off, none⟩ : Addr).add j) = some v := fun j v hj => by
      rw [add_addr]
      have := hsrc j v hj
      exact (World.cell?_of_block (a := ⟨g, off + j, none⟩) (RowKit.Below.heap_alloc w (.cells Z (ρ.t 5)) g hgl)).trans this
    have hcopy := run_copy_row (P := P) (w.alloc (.cells Z (ρ.t 5))).drew (ρ.t 37) (ρ.t 37) (ρ.t 3) (ρ.t 5) w.heap.size 0 (l + n) cap2 ⟨g, off, none⟩ l c Z (ρ.t 5) xs L.t37 hsz1 (heap_alloc_new w _) (by rw [hxl]; exact (Nat.min_eq_left (by omega)).symm) hsrc' (by rw [hxl]; omega) h1
    rw [hxl] at hcopy
    generalize hY : (Z.toList.take 0 ++ xs ++ Z.toList.drop (0 + l)).toArray = Y at hcopy
    go_enter_defers L.f290, Body.n290_ntmps ρ
    go_wp2_with (at_builtin; refine Lib.wpList_append_run _ rfl _ _ _ _ rfl _ _ rfl rfl _ _ happ ?_)
    refine leaves_cons (f := (ρ.f 324)) (args := #[]) (by simp) (enters_of L.f324 (by kernel_rfl) rfl _ _) ?_
    refine (Any.growSlice_catch_idle { L with } _).mono ?_
    rintro e u' w'' ⟨rfl, rfl, rfl⟩
    refine ⟨_, results_tmp rfl _ _ _, ?_⟩
    exact fin (l + n) cap2 Z Y hZs (by omega) (by omega) hcaple hY _ rfl ⟨rfl, rfl⟩
end Go.CE

namespace Go.CE
open Go.Proofs Go.Shelf Go.RowKit
variable {P : Program} {ρ : Ren}

set_option maxHeartbeats 6400000 in
set_option maxRecDepth 100000 in
/-- (*bytes.Buffer).grow, where there is no row yet. -/
theorem buf_grow_nil (L : LaysM.n252 P ρ) (b q n : Nat) (w : World) (hbw : b < w.heap.size) (c0 : w.cell? ⟨b, q, none⟩ = some (.slice none 0 0)) (c1 : w.cell? ⟨b, q + 1, none⟩ = some (.int .i64 0))
    (f0 : w.frozen? ⟨b, q, none⟩ = false) (f1 : w.frozen? ⟨b, q + 1, none⟩ = false) (hn : 1 ≤ n) (h64 : n ≤ 64) :
    Calls P (ρ.f 252) #[.pointer (some ⟨b, q, none⟩), .int .i64 n] w fun e w' => e = .returned (.int .i64 0) ∧ ∃ M : Array Value, M.size = 64 ∧ w'.heap = ((w.setCell ⟨b, q, none⟩ (.slice (some ⟨w.heap.size, 0, none⟩) n 64)).alloc (.cells M (ρ.t 5))).heap ∧ SameOut w w' := by
  have mixed := L.mixed
  have t5 := L.t5; have a5 := L.a5; have z5 := L.z5; have v5 := L.v5
  have t130 := L.t130; have a130 := L.a130; have z130 := L.z130; have v130 := L.v130
  have t3 := L.t3; have a3 := L.a3; have z3 := L.z3; have v3 := L.v3
  have t4 := L.t4; have a4 := L.a4; have z4 := L.z4; have v4 := L.v4
  have t0 := L.t0; have a0 := L.a0; have z0 := L.z0; have v0 := L.v0
  have t93 := L.t93; have u93 := run_underlying L.t93; have a93 := L.a93; have z93 := L.z93; have v93 := L.v93
  have t131 := L.t131; have a131 := L.a131; have z131 := L.z131; have v131 := L.v131
  have t37 := L.t37; have a37 := L.a37; have z37 := L.z37; have v37 := L.v37
  have t75 := L.t75; have a75 := L.a75; have z75 := L.z75; have v75 := L.v75
  have e181 : ∀ args w, (callFunc (ρ.f 181) args).run P w = .ok (.enter (ρ.f 181) args) w := enters_of L.f181 (by kernel_rfl) rfl
  have e251 : ∀ args w, (callFunc (ρ.f 251) args).run P w = .ok (.enter (ρ.f 251) args) w := enters_of L.f251 (by kernel_rfl) rfl
  obtain ⟨i0, hi, hz0, hz1, hz2⟩ := info_parts L.i5
  obtain ⟨M, hM⟩ : ∃ M, M = madeCells (Value.int .u8 0).cells ((64 : Int).toNat * i0.size) := ⟨_, rfl⟩
  have hMs : M.size = 64 := by rw [hM, size_madeCells, hz1]; rfl
  have hmk : ∀ W : World, (Instr.makeSlice (ρ.t 37) (.int .i64 (n : Int)) (.int .i64 64)).run P W = .ok (.slice (some ⟨W.heap.size, 0, none⟩) n 64) (W.alloc (.cells M (ρ.t 5))) := fun W => by
    have h := run_makeSlice (P := P) W (ρ.t 37) (ρ.t 5) i0 (.int .u8 0) L.t37 hi hz0 .i64 .i64 (n : Int) 64 (by omega) (by omega) (by rw [hz1]; decide) (by rw [hz2]; decide) (by decide)
    rw [← hM] at h
    simpa using h
  clear hM
  have hnil : ∀ W, (binOp .eql (ρ.t 37) (.slice none 0 0) (.slice none 0 0)).run P W = .ok (.bool true) W := fun W => Lib.run_eql_slice_nil_nil W _ _ L.t37
  go_enter L.f252, Body.n252_ntmps ρ
  go_wp2_with (go_at_fn (ρ.f 181); refine (buf_Len { L with } b q 0 0 none _ c0 c1 (Nat.le_refl _) (Nat.zero_le _)).mono ?_)
  rintro e W0 ⟨rfl, k, hW0⟩
  have c0' : W0.cell? ⟨b, q, none⟩ = some (.slice none 0 0) := by rw [hW0]; exact c0
  have c1' : W0.cell? ⟨b, q + 1, none⟩ = some (.int .i64 0) := by rw [hW0]; exact c1
  have f0' : W0.frozen? ⟨b, q, none⟩ = false := by rw [hW0]; exact f0
  have f1' : W0.frozen? ⟨b, q + 1, none⟩ = false := by rw [hW0]; exact f1
  have hbW0 : b < W0.heap.size := by rw [hW0]; exact hbw
  have c0a : ∀ o, (W0.alloc o).cell? ⟨b, q, none⟩ = some (.slice none 0 0) := fun o => (World.cell?_of_block (a := ⟨b, q, none⟩) (Below.heap_alloc W0 o b hbW0)).trans c0'
  have f0a : ∀ o, (W0.alloc o).frozen? ⟨b, q, none⟩ = false := fun o => (World.frozen?_of_block (a := ⟨b, q, none⟩) (Below.heap_alloc W0 o b hbW0)).trans f0'
  have hh : W0.heap = w.heap := by rw [hW0]; rfl
  have hs0 : SameOut w W0 := by rw [hW0]; exact ⟨rfl, rfl⟩
  clear hW0
  go_wp2_with (go_at_fn (ρ.f 251); refine (Any.Buffer_tryGrow_none_at { L with } b q _ 0 0 n _ c0' (Nat.le_refl _) (Nat.zero_le _) (by omega)).mono ?_; rintro e w' ⟨rfl, rfl⟩)
  go_ret
  refine ⟨rfl, M, hMs, ?_, ⟨hs0.1, hs0.2⟩⟩
  unfold World.setCell World.alloc
  simp only [hh]

set_option maxHeartbeats 12800000 in
set_option maxRecDepth 100000 in
/-- (*bytes.Buffer).grow, where the row has no room. -/
theorem buf_grow_row (L : LaysM.n252 P ρ) (b q n g off l cap : Nat) (xs : List Value) (w : World) (hbw : b < w.heap.size) (hgl : g < w.heap.size) (c0 : w.cell? ⟨b, q, none⟩ = some (.slice (some ⟨g, off, none⟩) l cap)) (c1 : w.cell? ⟨b, q + 1, none⟩ = some (.int .i64 0))
    (f0 : w.frozen? ⟨b, q, none⟩ = false) (f1 : w.frozen? ⟨b, q + 1, none⟩ = false) (hxl : xs.length = l) (hsrc : ∀ j v, xs[j]? = some v → w.cell? ⟨g, off + j, none⟩ = some v) (h1 : ∀ v ∈ xs, v.oneCell' = true)
    (hl0 : l ≠ 0) (hlc : l ≤ cap) (hcm : cap ≤ maxLen) (hn : 1 ≤ n) (hroom : cap - l < n) (hlim : l + n ≤ 140737488355328) :
    Calls P (ρ.f 252) #[.pointer (some ⟨b, q, none⟩), .int .i64 n] w fun e w' => e = .returned (.int .i64 l) ∧ ∃ (cap2 : Nat) (cells : Array Value) (W1 : World), cells.size = cap2 ∧ cells.toList.take l = xs ∧ l + n ≤ cap2 ∧ cap2 ≤ maxLen ∧
      W1.heap = w.heap.push (.cells cells (ρ.t 5) (0, 0)) ∧ w'.heap = (((W1.setCell ⟨b, q, none⟩ (.slice (some ⟨w.heap.size, 0, none⟩) l cap2)).setCell ⟨b, q + 1, none⟩ (.int .i64 0)).setCell ⟨b, q, none⟩ (.slice (some ⟨w.heap.size, 0, none⟩) (l + n) cap2)).heap ∧ SameOut w w' := by
  have mixed := L.mixed
  have t5 := L.t5; have a5 := L.a5; have z5 := L.z5; have v5 := L.v5
  have t130 := L.t130; have a130 := L.a130; have z130 := L.z130; have v130 := L.v130
  have t3 := L.t3; have a3 := L.a3; have z3 := L.z3; have v3 := L.v3
  have t4 := L.t4; have a4 := L.a4; have z4 := L.z4; have v4 := L.v4
  have t0 := L.t0; have a0 := L.a0; have z0 := L.z0; have v0 := L.v0
  have t93 := L.t93; have u93 := run_underlying L.t93; have a93 := L.a93; have z93 := L.z93; have v93 := L.v93
  have t131 := L.t131; have a131 := L.a131; have z131 := L.z131; have v131 := L.v131
  have t37 := L.t37; have a37 := L.a37; have z37 := L.z37; have v37 := L.v37
  have t75 := L.t75; have a75 := L.a75; have z75 := L.z75; have v75 := L.v75
  have e181 : ∀ args w, (callFunc (ρ.f 181) args).run P w = .ok (.enter (ρ.f 181) args) w := enters_of L.f181 (by kernel_rfl) rfl
  have e251 : ∀ args w, (callFunc (ρ.f 251) args).run P w = .ok (.enter (ρ.f 251) args) w := enters_of L.f251 (by kernel_rfl) rfl
  have e290 : ∀ args w, (callFunc (ρ.f 290) args).run P w = .ok (.enter (ρ.f 290) args) w := enters_of L.f290 (by kernel_rfl) rfl
  have hnil : ∀ W, (binOp .eql (ρ.t 37) (.slice (some ⟨g, off, none⟩) l cap) (.slice none 0 0)).run P W = .ok (.bool false) W := fun W => Lib.run_eql_slice_some_nil W _ _ _ L.t37
  go_enter L.f252, Body.n252_ntmps ρ
  go_wp2_with (go_at_fn (ρ.f 181); refine (buf_Len { L with } b q l cap _ _ c0 c1 hlc hcm).mono ?_)
  rintro e W0 ⟨rfl, k, hW0⟩
  have c0' : W0.cell? ⟨b, q, none⟩ = some (.slice (some ⟨g, off, none⟩) l cap) := by rw [hW0]; exact c0
  have c1' : W0.cell? ⟨b, q + 1, none⟩ = some (.int .i64 0) := by rw [hW0]; exact c1
  have f0' : W0.frozen? ⟨b, q, none⟩ = false := by rw [hW0]; exact f0
  have f1' : W0.frozen? ⟨b, q + 1, none⟩ = false := by rw [hW0]; exact f1
  have hbW0 : b < W0.heap.size := by rw [hW0]; exact hbw
  have hgW0 : g < W0.heap.size := by rw [hW0]; exact hgl
  have hsrc0 : ∀ j v, xs[j]? = some v → W0.cell? ⟨g, off + j, none⟩ = some v := by rw [hW0]; exact hsrc
  have hh : W0.heap = w.heap := by rw [hW0]; rfl
  have hs0 : SameOut w W0 := by rw [hW0]; exact ⟨rfl, rfl⟩
  clear hW0
  have hcm' := hcm
  unfold maxLen at hcm'
  go_wp2_with (go_at_fn (ρ.f 251); refine (Any.Buffer_tryGrow_none_at { L with } b q _ l cap n _ c0' hlc hcm hroom).mono ?_; rintro e w' ⟨rfl, rfl⟩)
  have hc2 : cap ≤ 140737488355328 := by omega
  have hwn : IntKind.i64.wrap (n : Int) = n := by rw [IntKind.wrap_i64]; omega
  go_region_with_o (
      go_at_fn (ρ.f 290)
      refine (buf_growSlice { L with } g off l cap n xs _ ?_ hxl ?_ hlc hn hlim hc2 h1).mono ?_
      exact hgW0
      exact hsrc0
      rintro e w2 ⟨cap2, cells, rfl, hN, hcsz, htk, hcap2, hcm2, hs2⟩
      have hbk2 : w2.heap[b]? = w'.heap[b]? := by rw [hN]; exact by show (w'.heap.push _)[b]? = _; rw [Array.getElem?_push]; simp [Nat.ne_of_lt hbW0]
      have d0 : w2.cell? ⟨b, q, none⟩ = some (.slice (some ⟨g, off, none⟩) l cap) := (World.cell?_of_block (a := ⟨b, q, none⟩) hbk2).trans c0'
      have d1 : w2.cell? ⟨b, q + 1, none⟩ = some (.int .i64 0) := (World.cell?_of_block (a := ⟨b, q + 1, none⟩) hbk2).trans c1'
      have e0 : w2.frozen? ⟨b, q, none⟩ = false := (World.frozen?_of_block (a := ⟨b, q, none⟩) hbk2).trans f0'
      have e1 : w2.frozen? ⟨b, q + 1, none⟩ = false := (World.frozen?_of_block (a := ⟨b, q + 1, none⟩) hbk2).trans f1')
  all_goals (
    go_wp2
    go_ret
    exact ⟨rfl, cap2, cells, w2, hcsz, htk, hcap2, hcm2, by rw [hN]; show w'.heap.push _ = _; rw [hh], rfl, ⟨hs2.1.trans hs0.1, hs2.2.trans hs0.2⟩⟩)
end Go.CE

namespace Go.CE
open Go.Proofs Go.Shelf Go.RowKit
variable {P : Program} {ρ : Ren}

theorem cell_set_other {w : World} {b i : Nat} {v : Value} {a : Addr} (h : a.block ≠ b ∨ (a.block = b ∧ a.off ≠ i)) : (w.setCell ⟨b, i, none⟩ v).cell? a = w.cell? a := by
  refine World.cell?_setCell_other _ _ _ _ fun e => ?_
  subst e
  rcases h with h | ⟨_, h⟩
  · exact h rfl
  · exact h rfl
theorem frozen_set {w : World} {b i : Nat} {v : Value} {a : Addr} : (w.setCell ⟨b, i, none⟩ v).frozen? a = w.frozen? a := World.frozen?_setCell _ _ _ _
theorem heap_set_congr {W W' : World} {a : Addr} {v : Value} (h : W.heap = W'.heap) : (W.setCell a v).heap = (W'.setCell a v).heap := by
  unfold World.setCell; simp only [h]
theorem size_set {w : World} {b i : Nat} {v : Value} : (w.setCell ⟨b, i, none⟩ v).heap.size = w.heap.size := by simp [World.setCell]

set_option maxHeartbeats 12800000 in
set_option maxRecDepth 100000 in
/-- (*bytes.Buffer).WriteByte, where there is no row yet. -/
theorem buf_WriteByte_nil (L : LaysM.n179 P ρ) (b q : Nat) (lr c : Int) (w : World) (hbw : b < w.heap.size) (c0 : w.cell? ⟨b, q, none⟩ = some (.slice none 0 0)) (c1 : w.cell? ⟨b, q + 1, none⟩ = some (.int .i64 0)) (c2 : w.cell? ⟨b, q + 2, none⟩ = some (.int .i8 lr))
    (f0 : w.frozen? ⟨b, q, none⟩ = false) (f1 : w.frozen? ⟨b, q + 1, none⟩ = false) (f2 : w.frozen? ⟨b, q + 2, none⟩ = false) :
    Calls P (ρ.f 179) #[.pointer (some ⟨b, q, none⟩), .int .u8 c] w fun e w' => e = .returned .nilIface ∧ ∃ M : Array Value, M.size = 64 ∧
      w'.heap = ((((w.setCell ⟨b, q + 2, none⟩ (.int .i8 0)).setCell ⟨b, q, none⟩ (.slice (some ⟨w.heap.size, 0, none⟩) 1 64)).alloc (.cells M (ρ.t 5))).setCell ⟨w.heap.size, 0, none⟩ (.int .u8 c)).heap ∧ SameOut w w' := by
  have mixed := L.mixed
  have t5 := L.t5; have a5 := L.a5; have z5 := L.z5; have v5 := L.v5
  have t130 := L.t130; have a130 := L.a130; have z130 := L.z130; have v130 := L.v130
  have t75 := L.t75; have a75 := L.a75; have z75 := L.z75; have v75 := L.v75
  have t0 := L.t0; have a0 := L.a0; have z0 := L.z0; have v0 := L.v0
  have t93 := L.t93; have u93 := run_underlying L.t93; have a93 := L.a93; have z93 := L.z93; have v93 := L.v93
  have t91 := L.t91; have a91 := L.a91; have z91 := L.z91; have v91 := L.v91
  have t3 := L.t3; have a3 := L.a3; have z3 := L.z3; have v3 := L.v3
  have t131 := L.t131; have a131 := L.a131; have z131 := L.z131; have v131 := L.v131
  have t4 := L.t4; have a4 := L.a4; have z4 := L.z4; have v4 := L.v4
  have t37 := L.t37; have a37 := L.a37; have z37 := L.z37; have v37 := L.v37
  have e251 : ∀ args w, (callFunc (ρ.f 251) args).run P w = .ok (.enter (ρ.f 251) args) w := enters_of L.f251 (by kernel_rfl) rfl
  have e252 : ∀ args w, (callFunc (ρ.f 252) args).run P w = .ok (.enter (ρ.f 252) args) w := enters_of L.f252 (by kernel_rfl) rfl
  have g0 : (w.setCell ⟨b, q + 2, none⟩ (.int .i8 0)).cell? ⟨b, q, none⟩ = some (.slice none 0 0) := (cell_set_other (.inr ⟨rfl, by show q ≠ q + 2; omega⟩)).trans c0
  have g1 : (w.setCell ⟨b, q + 2, none⟩ (.int .i8 0)).cell? ⟨b, q + 1, none⟩ = some (.int .i64 0) := (cell_set_other (.inr ⟨rfl, by show q + 1 ≠ q + 2; omega⟩)).trans c1
  have k0 : (w.setCell ⟨b, q + 2, none⟩ (.int .i8 0)).frozen? ⟨b, q, none⟩ = false := frozen_set.trans f0
  have k1 : (w.setCell ⟨b, q + 2, none⟩ (.int .i8 0)).frozen? ⟨b, q + 1, none⟩ = false := frozen_set.trans f1
  have hT : ∀ W, W.cell? ⟨b, q, none⟩ = some (.slice none 0 0) → Calls P (ρ.f 251) #[.pointer (some ⟨b, q, none⟩), .int .i64 1] W _ := fun W hW => Any.Buffer_tryGrow_none_at { L with } b q none 0 0 1 W hW (Nat.le_refl _) (Nat.zero_le _) (by omega)
  have hG : ∀ W, b < W.heap.size → W.cell? ⟨b, q, none⟩ = some (.slice none 0 0) → W.cell? ⟨b, q + 1, none⟩ = some (.int .i64 0) → W.frozen? ⟨b, q, none⟩ = false → W.frozen? ⟨b, q + 1, none⟩ = false → Calls P (ρ.f 252) #[.pointer (some ⟨b, q, none⟩), .int .i64 1] W _ :=
    fun W h1 h2 h3 h4 h5 => buf_grow_nil { L with } b q 1 W h1 h2 h3 h4 h5 (by omega) (by omega)
  go_enter L.f179, Body.n179_ntmps ρ
  go_wp2_with (go_at_fn (ρ.f 251); refine (hT _ ?_).mono ?_)
  · exact g0
  rintro e W1 ⟨rfl, rfl⟩
  go_wp2_with (go_at_fn (ρ.f 252); refine (hG _ ?_ ?_ ?_ ?_ ?_).mono ?_)
  · rw [size_set]; exact hbw
  · exact g0
  · exact g1
  · exact k0
  · exact k1
  rintro e W1 ⟨rfl, M, hM, hW1, hs1⟩
  have hsz : (w.setCell ⟨b, q + 2, none⟩ (.int .i8 0)).heap.size = w.heap.size := size_set
  rw [hsz] at hW1
  have hg0 := g0
  clear hT hG g0 g1 k0 k1 f0 f1 f2 c0 c1 c2
  have hbN : b ≠ w.heap.size := by omega
  have hnew : W1.heap[w.heap.size]? = some (.cells M (ρ.t 5) (0, 0)) := by
    rw [hW1]
    show (((w.setCell ⟨b, q + 2, none⟩ (.int .i8 0)).setCell ⟨b, q, none⟩ (.slice (some ⟨w.heap.size, 0, none⟩) 1 64)).heap.push _)[w.heap.size]? = _
    rw [Array.getElem?_push, size_set, size_set]; simp
  have d0 : W1.cell? ⟨b, q, none⟩ = some (.slice (some ⟨w.heap.size, 0, none⟩) 1 64) := by
    have e1 : W1.cell? ⟨b, q, none⟩ = ((w.setCell ⟨b, q + 2, none⟩ (.int .i8 0)).setCell ⟨b, q, none⟩ (.slice (some ⟨w.heap.size, 0, none⟩) 1 64)).cell? ⟨b, q, none⟩ := by
      refine World.cell?_of_block ?_
      rw [hW1]
      exact Below.heap_alloc _ _ b (by rw [size_set, size_set]; exact hbw)
    exact e1.trans (World.cell?_setCell_same _ _ _ hg0)
  have dg : W1.cell? ⟨w.heap.size, 0, none⟩ = some (M[0]'(by omega)) := by
    rw [Lib.cell_of_heap hnew, Array.getElem?_eq_getElem (by omega)]
  have fg : W1.frozen? ⟨w.heap.size, 0, none⟩ = false := Lib.frozen_of_heap hnew _
  clear hnew
  go_wp2
  go_ret
  exact ⟨rfl, M, hM, heap_set_congr hW1, ⟨hs1.1, hs1.2⟩⟩

set_option maxHeartbeats 12800000 in
set_option maxRecDepth 100000 in
/-- (*bytes.Buffer).WriteByte, where the row has room. -/
theorem buf_WriteByte_room (L : LaysM.n179 P ρ) (b q g off l cap : Nat) (lr c : Int) (u : Value) (w : World) (hgb : g ≠ b) (c0 : w.cell? ⟨b, q, none⟩ = some (.slice (some ⟨g, off, none⟩) l cap)) (c2 : w.cell? ⟨b, q + 2, none⟩ = some (.int .i8 lr))
    (f0 : w.frozen? ⟨b, q, none⟩ = false) (f2 : w.frozen? ⟨b, q + 2, none⟩ = false) (hcm : cap ≤ maxLen) (hroom : l + 1 ≤ cap) (cg : w.cell? ⟨g, off + l, none⟩ = some u) (fg : w.frozen? ⟨g, off + l, none⟩ = false) :
    Calls P (ρ.f 179) #[.pointer (some ⟨b, q, none⟩), .int .u8 c] w fun e w' => e = .returned .nilIface ∧
      w'.heap = (((w.setCell ⟨b, q + 2, none⟩ (.int .i8 0)).setCell ⟨b, q, none⟩ (.slice (some ⟨g, off, none⟩) (l + 1) cap)).setCell ⟨g, off + l, none⟩ (.int .u8 c)).heap ∧ SameOut w w' := by
  have mixed := L.mixed
  have t5 := L.t5; have a5 := L.a5; have z5 := L.z5; have v5 := L.v5
  have t130 := L.t130; have a130 := L.a130; have z130 := L.z130; have v130 := L.v130
  have t75 := L.t75; have a75 := L.a75; have z75 := L.z75; have v75 := L.v75
  have t0 := L.t0; have a0 := L.a0; have z0 := L.z0; have v0 := L.v0
  have t93 := L.t93; have u93 := run_underlying L.t93; have a93 := L.a93; have z93 := L.z93; have v93 := L.v93
  have t91 := L.t91; have a91 := L.a91; have z91 := L.z91; have v91 := L.v91
  have t3 := L.t3; have a3 := L.a3; have z3 := L.z3; have v3 := L.v3
  have t131 := L.t131; have a131 := L.a131; have z131 := L.z131; have v131 := L.v131
  have t4 := L.t4; have a4 := L.a4; have z4 := L.z4; have v4 := L.v4
  have t37 := L.t37; have a37 := L.a37; have z37 := L.z37; have v37 := L.v37
  have e251 : ∀ args w, (callFunc (ρ.f 251) args).run P w = .ok (.enter (ρ.f 251) args) w := enters_of L.f251 (by kernel_rfl) rfl
  have g0 : (w.setCell ⟨b, q + 2, none⟩ (.int .i8 0)).cell? ⟨b, q, none⟩ = some (.slice (some ⟨g, off, none⟩) l cap) := (cell_set_other (.inr ⟨rfl, by show q ≠ q + 2; omega⟩)).trans c0
  have k0 : (w.setCell ⟨b, q + 2, none⟩ (.int .i8 0)).frozen? ⟨b, q, none⟩ = false := frozen_set.trans f0
  have gg : (w.setCell ⟨b, q + 2, none⟩ (.int .i8 0)).cell? ⟨g, off + l, none⟩ = some u := (cell_set_other (.inl hgb)).trans cg
  have kg : (w.setCell ⟨b, q + 2, none⟩ (.int .i8 0)).frozen? ⟨g, off + l, none⟩ = false := frozen_set.trans fg
  have hT : ∀ W, W.cell? ⟨b, q, none⟩ = some (.slice (some ⟨g, off, none⟩) l cap) → W.frozen? ⟨b, q, none⟩ = false → Calls P (ρ.f 251) #[.pointer (some ⟨b, q, none⟩), .int .i64 1] W _ := fun W hW hF => Any.Buffer_tryGrow_room_at { L with } b q (some ⟨g, off, none⟩) l cap 1 W hW hF (by omega) hcm (by omega)
  go_enter L.f179, Body.n179_ntmps ρ
  go_wp2_with (go_at_fn (ρ.f 251); refine (hT _ ?_ ?_).mono ?_)
  · exact g0
  · exact k0
  rintro e W1 ⟨rfl, hW1⟩
  have d0 : W1.cell? ⟨b, q, none⟩ = some (.slice (some ⟨g, off, none⟩) (l + 1) cap) := by rw [hW1]; exact World.cell?_setCell_same _ _ _ g0
  have dg : W1.cell? ⟨g, off + l, none⟩ = some u := by rw [hW1]; exact (cell_set_other (.inl hgb)).trans gg
  have fg' : W1.frozen? ⟨g, off + l, none⟩ = false := by rw [hW1]; exact frozen_set.trans kg
  have hcm' := hcm
  unfold maxLen at hcm'
  have hh : W1.heap = ((w.setCell ⟨b, q + 2, none⟩ (.int .i8 0)).setCell ⟨b, q, none⟩ (.slice (some ⟨g, off, none⟩) (l + 1) cap)).heap := by rw [hW1]
  have hs1 : SameOut w W1 := by rw [hW1]; exact ⟨rfl, rfl⟩
  clear hT g0 k0 gg kg c0 c2 f0 f2 cg fg hW1
  go_wp2
  go_ret
  exact ⟨rfl, heap_set_congr hh, ⟨hs1.1, hs1.2⟩⟩

set_option maxHeartbeats 12800000 in
set_option maxRecDepth 100000 in
/-- (*bytes.Buffer).WriteByte, where the row has no room. -/
theorem buf_WriteByte_full (L : LaysM.n179 P ρ) (b q g off l cap : Nat) (lr c : Int) (xs : List Value) (w : World) (hbw : b < w.heap.size) (hgl : g < w.heap.size) (hgb : g ≠ b) (c0 : w.cell? ⟨b, q, none⟩ = some (.slice (some ⟨g, off, none⟩) l cap)) (c1 : w.cell? ⟨b, q + 1, none⟩ = some (.int .i64 0)) (c2 : w.cell? ⟨b, q + 2, none⟩ = some (.int .i8 lr))
    (f0 : w.frozen? ⟨b, q, none⟩ = false) (f1 : w.frozen? ⟨b, q + 1, none⟩ = false) (f2 : w.frozen? ⟨b, q + 2, none⟩ = false) (hxl : xs.length = l) (hsrc : ∀ j v, xs[j]? = some v → w.cell? ⟨g, off + j, none⟩ = some v) (h1 : ∀ v ∈ xs, v.oneCell' = true)
    (hl0 : l ≠ 0) (hlc : l ≤ cap) (hcm : cap ≤ maxLen) (hroom : cap < l + 1) (hlim : l + 1 ≤ 140737488355328) :
    Calls P (ρ.f 179) #[.pointer (some ⟨b, q, none⟩), .int .u8 c] w fun e w' => e = .returned .nilIface ∧ ∃ (cap2 : Nat) (cells : Array Value) (W1 : World), cells.size = cap2 ∧ cells.toList.take l = xs ∧ l + 1 ≤ cap2 ∧ cap2 ≤ maxLen ∧
      W1.heap = (w.setCell ⟨b, q + 2, none⟩ (.int .i8 0)).heap.push (.cells cells (ρ.t 5) (0, 0)) ∧
      w'.heap = ((((W1.setCell ⟨b, q, none⟩ (.slice (some ⟨w.heap.size, 0, none⟩) l cap2)).setCell ⟨b, q + 1, none⟩ (.int .i64 0)).setCell ⟨b, q, none⟩ (.slice (some ⟨w.heap.size, 0, none⟩) (l + 1) cap2)).setCell ⟨w.heap.size, l, none⟩ (.int .u8 c)).heap ∧ SameOut w w' := by
  have mixed := L.mixed
  have t5 := L.t5; have a5 := L.a5; have z5 := L.z5; have v5 := L.v5
  have t130 := L.t130; have a130 := L.a130; have z130 := L.z130; have v130 := L.v130
  have t75 := L.t75; have a75 := L.a75; have z75 := L.z75; have v75 := L.v75
  have t0 := L.t0; have a0 := L.a0; have z0 := L.z0; have v0 := L.v0
  have t93 := L.t93; have u93 := run_underlying L.t93; have a93 := L.a93; have z93 := L.z93; have v93 := L.v93
  have t91 := L.t91; have a91 := L.a91; have z91 := L.z91; have v91 := L.v91
  have t3 := L.t3; have a3 := L.a3; have z3 := L.z3; have v3 := L.v3
  have t131 := L.t131; have a131 := L.a131; have z131 := L.z131; have v131 := L.v131
  have t4 := L.t4; have a4 := L.a4; have z4 := L.z4; have v4 := L.v4
  have t37 := L.t37; have a37 := L.a37; have z37 := L.z37; have v37 := L.v37
  have e251 : ∀ args w, (callFunc (ρ.f 251) args).run P w = .ok (.enter (ρ.f 251) args) w := enters_of L.f251 (by kernel_rfl) rfl
  have e252 : ∀ args w, (callFunc (ρ.f 252) args).run P w = .ok (.enter (ρ.f 252) args) w := enters_of L.f252 (by kernel_rfl) rfl
  have g0 : (w.setCell ⟨b, q + 2, none⟩ (.int .i8 0)).cell? ⟨b, q, none⟩ = some (.slice (some ⟨g, off, none⟩) l cap) := (cell_set_other (.inr ⟨rfl, by show q ≠ q + 2; omega⟩)).trans c0
  have g1 : (w.setCell ⟨b, q + 2, none⟩ (.int .i8 0)).cell? ⟨b, q + 1, none⟩ = some (.int .i64 0) := (cell_set_other (.inr ⟨rfl, by show q + 1 ≠ q + 2; omega⟩)).trans c1
  have k0 : (w.setCell ⟨b, q + 2, none⟩ (.int .i8 0)).frozen? ⟨b, q, none⟩ = false := frozen_set.trans f0
  have k1 : (w.setCell ⟨b, q + 2, none⟩ (.int .i8 0)).frozen? ⟨b, q + 1, none⟩ = false := frozen_set.trans f1
  have gs : ∀ j v, xs[j]? = some v → (w.setCell ⟨b, q + 2, none⟩ (.int .i8 0)).cell? ⟨g, off + j, none⟩ = some v := fun j v hj => (cell_set_other (.inl hgb)).trans (hsrc j v hj)
  have hT : ∀ W, W.cell? ⟨b, q, none⟩ = some (.slice (some ⟨g, off, none⟩) l cap) → Calls P (ρ.f 251) #[.pointer (some ⟨b, q, none⟩), .int .i64 1] W _ := fun W hW => Any.Buffer_tryGrow_none_at { L with } b q (some ⟨g, off, none⟩) l cap 1 W hW hlc hcm (by omega)
  have hG : ∀ W, b < W.heap.size → g < W.heap.size → W.cell? ⟨b, q, none⟩ = some (.slice (some ⟨g, off, none⟩) l cap) → W.cell? ⟨b, q + 1, none⟩ = some (.int .i64 0) → W.frozen? ⟨b, q, none⟩ = false → W.frozen? ⟨b, q + 1, none⟩ = false →
      (∀ j v, xs[j]? = some v → W.cell? ⟨g, off + j, none⟩ = some v) → Calls P (ρ.f 252) #[.pointer (some ⟨b, q, none⟩), .int .i64 1] W _ :=
    fun W h2 h3 h4 h5 h6 h7 h8 => buf_grow_row { L with } b q 1 g off l cap xs W h2 h3 h4 h5 h6 h7 hxl h8 h1 hl0 hlc hcm (by omega) (by omega) hlim
  go_enter L.f179, Body.n179_ntmps ρ
  go_wp2_with (go_at_fn (ρ.f 251); refine (hT _ ?_).mono ?_)
  · exact g0
  rintro e W1 ⟨rfl, rfl⟩
  go_wp2_with (go_at_fn (ρ.f 252); refine (hG _ ?_ ?_ ?_ ?_ ?_ ?_ ?_).mono ?_)
  · rw [size_set]; exact hbw
  · rw [size_set]; exact hgl
  · exact g0
  · exact g1
  · exact k0
  · exact k1
  · exact gs
  rintro e W2 ⟨rfl, cap2, cells, W1, hcs, htk, hcap, hcm2, hW1, hW2, hs2⟩
  have hsz : (w.setCell ⟨b, q + 2, none⟩ (.int .i8 0)).heap.size = w.heap.size := size_set
  rw [hsz] at hW2
  have hbN : b ≠ w.heap.size := by omega
  have hsz1 : W1.heap.size = w.heap.size + 1 := by rw [hW1, Array.size_push, hsz]
  have hg1 : W1.cell? ⟨b, q, none⟩ = some (.slice (some ⟨g, off, none⟩) l cap) := by
    refine (World.cell?_of_block (a := ⟨b, q, none⟩) ?_).trans g0
    rw [hW1]
    show ((w.setCell ⟨b, q + 2, none⟩ (.int .i8 0)).heap.push _)[b]? = _
    rw [Array.getElem?_push, if_neg (by rw [hsz]; exact hbN)]
  have hnew1 : W1.heap[w.heap.size]? = some (.cells cells (ρ.t 5) (0, 0)) := by
    rw [hW1, Array.getElem?_push, if_pos hsz.symm]
  have hnew : W2.heap[w.heap.size]? = some (.cells cells (ρ.t 5) (0, 0)) := by
    rw [hW2, Below.heap_setCell _ _ _ _ (Ne.symm hbN), Below.heap_setCell _ _ _ _ (Ne.symm hbN), Below.heap_setCell _ _ _ _ (Ne.symm hbN)]
    exact hnew1
  have d0 : W2.cell? ⟨b, q, none⟩ = some (.slice (some ⟨w.heap.size, 0, none⟩) (l + 1) cap2) := by
    have e1 : W2.cell? ⟨b, q, none⟩ = ((((W1.setCell ⟨b, q, none⟩ (.slice (some ⟨w.heap.size, 0, none⟩) l cap2)).setCell ⟨b, q + 1, none⟩ (.int .i64 0)).setCell ⟨b, q, none⟩ (.slice (some ⟨w.heap.size, 0, none⟩) (l + 1) cap2))).cell? ⟨b, q, none⟩ := by
      refine World.cell?_of_block ?_
      rw [hW2]
    refine e1.trans (World.cell?_setCell_same (u := .slice (some ⟨w.heap.size, 0, none⟩) l cap2) _ _ _ ?_)
    exact (cell_set_other (.inr ⟨rfl, by show q ≠ q + 1; omega⟩)).trans (World.cell?_setCell_same _ _ _ hg1)
  have hll : l < cells.size := by omega
  have dg : W2.cell? ⟨w.heap.size, l, none⟩ = some cells[l] := by
    rw [Lib.cell_of_heap hnew, Array.getElem?_eq_getElem hll]
  have fg : W2.frozen? ⟨w.heap.size, l, none⟩ = false := Lib.frozen_of_heap hnew _
  have hcm' := hcm2
  unfold maxLen at hcm'
  clear hT hG g0 g1 k0 k1 gs f0 f1 f2 c0 c1 c2 hnew hnew1 hg1
  go_wp2
  go_ret
  exact ⟨rfl, cap2, cells, W1, hcs, htk, hcap, hcm2, hW1, heap_set_congr hW2, ⟨hs2.1, hs2.2⟩⟩
end Go.CE

namespace Go.CE
open Go.Proofs Go.Shelf Go.RowKit
variable {P : Program} {ρ : Ren}

/-- Cells stored one behind the other, one at a time. -/
def setAll (b o : Nat) : List Value → Nat → World → World
  | [], _, w => w
  | v :: vs, i, w => setAll b o vs (i + 1) (w.setCell ⟨b, o + i, none⟩ v)
theorem store_all {B o : Nat} {t : TypeId} {fz : Nat × Nat} : ∀ (vs : List Value) (i : Nat) (cur : Array Value) (w : World), w.heap[B]? = some (.cells cur t fz) → Unfrozen cur fz →
    o + i + vs.length ≤ cur.size → (∀ v ∈ vs, v.oneCell' = true) → (storeCells ⟨B, o, none⟩ vs i).run P w = .ok () (setAll B o vs i w)
  | [], i, cur, w, hB, _, _, _ => by simp [storeCells, setAll]
  | v :: vs, i, cur, w, hB, hf, hl, h1 => by
    simp only [List.length_cons] at hl
    have hv := h1 v (by simp)
    have hcell : w.cell? ⟨B, o + i, none⟩ = some cur[o + i] := by
      rw [cell_hcell]; simp [hcell, hB, show o + i < cur.size by omega]
    have hfr := frozen_no hB hf (i := o + i) (by omega)
    obtain ⟨hs, hb, hB'⟩ := setCell_heap (i := o + i) (v := v) hB
    have ih := store_all (o := o) vs (i + 1) (cur.setIfInBounds (o + i) v) (w.setCell ⟨B, o + i, none⟩ v) hB' (by unfold Unfrozen at *; simpa using hf) (by simp; omega) (fun x hx => h1 x (by simp [hx]))
    simp only [storeCells, Sem.run_bind, add_addr]
    rw [run_store P w _ v .plain hv]
    simp only [hcell, hfr, Bool.false_eq_true, if_false, Result.andThen]
    exact ih
theorem copy_str (w : World) (dT sT ty elem : TypeId) (g o dLen dCap : Nat) (s : ByteArray) (cur : Array Value) (t : TypeId) (fz : Nat × Nat)
    (hu : P.underlying dT = some (.slice elem)) (hs : (P.info? elem).map (·.size) = some 1) (hg : w.heap[g]? = some (.cells cur t fz)) (hf : Unfrozen cur fz) (hle : s.size ≤ dLen) (hfit : o + s.size ≤ cur.size) :
    (Builtin.copy_ #[dT, sT] ty #[.slice (some ⟨g, o, none⟩) dLen dCap, .string s]).run P w = .ok (goInt s.size) (setAll g o (Lib.byteCells s.data.toList) 0 w) := by
  have hlen : (Lib.byteCells s.data.toList).length = s.size := by rw [Lib.byteCells_length, ← Lib.size_eq]
  have hst := store_all (P := P) (o := o) (Lib.byteCells s.data.toList) 0 cur w hg hf (by rw [hlen]; simpa using hfit) (Lib.byteCells_one _)
  have hmin : Nat.min s.size dLen = s.size := Nat.min_eq_left hle
  have htk : List.take s.size (List.map (fun b : UInt8 => Value.int IntKind.u8 (b.toNat : Int)) s.data.toList) = Lib.byteCells s.data.toList := by
    rw [List.take_of_length_le (by rw [List.length_map, ← Lib.size_eq]; exact Nat.le_refl _)]
    rfl
  cases hq : P.info? elem with
  | none => simp [hq] at hs
  | some i =>
    simp [Builtin.copy_, run_underlying hu, Builtin.lenOf, Builtin.firstCells, sizeOf, typeInfo, hq, hmin]
    rw [htk, hst]
    simp [Result.andThen]
theorem setAll_out {b o : Nat} : ∀ (vs : List Value) (i : Nat) (W : World), SameOut W (setAll b o vs i W)
  | [], _, _ => ⟨rfl, rfl⟩
  | v :: vs, i, W => SameOut.trans (b := W.setCell ⟨b, o + i, none⟩ v) ⟨rfl, rfl⟩ (setAll_out vs (i + 1) _)
theorem setAll_congr {b o : Nat} : ∀ (vs : List Value) (i : Nat) {W W' : World}, W.heap = W'.heap → (setAll b o vs i W).heap = (setAll b o vs i W').heap
  | [], _, _, _, h => h
  | _ :: vs, i, _, _, h => setAll_congr vs (i + 1) (heap_set_congr h)

set_option maxHeartbeats 12800000 in
set_option maxRecDepth 100000 in
/-- (*bytes.Buffer).WriteString, where the row has room. -/
theorem buf_WriteString_room (L : LaysM.n178 P ρ) (b q g off l cap : Nat) (lr : Int) (s : ByteArray) (cg : Array Value) (tg : TypeId) (fz : Nat × Nat) (w : World) (hgb : g ≠ b) (c0 : w.cell? ⟨b, q, none⟩ = some (.slice (some ⟨g, off, none⟩) l cap)) (c2 : w.cell? ⟨b, q + 2, none⟩ = some (.int .i8 lr))
    (f0 : w.frozen? ⟨b, q, none⟩ = false) (f2 : w.frozen? ⟨b, q + 2, none⟩ = false) (hcm : cap ≤ maxLen) (hs1 : 1 ≤ s.size) (hroom : l + s.size ≤ cap) (hg : w.heap[g]? = some (.cells cg tg fz)) (hfz : Unfrozen cg fz) (hfit : off + cap ≤ cg.size) :
    Calls P (ρ.f 178) #[.pointer (some ⟨b, q, none⟩), .string s] w fun e w' => e = .returned (.tuple #[.int .i64 s.size, .nilIface]) ∧
      w'.heap = (setAll g (off + l) (Lib.byteCells s.data.toList) 0 ((w.setCell ⟨b, q + 2, none⟩ (.int .i8 0)).setCell ⟨b, q, none⟩ (.slice (some ⟨g, off, none⟩) (l + s.size) cap))).heap ∧ SameOut w w' := by
  have mixed := L.mixed
  have t5 := L.t5; have a5 := L.a5; have z5 := L.z5; have v5 := L.v5
  have t130 := L.t130; have a130 := L.a130; have z130 := L.z130; have v130 := L.v130
  have t3 := L.t3; have a3 := L.a3; have z3 := L.z3; have v3 := L.v3
  have t75 := L.t75; have a75 := L.a75; have z75 := L.z75; have v75 := L.v75
  have t9 := L.t9; have a9 := L.a9; have z9 := L.z9; have v9 := L.v9
  have t0 := L.t0; have a0 := L.a0; have z0 := L.z0; have v0 := L.v0
  have t93 := L.t93; have u93 := run_underlying L.t93; have a93 := L.a93; have z93 := L.z93; have v93 := L.v93
  have t91 := L.t91; have a91 := L.a91; have z91 := L.z91; have v91 := L.v91
  have t131 := L.t131; have a131 := L.a131; have z131 := L.z131; have v131 := L.v131
  have t4 := L.t4; have a4 := L.a4; have z4 := L.z4; have v4 := L.v4
  have t37 := L.t37; have a37 := L.a37; have z37 := L.z37; have v37 := L.v37
  have e251 : ∀ args w, (callFunc (ρ.f 251) args).run P w = .ok (.enter (ρ.f 251) args) w := enters_of L.f251 (by kernel_rfl) rfl
  have hinfo : (P.info? (ρ.t 5)).map (·.size) = some 1 := by
    obtain ⟨i0, hi, -, hz1, -⟩ := info_parts L.i5
    rw [hi]; simp [hz1]
  have g0 : (w.setCell ⟨b, q + 2, none⟩ (.int .i8 0)).cell? ⟨b, q, none⟩ = some (.slice (some ⟨g, off, none⟩) l cap) := (cell_set_other (.inr ⟨rfl, by show q ≠ q + 2; omega⟩)).trans c0
  have k0 : (w.setCell ⟨b, q + 2, none⟩ (.int .i8 0)).frozen? ⟨b, q, none⟩ = false := frozen_set.trans f0
  have gg : (w.setCell ⟨b, q + 2, none⟩ (.int .i8 0)).heap[g]? = some (.cells cg tg fz) := (Below.heap_setCell _ _ _ _ hgb).trans hg
  have hT : ∀ W, W.cell? ⟨b, q, none⟩ = some (.slice (some ⟨g, off, none⟩) l cap) → W.frozen? ⟨b, q, none⟩ = false → Calls P (ρ.f 251) #[.pointer (some ⟨b, q, none⟩), .int .i64 s.size] W _ := fun W hW hF => Any.Buffer_tryGrow_room_at { L with } b q (some ⟨g, off, none⟩) l cap s.size W hW hF (by omega) hcm (by omega)
  go_enter L.f178, Body.n178_ntmps ρ
  go_wp2_with (go_at_fn (ρ.f 251); refine (hT _ ?_ ?_).mono ?_)
  · exact g0
  · exact k0
  rintro e W1 ⟨rfl, hW1⟩
  have d0 : W1.cell? ⟨b, q, none⟩ = some (.slice (some ⟨g, off, none⟩) (l + s.size) cap) := by rw [hW1]; exact World.cell?_setCell_same _ _ _ g0
  have hg1 : W1.heap[g]? = some (.cells cg tg fz) := by rw [hW1]; exact (Below.heap_setCell _ _ _ _ hgb).trans gg
  have hh : W1.heap = ((w.setCell ⟨b, q + 2, none⟩ (.int .i8 0)).setCell ⟨b, q, none⟩ (.slice (some ⟨g, off, none⟩) (l + s.size) cap)).heap := by rw [hW1]
  have hcp := copy_str (P := P) W1 (ρ.t 37) (ρ.t 9) (ρ.t 3) (ρ.t 5) g (off + l) s.size (cap - l) s cg tg fz L.t37 hinfo hg1 hfz (Nat.le_refl _) (by omega)
  have hne : ¬ cap = l := by omega
  have hcm' := hcm
  unfold maxLen at hcm'
  have hs1 : SameOut w W1 := by rw [hW1]; exact ⟨rfl, rfl⟩
  clear hT g0 k0 gg c0 c2 f0 f2 hW1
  go_wp2
  go_ret2
  exact ⟨rfl, setAll_congr _ _ hh, hs1.trans (setAll_out _ _ _)⟩
set_option maxHeartbeats 12800000 in
set_option maxRecDepth 100000 in
/-- (*bytes.Buffer).WriteString, where the row has no room. -/
theorem buf_WriteString_full (L : LaysM.n178 P ρ) (b q g off l cap : Nat) (lr : Int) (s : ByteArray) (xs : List Value) (w : World) (hbw : b < w.heap.size) (hgl : g < w.heap.size) (hgb : g ≠ b) (c0 : w.cell? ⟨b, q, none⟩ = some (.slice (some ⟨g, off, none⟩) l cap)) (c1 : w.cell? ⟨b, q + 1, none⟩ = some (.int .i64 0)) (c2 : w.cell? ⟨b, q + 2, none⟩ = some (.int .i8 lr))
    (f0 : w.frozen? ⟨b, q, none⟩ = false) (f1 : w.frozen? ⟨b, q + 1, none⟩ = false) (f2 : w.frozen? ⟨b, q + 2, none⟩ = false) (hxl : xs.length = l) (hsrc : ∀ j v, xs[j]? = some v → w.cell? ⟨g, off + j, none⟩ = some v) (h1 : ∀ v ∈ xs, v.oneCell' = true)
    (hl0 : l ≠ 0) (hlc : l ≤ cap) (hcm : cap ≤ maxLen) (hs1 : 1 ≤ s.size) (hroom : cap < l + s.size) (hlim : l + s.size ≤ 140737488355328) :
    Calls P (ρ.f 178) #[.pointer (some ⟨b, q, none⟩), .string s] w fun e w' => e = .returned (.tuple #[.int .i64 s.size, .nilIface]) ∧ ∃ (cap2 : Nat) (cells : Array Value) (W1 : World), cells.size = cap2 ∧ cells.toList.take l = xs ∧ l + s.size ≤ cap2 ∧ cap2 ≤ maxLen ∧
      W1.heap = (w.setCell ⟨b, q + 2, none⟩ (.int .i8 0)).heap.push (.cells cells (ρ.t 5) (0, 0)) ∧
      w'.heap = (setAll w.heap.size l (Lib.byteCells s.data.toList) 0 (((W1.setCell ⟨b, q, none⟩ (.slice (some ⟨w.heap.size, 0, none⟩) l cap2)).setCell ⟨b, q + 1, none⟩ (.int .i64 0)).setCell ⟨b, q, none⟩ (.slice (some ⟨w.heap.size, 0, none⟩) (l + s.size) cap2))).heap ∧ SameOut w w' := by
  have mixed := L.mixed
  have t5 := L.t5; have a5 := L.a5; have z5 := L.z5; have v5 := L.v5
  have t130 := L.t130; have a130 := L.a130; have z130 := L.z130; have v130 := L.v130
  have t9 := L.t9; have a9 := L.a9; have z9 := L.z9; have v9 := L.v9
  have hinfo : (P.info? (ρ.t 5)).map (·.size) = some 1 := by
    obtain ⟨i0, hi, -, hz1, -⟩ := info_parts L.i5
    rw [hi]; simp [hz1]
  have t75 := L.t75; have a75 := L.a75; have z75 := L.z75; have v75 := L.v75
  have t0 := L.t0; have a0 := L.a0; have z0 := L.z0; have v0 := L.v0
  have t93 := L.t93; have u93 := run_underlying L.t93; have a93 := L.a93; have z93 := L.z93; have v93 := L.v93
  have t91 := L.t91; have a91 := L.a91; have z91 := L.z91; have v91 := L.v91
  have t3 := L.t3; have a3 := L.a3; have z3 := L.z3; have v3 := L.v3
  have t131 := L.t131; have a131 := L.a131; have z131 := L.z131; have v131 := L.v131
  have t4 := L.t4; have a4 := L.a4; have z4 := L.z4; have v4 := L.v4
  have t37 := L.t37; have a37 := L.a37; have z37 := L.z37; have v37 := L.v37
  have e251 : ∀ args w, (callFunc (ρ.f 251) args).run P w = .ok (.enter (ρ.f 251) args) w := enters_of L.f251 (by kernel_rfl) rfl
  have e252 : ∀ args w, (callFunc (ρ.f 252) args).run P w = .ok (.enter (ρ.f 252) args) w := enters_of L.f252 (by kernel_rfl) rfl
  have g0 : (w.setCell ⟨b, q + 2, none⟩ (.int .i8 0)).cell? ⟨b, q, none⟩ = some (.slice (some ⟨g, off, none⟩) l cap) := (cell_set_other (.inr ⟨rfl, by show q ≠ q + 2; omega⟩)).trans c0
  have g1 : (w.setCell ⟨b, q + 2, none⟩ (.int .i8 0)).cell? ⟨b, q + 1, none⟩ = some (.int .i64 0) := (cell_set_other (.inr ⟨rfl, by show q + 1 ≠ q + 2; omega⟩)).trans c1
  have k0 : (w.setCell ⟨b, q + 2, none⟩ (.int .i8 0)).frozen? ⟨b, q, none⟩ = false := frozen_set.trans f0
  have k1 : (w.setCell ⟨b, q + 2, none⟩ (.int .i8 0)).frozen? ⟨b, q + 1, none⟩ = false := frozen_set.trans f1
  have gs : ∀ j v, xs[j]? = some v → (w.setCell ⟨b, q + 2, none⟩ (.int .i8 0)).cell? ⟨g, off + j, none⟩ = some v := fun j v hj => (cell_set_other (.inl hgb)).trans (hsrc j v hj)
  have hT : ∀ W, W.cell? ⟨b, q, none⟩ = some (.slice (some ⟨g, off, none⟩) l cap) → Calls P (ρ.f 251) #[.pointer (some ⟨b, q, none⟩), .int .i64 s.size] W _ := fun W hW => Any.Buffer_tryGrow_none_at { L with } b q (some ⟨g, off, none⟩) l cap s.size W hW hlc hcm (by omega)
  have hG : ∀ W, b < W.heap.size → g < W.heap.size → W.cell? ⟨b, q, none⟩ = some (.slice (some ⟨g, off, none⟩) l cap) → W.cell? ⟨b, q + 1, none⟩ = some (.int .i64 0) → W.frozen? ⟨b, q, none⟩ = false → W.frozen? ⟨b, q + 1, none⟩ = false →
      (∀ j v, xs[j]? = some v → W.cell? ⟨g, off + j, none⟩ = some v) → Calls P (ρ.f 252) #[.pointer (some ⟨b, q, none⟩), .int .i64 s.size] W _ :=
    fun W h2 h3 h4 h5 h6 h7 h8 => buf_grow_row { L with } b q s.size g off l cap xs W h2 h3 h4 h5 h6 h7 hxl h8 h1 hl0 hlc hcm (by omega) (by omega) hlim
  go_enter L.f178, Body.n178_ntmps ρ
  go_wp2_with (go_at_fn (ρ.f 251); refine (hT _ ?_).mono ?_)
  · exact g0
  rintro e W1 ⟨rfl, rfl⟩
  go_wp2_with (go_at_fn (ρ.f 252); refine (hG _ ?_ ?_ ?_ ?_ ?_ ?_ ?_).mono ?_)
  · rw [size_set]; exact hbw
  · rw [size_set]; exact hgl
  · exact g0
  · exact g1
  · exact k0
  · exact k1
  · exact gs
  rintro e W2 ⟨rfl, cap2, cells, W1, hcs, htk, hcap, hcm2, hW1, hW2, hs2⟩
  have hsz : (w.setCell ⟨b, q + 2, none⟩ (.int .i8 0)).heap.size = w.heap.size := size_set
  rw [hsz] at hW2
  have hbN : b ≠ w.heap.size := by omega
  have hsz1 : W1.heap.size = w.heap.size + 1 := by rw [hW1, Array.size_push, hsz]
  have hg1 : W1.cell? ⟨b, q, none⟩ = some (.slice (some ⟨g, off, none⟩) l cap) := by
    refine (World.cell?_of_block (a := ⟨b, q, none⟩) ?_).trans g0
    rw [hW1]
    show ((w.setCell ⟨b, q + 2, none⟩ (.int .i8 0)).heap.push _)[b]? = _
    rw [Array.getElem?_push, if_neg (by rw [hsz]; exact hbN)]
  have hnew1 : W1.heap[w.heap.size]? = some (.cells cells (ρ.t 5) (0, 0)) := by
    rw [hW1, Array.getElem?_push, if_pos hsz.symm]
  have hnew : W2.heap[w.heap.size]? = some (.cells cells (ρ.t 5) (0, 0)) := by
    rw [hW2, Below.heap_setCell _ _ _ _ (Ne.symm hbN), Below.heap_setCell _ _ _ _ (Ne.symm hbN), Below.heap_setCell _ _ _ _ (Ne.symm hbN)]
    exact hnew1
  have d0 : W2.cell? ⟨b, q, none⟩ = some (.slice (some ⟨w.heap.size, 0, none⟩) (l + s.size) cap2) := by
    have e1 : W2.cell? ⟨b, q, none⟩ = ((((W1.setCell ⟨b, q, none⟩ (.slice (some ⟨w.heap.size, 0, none⟩) l cap2)).setCell ⟨b, q + 1, none⟩ (.int .i64 0)).setCell ⟨b, q, none⟩ (.slice (some ⟨w.heap.size, 0, none⟩) (l + s.size) cap2))).cell? ⟨b, q, none⟩ := by
      refine World.cell?_of_block ?_
      rw [hW2]
    refine e1.trans (World.cell?_setCell_same (u := .slice (some ⟨w.heap.size, 0, none⟩) l cap2) _ _ _ ?_)
    exact (cell_set_other (.inr ⟨rfl, by show q ≠ q + 1; omega⟩)).trans (World.cell?_setCell_same _ _ _ hg1)
  have hcp := copy_str (P := P) W2 (ρ.t 37) (ρ.t 9) (ρ.t 3) (ρ.t 5) w.heap.size l s.size (cap2 - l) s cells (ρ.t 5) (0, 0) L.t37 hinfo hnew (.inl (Nat.le_refl _)) (Nat.le_refl _) (by omega)
  have hne : ¬ cap2 = l := by omega
  have hcm' := hcm2
  unfold maxLen at hcm'
  clear hT hG g0 g1 k0 k1 gs f0 f1 f2 c0 c1 c2 hnew hnew1 hg1
  go_wp2
  go_ret2
  exact ⟨rfl, cap2, cells, W1, hcs, htk, hcap, hcm2, hW1, setAll_congr _ _ hW2, SameOut.trans ⟨hs2.1, hs2.2⟩ (setAll_out _ _ _)⟩
end Go.CE

namespace Go.CE
open Go.Proofs Go.Shelf Go.RowKit
variable {P : Program}

/-- Cells laid into a row. -/
def setArr : Array Value → Nat → List Value → Array Value
  | cur, _, [] => cur
  | cur, k, v :: vs => setArr (cur.setIfInBounds k v) (k + 1) vs
theorem setArr_size : ∀ (vs : List Value) (cur : Array Value) (k : Nat), (setArr cur k vs).size = cur.size
  | [], _, _ => rfl
  | v :: vs, cur, k => by rw [setArr, setArr_size vs]; simp
theorem setArr_out : ∀ (vs : List Value) (cur : Array Value) (k j : Nat), (j < k ∨ k + vs.length ≤ j) → (setArr cur k vs)[j]? = cur[j]?
  | [], _, _, _, _ => rfl
  | v :: vs, cur, k, j, h => by
    simp only [List.length_cons] at h
    rw [setArr, setArr_out vs _ _ _ (by omega), Array.getElem?_setIfInBounds_ne (by omega)]
theorem setArr_in : ∀ (vs : List Value) (cur : Array Value) (k j : Nat) (v : Value), k + vs.length ≤ cur.size → vs[j]? = some v → (setArr cur k vs)[k + j]? = some v
  | [], _, _, _, _, _, h => by simp at h
  | x :: vs, cur, k, 0, v, hs, h => by
    simp only [List.length_cons] at hs
    simp at h; subst h
    rw [setArr, setArr_out vs _ _ _ (by omega)]
    rw [Nat.add_zero, Array.getElem?_setIfInBounds_self_of_lt (by omega)]
  | x :: vs, cur, k, j + 1, v, hs, h => by
    simp only [List.length_cons] at hs
    rw [setArr, show k + (j + 1) = k + 1 + j by omega]
    exact setArr_in vs _ _ _ _ (by simp; omega) (by simpa using h)
theorem setAll_heap {B o : Nat} {t : TypeId} {fz : Nat × Nat} : ∀ (vs : List Value) (i : Nat) (cur : Array Value) (w : World), w.heap[B]? = some (.cells cur t fz) →
    (setAll B o vs i w).heap.size = w.heap.size ∧ (∀ b, b ≠ B → (setAll B o vs i w).heap[b]? = w.heap[b]?) ∧ (setAll B o vs i w).heap[B]? = some (.cells (setArr cur (o + i) vs) t fz)
  | [], i, cur, w, hB => ⟨rfl, fun _ _ => rfl, hB⟩
  | v :: vs, i, cur, w, hB => by
    obtain ⟨h1, h2, h3⟩ := setCell_heap (i := o + i) (v := v) hB
    obtain ⟨k1, k2, k3⟩ := setAll_heap (o := o) vs (i + 1) _ _ h3
    exact ⟨k1.trans h1, fun b hb => (k2 b hb).trans (h2 b hb), k3⟩
/-- Three cells of a row, as the methods of a buffer leave them. -/
theorem three_arr {cs : Array Value} {q : Nat} {s : Value} (h1 : cs[q + 1]? = some (.int .i64 0)) :
    (cs.setIfInBounds (q + 2) (.int .i8 0)).setIfInBounds q s = setArr cs q [s, .int .i64 0, .int .i8 0] := by
  refine Array.ext_getElem? fun j => ?_
  simp only [setArr]
  have hlt : q + 1 < cs.size := (Array.getElem?_eq_some_iff.1 h1).1
  by_cases e0 : j = q
  · subst e0
    rw [Array.getElem?_setIfInBounds_self_of_lt (by simp; omega), Array.getElem?_setIfInBounds_ne (by omega), Array.getElem?_setIfInBounds_ne (by omega), Array.getElem?_setIfInBounds_self_of_lt (by omega)]
  · rw [Array.getElem?_setIfInBounds_ne (Ne.symm e0)]
    by_cases e1 : j = q + 1
    · subst e1
      rw [Array.getElem?_setIfInBounds_ne (by omega), h1, Array.getElem?_setIfInBounds_ne (by omega), Array.getElem?_setIfInBounds_self_of_lt (by simp; omega)]
    · by_cases e2 : j = q + 2
      · subst e2
        rw [Array.getElem?_setIfInBounds, Array.getElem?_setIfInBounds]
        simp only [if_true, Array.size_setIfInBounds]
      · rw [Array.getElem?_setIfInBounds_ne (Ne.symm e2), Array.getElem?_setIfInBounds_ne (by omega), Array.getElem?_setIfInBounds_ne (by omega), Array.getElem?_setIfInBounds_ne (Ne.symm e0)]
/-- What is written in place: one heap. -/
theorem place_heap {w : World} {b q g k : Nat} {cs cg : Array Value} {tb tg : TypeId} {fb fg : Nat × Nat} {s : Value} {new : List Value} (hgb : g ≠ b) (hb : w.heap[b]? = some (.cells cs tb fb)) (hg : w.heap[g]? = some (.cells cg tg fg)) (h1 : cs[q + 1]? = some (.int .i64 0)) :
    (setAll g k new 0 ((w.setCell ⟨b, q + 2, none⟩ (.int .i8 0)).setCell ⟨b, q, none⟩ s)).heap = (setAll b q [s, .int .i64 0, .int .i8 0] 0 (setAll g k new 0 w)).heap := by
  obtain ⟨a1, a2, a3⟩ := setCell_heap (i := q + 2) (v := .int .i8 0) hb
  obtain ⟨b1, b2, b3⟩ := setCell_heap (i := q) (v := s) a3
  have hg1 : ((w.setCell ⟨b, q + 2, none⟩ (.int .i8 0)).setCell ⟨b, q, none⟩ s).heap[g]? = some (.cells cg tg fg) := (b2 g hgb).trans ((a2 g hgb).trans hg)
  obtain ⟨c1, c2, c3⟩ := setAll_heap (o := k) new 0 cg _ hg1
  obtain ⟨d1, d2, d3⟩ := setAll_heap (o := k) new 0 cg _ hg
  have hb2 : (setAll g k new 0 w).heap[b]? = some (.cells cs tb fb) := (d2 b (Ne.symm hgb)).trans hb
  obtain ⟨e1, e2, e3⟩ := setAll_heap (o := q) [s, .int .i64 0, .int .i8 0] 0 cs _ hb2
  refine Array.ext_getElem? fun j => ?_
  by_cases hjb : j = b
  · subst hjb
    rw [c2 j (Ne.symm hgb), b3, e3, three_arr h1]; rfl
  · rw [e2 j hjb]
    by_cases hjg : j = g
    · subst hjg; rw [c3, d3]
    · rw [c2 j hjg, b2 j hjb, a2 j hjb, d2 j hjg]
/-- What is written into a new row: one heap. -/
theorem move_heap {w W1 w' : World} {b q l : Nat} {cs cells : Array Value} {tb tg : TypeId} {fb : Nat × Nat} {v1 s : Value} {new : List Value} (hb : w.heap[b]? = some (.cells cs tb fb)) (h1 : cs[q + 1]? = some (.int .i64 0))
    (hW1 : W1.heap = (w.setCell ⟨b, q + 2, none⟩ (.int .i8 0)).heap.push (.cells cells tg (0, 0)))
    (hw : w'.heap = (setAll w.heap.size l new 0 (((W1.setCell ⟨b, q, none⟩ v1).setCell ⟨b, q + 1, none⟩ (.int .i64 0)).setCell ⟨b, q, none⟩ s)).heap) :
    w'.heap = (setAll b q [s, .int .i64 0, .int .i8 0] 0 { w with heap := w.heap.push (.cells (setArr cells l new) tg (0, 0)) }).heap := by
  have hbN : b < w.heap.size := (Array.getElem?_eq_some_iff.1 hb).1
  have hne : b ≠ w.heap.size := by omega
  obtain ⟨a1, a2, a3⟩ := setCell_heap (i := q + 2) (v := .int .i8 0) hb
  have p1 : W1.heap[b]? = some (.cells (cs.setIfInBounds (q + 2) (.int .i8 0)) tb fb) := by
    rw [hW1, Array.getElem?_push, if_neg (by rw [a1]; exact hne)]; exact a3
  have p2 : W1.heap[w.heap.size]? = some (.cells cells tg (0, 0)) := by
    rw [hW1, Array.getElem?_push, if_pos a1.symm]
  have p3 : ∀ j, j ≠ b → j ≠ w.heap.size → W1.heap[j]? = w.heap[j]? := fun j h2 h3 => by
    rw [hW1, Array.getElem?_push, if_neg (by rw [a1]; exact h3)]; exact a2 j h2
  obtain ⟨b1, b2, b3⟩ := setCell_heap (i := q) (v := v1) p1
  obtain ⟨c1, c2, c3⟩ := setCell_heap (i := q + 1) (v := .int .i64 0) b3
  obtain ⟨d1, d2, d3⟩ := setCell_heap (i := q) (v := s) c3
  have hN : (((W1.setCell ⟨b, q, none⟩ v1).setCell ⟨b, q + 1, none⟩ (.int .i64 0)).setCell ⟨b, q, none⟩ s).heap[w.heap.size]? = some (.cells cells tg (0, 0)) :=
    (d2 _ (Ne.symm hne)).trans ((c2 _ (Ne.symm hne)).trans ((b2 _ (Ne.symm hne)).trans p2))
  obtain ⟨e1, e2, e3⟩ := setAll_heap (o := l) new 0 cells _ hN
  have hb2 : ({ w with heap := w.heap.push (.cells (setArr cells l new) tg (0, 0)) } : World).heap[b]? = some (.cells cs tb fb) := by
    show (w.heap.push _)[b]? = _
    rw [Array.getElem?_push, if_neg hne]; exact hb
  obtain ⟨f1, f2, f3⟩ := setAll_heap (o := q) [s, .int .i64 0, .int .i8 0] 0 cs _ hb2
  rw [hw]
  refine Array.ext_getElem? fun j => ?_
  by_cases hjb : j = b
  · subst hjb
    rw [e2 j hne, d3, f3]
    have : ((((cs.setIfInBounds (q + 2) (Value.int .i8 0)).setIfInBounds q v1).setIfInBounds (q + 1) (.int .i64 0)).setIfInBounds q s) = (cs.setIfInBounds (q + 2) (.int .i8 0)).setIfInBounds q s := by
      refine Array.ext_getElem? fun i => ?_
      by_cases e0 : i = q
      · subst e0
        by_cases hs : i < cs.size
        · rw [Array.getElem?_setIfInBounds_self_of_lt (by simp; exact hs), Array.getElem?_setIfInBounds_self_of_lt (by simp; exact hs)]
        · rw [Array.getElem?_eq_none (by simp; omega), Array.getElem?_eq_none (by simp; omega)]
      · rw [Array.getElem?_setIfInBounds_ne (Ne.symm e0), Array.getElem?_setIfInBounds_ne (Ne.symm e0)]
        have hlt : q + 1 < cs.size := (Array.getElem?_eq_some_iff.1 h1).1
        by_cases e1 : i = q + 1
        · subst e1
          rw [Array.getElem?_setIfInBounds_self_of_lt (by simp; exact hlt), Array.getElem?_setIfInBounds_ne (by omega), h1]
        · rw [Array.getElem?_setIfInBounds_ne (Ne.symm e1), Array.getElem?_setIfInBounds_ne (Ne.symm e0)]
    rw [this, three_arr h1]; rfl
  · rw [f2 j hjb]
    show _ = (w.heap.push _)[j]?
    by_cases hjN : j = w.heap.size
    · subst hjN
      rw [e3, Array.getElem?_push, if_pos rfl]; rfl
    · rw [e2 j hjN, d2 j hjb, c2 j hjb, b2 j hjb, p3 j hjb hjN, Array.getElem?_push, if_neg hjN]
/-- What is written into the first row: one heap. -/
theorem nil_heap {w w' : World} {b q : Nat} {cs M : Array Value} {tb tg : TypeId} {fb : Nat × Nat} {s : Value} {new : List Value} (hb : w.heap[b]? = some (.cells cs tb fb)) (h1 : cs[q + 1]? = some (.int .i64 0))
    (hw : w'.heap = (setAll w.heap.size 0 new 0 (((w.setCell ⟨b, q + 2, none⟩ (.int .i8 0)).setCell ⟨b, q, none⟩ s).alloc (.cells M tg))).heap) :
    w'.heap = (setAll b q [s, .int .i64 0, .int .i8 0] 0 { w with heap := w.heap.push (.cells (setArr M 0 new) tg (0, 0)) }).heap := by
  have hbN : b < w.heap.size := (Array.getElem?_eq_some_iff.1 hb).1
  have hne : b ≠ w.heap.size := by omega
  obtain ⟨a1, a2, a3⟩ := setCell_heap (i := q + 2) (v := .int .i8 0) hb
  obtain ⟨b1, b2, b3⟩ := setCell_heap (i := q) (v := s) a3
  have hsz : ((w.setCell ⟨b, q + 2, none⟩ (.int .i8 0)).setCell ⟨b, q, none⟩ s).heap.size = w.heap.size := b1.trans a1
  have hN : (((w.setCell ⟨b, q + 2, none⟩ (.int .i8 0)).setCell ⟨b, q, none⟩ s).alloc (.cells M tg)).heap[w.heap.size]? = some (.cells M tg (0, 0)) := by
    show (((w.setCell ⟨b, q + 2, none⟩ (.int .i8 0)).setCell ⟨b, q, none⟩ s).heap.push _)[w.heap.size]? = _
    rw [Array.getElem?_push, if_pos hsz.symm]
  have hold : ∀ j, j ≠ w.heap.size → (((w.setCell ⟨b, q + 2, none⟩ (.int .i8 0)).setCell ⟨b, q, none⟩ s).alloc (.cells M tg)).heap[j]? = ((w.setCell ⟨b, q + 2, none⟩ (.int .i8 0)).setCell ⟨b, q, none⟩ s).heap[j]? := fun j hj => by
    show (((w.setCell ⟨b, q + 2, none⟩ (.int .i8 0)).setCell ⟨b, q, none⟩ s).heap.push _)[j]? = _
    rw [Array.getElem?_push, if_neg (by rw [hsz]; exact hj)]
  obtain ⟨e1, e2, e3⟩ := setAll_heap (o := 0) new 0 M _ hN
  have hb2 : ({ w with heap := w.heap.push (.cells (setArr M 0 new) tg (0, 0)) } : World).heap[b]? = some (.cells cs tb fb) := by
    show (w.heap.push _)[b]? = _
    rw [Array.getElem?_push, if_neg hne]; exact hb
  obtain ⟨f1, f2, f3⟩ := setAll_heap (o := q) [s, .int .i64 0, .int .i8 0] 0 cs _ hb2
  rw [hw]
  refine Array.ext_getElem? fun j => ?_
  by_cases hjb : j = b
  · subst hjb
    rw [e2 j hne, hold j hne, b3, f3, three_arr h1]; rfl
  · rw [f2 j hjb]
    show _ = (w.heap.push _)[j]?
    by_cases hjN : j = w.heap.size
    · subst hjN
      rw [e3, Array.getElem?_push, if_pos rfl]; try rfl
    · rw [e2 j hjN, hold j hjN, b2 j hjb, a2 j hjb, Array.getElem?_push, if_neg hjN]
end Go.CE

namespace Go.CE
open Go.Proofs Go.Shelf Go.RowKit
variable {GI : GInv} {P : Program}

noncomputable def buf3 (cs : List AV) : Option AV := match cs with
  | [bv, .int .i64 z, .int .i8 _] => bsel (ieq z 0) (some bv) none
  | _ => none
noncomputable def bufGuard (k : Bool) (r : Nat) (bv : AV) (m : Nat) : Bool := match bv with
  | .nilslice => bsel k (bsel (Nat.ble 1 m) (Nat.ble m 64) false) false
  | .slice rb _ _ n e => bsel (Nat.beq r rb) false (bsel (Nat.beq e 1) (bsel (Nat.ble 1 n) (bsel (Nat.ble 1 m) (Nat.ble (Nat.add n m) 1099511627776) false) false) false)
  | _ => false
noncomputable def bufApp (k : Bool) (h : Heap) (r : Nat) (bv : AV) (new : List AV) (m : Nat) : Option (AV × Heap) :=
  bsel (bufGuard k r bv m) (obind (appendS h.rows.get h.next 1 bv new m) fun p => some (p.1, applyU h h.next (Nat.succ h.next) p.2)) none
noncomputable def bufTail (h : Heap) (r g o : Nat) (nv : AV) : Option Heap := obind (wrRow h.rows.get r g o [nv, .int .i64 0, .int .i8 0]) fun u => some (applyU h 0 h.next u)
noncomputable def bufHook (k : Bool) (h : Heap) (r g o m : Nat) (new : List AV) : Option Heap :=
  bsel (Nat.ble 3 m) (obind (rdRow h.rows.get r g o 3) fun cs => obind (buf3 cs) fun bv => obind (bufApp k h r bv new (llen new)) fun p => bufTail p.2 r g o p.1) none

/-- The world behind is of the heap alone. -/
theorem At.of_heap {S : St} {h : Heap} {w w' : World} (hAt : At GI S h w) (e : w'.heap = w.heap) (ho : SameOut w w') : At GI S h w' := ⟨hAt.rel, hAt.hp.trans e.symm, hAt.look, hAt.kn, hAt.met, hAt.ok, hAt.out.trans ho⟩
theorem buf_tail {S SA : St} {h hA h' : Heap} {wA : World} {r g o m : Nat} {nv : AV} {b q : Nat} {s : Value} (hS : Rel S) (hAt : At GI SA hA wA) (hB : Behind S h SA hA) (hp : V SA (.ptr r g o m) (.pointer (some ⟨b, q, none⟩))) (hm : 3 ≤ m) (hs : V SA nv s) (hs1 : s.oneCell' = true)
    (ht : bufTail hA r g o nv = some h') : ∀ w' : World, w'.heap = (setAll b q [s, .int .i64 0, .int .i8 0] 0 wA).heap → SameOut wA w' → ∃ S', At GI S' h' w' ∧ Behind S h S' h' := by
  intro w' hw' hso'
  obtain ⟨u, h1, h2⟩ := obind_eq ht
  cases h2
  simp only [V] at hp
  obtain ⟨hk, ad, had, hlv⟩ := hp
  cases had
  have hvl : VL SA [nv, .int .i64 0, .int .i8 0] [s, .int .i64 0, .int .i8 0] := by simp only [VL, V]; exact ⟨hs, trivial, trivial, trivial⟩
  have h1' := h1
  rw [← hAt.look] at h1'
  obtain ⟨hlive, wB, hst, hso, row, row', rfl, hch⟩ := write_sound (P := default) (look' := (applyU hA 0 hA.next u).rows.get) (at_ := 0) hAt.rel hAt.hp hvl (fun x hx => by
    simp only [List.mem_cons, List.mem_nil_iff, or_false] at hx
    rcases hx with rfl | rfl | rfl
    · exact hs1
    · rfl
    · rfl) hk (fun hl => ⟨(hlv hl).2.1, by have := (hlv hl).2.2; simp only [List.length_cons, List.length_nil]; omega⟩) h1'
  obtain ⟨hbq, hsh, hlim⟩ := hlv hlive
  obtain ⟨rw0, hrw, hrl⟩ := hlive
  have hlk : SA.look r = some rw0 := hrw
  -- the row's block
  obtain ⟨row1, k1, k2⟩ := obind_eq h1'
  obtain ⟨pp, k3, k4⟩ := obind_eq k2
  have := cellsRow_some k3; subst this
  obtain ⟨k5, k6⟩ := bsel_none k4
  have hg := beq_eq k5
  obtain ⟨hmm, _, hrow⟩ := hAt.rel.row r _ k1
  rw [← hg] at hmm hrow
  obtain ⟨_, _, cB, ty, fz, hBk, hfz, hcells⟩ := hrow g hmm (Nat.le_refl _)
  rw [hAt.hp] at hBk
  have e1 : (SA.G r g).blk = b := by have := congrArg Addr.block hbq; exact this.symm
  have e2 : o - (SA.G r g).sh = q := by have := congrArg Addr.off hbq; exact this.symm
  have hsize : q + 3 ≤ cB.size := by
    obtain ⟨x, hx, _⟩ := hcells (o + 2) (by omega) (by omega)
    have := (Array.getElem?_eq_some_iff.1 hx).1
    omega
  rw [e1] at hBk
  have hsa := store_all (P := default) (o := q) [s, .int .i64 0, .int .i8 0] 0 cB wA hBk hfz (by simp only [List.length_cons, List.length_nil]; omega) (fun x hx => by
    simp only [List.mem_cons, List.mem_nil_iff, or_false] at hx
    rcases hx with rfl | rfl | rfl
    · exact hs1
    · rfl
    · rfl)
  rw [e1, e2] at hst
  have hwB : wB = setAll b q [s, .int .i64 0, .int .i8 0] 0 wA := by
    have := hst.symm.trans hsa
    injection this
  have hU : UpdOK SA.look (applyU hA 0 hA.next (.set r row')).rows.get 0 (.set r row') := updOK_apply hAt.look 0 hA.next _
  obtain ⟨hc, hok⟩ := hch hU
  have hrel := hc.rel hAt.rel hok
  have hext := hc.ext hAt.rel
  have hheap : w'.heap = wB.heap := by rw [hwB]; exact hw'
  have hlo := lower_le hA.lo r
  refine ⟨_, ⟨hrel, ?_, rfl, fun r' hr => hAt.kn r' hr, hAt.met.ext hext, hAt.ok.set _ _, hAt.out.trans hso'⟩, ?_⟩
  · show wB.heap = w'.heap; exact hheap.symm
  · refine hB.trans ⟨hext, fun r' hr => .inl hr, ?_, hlo.1, Nat.le_refl _⟩ hS
    exact hc.keep hAt.rel hlo.2
end Go.CE

namespace Go.CE
open Go.Proofs Go.Shelf Go.RowKit
variable {GI : GInv} {P : Program}

theorem appendS_slice {look : Look} {fresh r g o n m : Nat} {new : List AV} {nv : AV} {u : Upd} (hm : m ≠ 0) (h : appendS look fresh 1 (.slice r g o n 1) new m = some (nv, u)) (hl : new.length = m) :
    ∃ c len gmin, look r = some (.cells c len gmin g) ∧ gmin ≤ g ∧ nv = .slice r (Nat.succ g) o (n + m) 1 ∧ u = .set r (.cells (T.write c (o + n) new) (o + n + new.length) (bsel (Nat.beq (o + n) len) gmin (Nat.succ g)) (Nat.succ g)) := by
  have h' : bsel (Nat.beq 1 1) (bsel (Nat.beq m 0) (some (.slice r g o n 1, .keep)) (obind (look r) fun row => obind (cellsRow row) fun p =>
      bsel (Nat.ble p.2.2.1 g) (bsel (Nat.beq g p.2.2.2)
        (some (AV.slice r (Nat.succ p.2.2.2) o (Nat.add n m) 1,
          Upd.set r (.cells (T.write p.1 (Nat.add o (Nat.mul n 1)) new) (Nat.add (Nat.add o (Nat.mul n 1)) (Nat.mul m 1)) (bsel (Nat.beq (Nat.add o (Nat.mul n 1)) p.2.1) p.2.2.1 (Nat.succ p.2.2.2)) (Nat.succ p.2.2.2)))) none) none)) none = some (nv, u) := h
  rw [show Nat.beq 1 1 = true from rfl, bsel_true] at h'
  have hb : Nat.beq m 0 = false := by
    cases hb : Nat.beq m 0 with
    | false => rfl
    | true => exact absurd (beq_eq hb) hm
  rw [hb, bsel_false] at h'
  obtain ⟨row, h1, h2⟩ := obind_eq h'
  obtain ⟨p, h3, h4⟩ := obind_eq h2
  obtain ⟨h5, h6⟩ := bsel_none h4
  obtain ⟨h7, h8⟩ := bsel_none h6
  obtain ⟨c, len, gmin, gcur⟩ := p
  have := cellsRow_some h3; subst this
  have hg := beq_eq h7
  simp only at hg
  subst hg
  simp only [Option.some.injEq, Prod.mk.injEq] at h8
  obtain ⟨rfl, rfl⟩ := h8
  refine ⟨c, len, gmin, h1, ble_le h5, rfl, ?_⟩
  simp only [Nat.mul_one, Nat.mul_eq, Nat.add_eq, hl]
/-- The world of a row that grows in place. -/
theorem buf_place {S : St} {h : Heap} {w : World} {r g o n m g' off cap : Nat} {new : List AV} {newv : List Value} {nv : AV} {u : Upd} {cg : Array Value} {tg : TypeId} {fz : Nat × Nat} (hAt : At GI S h w) (hv : V S (.slice r g o n 1) (.slice (some ⟨g', off, none⟩) n cap)) (hm : m ≠ 0)
    (ha : appendS h.rows.get h.next 1 (.slice r g o n 1) new m = some (nv, u)) (hl : new.length = m) (hnv : VL S new newv) (h1 : ∀ x ∈ newv, x.oneCell' = true) (hcap : n + m ≤ cap) (hg : w.heap[g']? = some (.cells cg tg fz)) (hf : Unfrozen cg fz) :
    ∃ SA, At GI SA (applyU h h.next (Nat.succ h.next) u) (setAll g' (off + n) newv 0 w) ∧ Behind S h SA (applyU h h.next (Nat.succ h.next) u) ∧ V SA nv (.slice (some ⟨g', off, none⟩) (n + m) cap) := by
  rw [← hAt.look] at ha
  obtain ⟨c, len, gmin, hrow, hgm, rfl, rfl⟩ := appendS_slice hm ha hl
  simp only [V] at hv
  obtain ⟨hkn, ad, cap', hvv, hnc, hlv⟩ := hv
  simp only [Value.slice.injEq, Option.some.injEq] at hvv
  obtain ⟨rfl, _, rfl⟩ := hvv
  have hlive : S.live r g := ⟨_, hrow, hgm, Nat.le_refl _⟩
  obtain ⟨hsh, hlim, hc⟩ := hlv hlive
  have hc' : (⟨g', off, none⟩ : Addr) = ⟨(S.G r g).blk, o - (S.G r g).sh, none⟩ ∧ o - (S.G r g).sh + cap * 1 ≤ hlen S.hp (S.G r g).blk := by
    rcases hc with hc | hc
    · omega
    · exact hc
  obtain ⟨had, hcp⟩ := hc'
  have e1 : g' = (S.G r g).blk := congrArg Addr.block had
  have e2 : off = o - (S.G r g).sh := congrArg Addr.off had
  have hU := updOK_apply hAt.look h.next (Nat.succ h.next) (.set r (.cells (T.write c (o + n) new) (o + n + new.length) (bsel (Nat.beq (o + n) len) gmin (Nat.succ g)) (Nat.succ g)))
  obtain ⟨wA, hst, hso, G', hG1, hG2, hlen', hch, hok⟩ := app_place (P := default) (k := o + n) hAt.rel hAt.hp hnv h1 hrow (by omega) (by omega) (by rw [hl]; omega) hU
  have hgs : hlen S.hp (S.G r g).blk = cg.size := by rw [← e1, hAt.hp, sizeOfBlock hg]
  have hvl := hnv.length
  have hsa := store_all (P := default) (o := off + n) newv 0 cg w hg hf (by omega) h1
  rw [← e1, show o + n - (S.G r g).sh = off + n by omega] at hst
  have hwA : wA = setAll g' (off + n) newv 0 w := by
    have := hst.symm.trans hsa
    injection this
  subst hwA
  have hext := hch.ext hAt.rel
  have hlo := lower_le h.lo r
  refine ⟨_, ⟨hch.rel hAt.rel hok, rfl, rfl, fun r' hr => hAt.kn r' hr, hAt.met.ext hext, hAt.ok.set _ _, hAt.out.trans hso⟩, ⟨hext, fun r' hr => .inl hr, hch.keep hAt.rel hlo.2, hlo.1, Nat.le_refl _⟩, ?_⟩
  simp only [V]
  refine ⟨⟨hkn.1, fun row hr => ?_⟩, ⟨g', off, none⟩, cap, rfl, ⟨hcap, hnc.2⟩, fun _ => ?_⟩
  · have := hU.2 row hr; subst this; exact Nat.le_refl _
  · show (G' r (g + 1)).sh ≤ o ∧ o + (n + m) * 1 ≤ (G' r (g + 1)).lim ∧ (cap = 0 ∨ (⟨g', off, none⟩ : Addr) = ⟨(G' r (g + 1)).blk, o - (G' r (g + 1)).sh, none⟩ ∧ o - (G' r (g + 1)).sh + cap * 1 ≤ hlen (setAll g' (off + n) newv 0 w).heap (G' r (g + 1)).blk)
    rw [hG2]
    refine ⟨hsh, by show _ ≤ o + n + new.length; omega, .inr ⟨had, ?_⟩⟩
    show _ ≤ hlen _ (S.G r g).blk
    rw [hlen']; exact hcp
/-- The world of a row that moves. -/
theorem buf_move {S : St} {h : Heap} {w : World} {r g o n m off g' cap cap2 : Nat} {new : List AV} {newv : List Value} {nv : AV} {u : Upd} {cells : Array Value} {ty : TypeId} {xs : List Value} (hAt : At GI S h w) (hv : V S (.slice r g o n 1) (.slice (some ⟨g', off, none⟩) n cap)) (hn : n ≠ 0) (hm : m ≠ 0)
    (ha : appendS h.rows.get h.next 1 (.slice r g o n 1) new m = some (nv, u)) (hl : new.length = m) (hnv : VL S new newv) (h1 : ∀ x ∈ newv, x.oneCell' = true)
    (hxs : ∀ j, j < n → ∃ v, xs[j]? = some v ∧ w.cell? ⟨g', off + j, none⟩ = some v) (hcs : cells.size = cap2) (htk : cells.toList.take n = xs) (hcap : n + m ≤ cap2) (hmax : cap2 ≤ 9223372036854775807) :
    ∃ SA, At GI SA (applyU h h.next (Nat.succ h.next) u) { w with heap := w.heap.push (.cells (setArr cells n newv) ty (0, 0)) } ∧ Behind S h SA (applyU h h.next (Nat.succ h.next) u) ∧ V SA nv (.slice (some ⟨w.heap.size, 0, none⟩) (n + m) cap2) := by
  rw [← hAt.look] at ha
  obtain ⟨c, len, gmin, hrow, hgm, rfl, rfl⟩ := appendS_slice hm ha hl
  simp only [V] at hv
  obtain ⟨hkn, ad, cap', hvv, hnc, hlv⟩ := hv
  simp only [Value.slice.injEq, Option.some.injEq] at hvv
  obtain ⟨rfl, _, rfl⟩ := hvv
  have hlive : S.live r g := ⟨_, hrow, hgm, Nat.le_refl _⟩
  obtain ⟨hsh, hlim, hc⟩ := hlv hlive
  have hc' : (⟨g', off, none⟩ : Addr) = ⟨(S.G r g).blk, o - (S.G r g).sh, none⟩ := by
    rcases hc with hc | hc
    · omega
    · exact hc.1
  have e1 : g' = (S.G r g).blk := congrArg Addr.block hc'
  have e2 : off = o - (S.G r g).sh := congrArg Addr.off hc'
  obtain ⟨_, _, hro⟩ := hAt.rel.row r _ hrow
  obtain ⟨_, _, cB, tyB, fz, hB, hfz, hcells⟩ := hro g hgm (Nat.le_refl _)
  have hU := updOK_apply hAt.look h.next (Nat.succ h.next) (.set r (.cells (T.write c (o + n) new) (o + n + new.length) (bsel (Nat.beq (o + n) len) gmin (Nat.succ g)) (Nat.succ g)))
  have hvl := hnv.length
  have hN : ∀ j, o ≤ j → j < o + n + new.length → ∃ v, (setArr cells n newv)[j - o]? = some v ∧ v.oneCell' = true ∧ ∀ a, (T.write c (o + n) new).get j = some a → V S a v := by
    intro j hj1 hj2
    by_cases hjk : j < o + n
    · obtain ⟨v, hv1, hv2⟩ := hxs (j - o) (by omega)
      obtain ⟨y, hy1, hy2, hy3⟩ := hcells j (by omega) (by omega)
      have hyv : y = v := by
        rw [cell_hcell, ← hAt.hp, e1] at hv2
        unfold hcell at hv2
        rw [hB] at hv2
        have hv3 : cB[off + (j - o)]? = some v := hv2
        rw [show off + (j - o) = j - (S.G r g).sh by omega, hy1] at hv3
        exact Option.some.inj hv3
      subst hyv
      refine ⟨y, ?_, hy2, fun a haj => ?_⟩
      · rw [setArr_out newv cells n (j - o) (by omega)]
        have : (cells.toList.take n)[j - o]? = some y := by rw [htk]; exact hv1
        rw [List.getElem?_take, if_pos (by omega)] at this
        simpa using this
      · rcases T.get_write new c (o + n) j a haj with ⟨h3, _, _⟩ | ⟨_, h3⟩
        · omega
        · exact hy3 a h3
    · have hji : j - (o + n) < newv.length := by omega
      refine ⟨newv[j - (o + n)], ?_, h1 _ (List.getElem_mem hji), fun a haj => ?_⟩
      · have := setArr_in newv cells n (j - (o + n)) newv[j - (o + n)] (by omega) (List.getElem?_eq_getElem hji)
        rwa [show n + (j - (o + n)) = j - o by omega] at this
      · rcases T.get_write new c (o + n) j a haj with ⟨_, _, h3⟩ | ⟨h3, _⟩
        · obtain ⟨y, hy1, hy2⟩ := hnv.get _ a h3
          rw [List.getElem?_eq_getElem hji] at hy1; cases hy1
          exact hy2
        · omega
  obtain ⟨G', hG1, hG2, hch, hok⟩ := app_move (w := w) (ty := ty) (k0 := o) (k := o + n) (cN := setArr cells n newv) hAt.rel hAt.hp hrow (by omega) (by omega) hN hU
  have hext := hch.ext hAt.rel
  have hlo := lower_le h.lo r
  refine ⟨_, ⟨hch.rel hAt.rel hok, rfl, rfl, fun r' hr => hAt.kn r' hr, hAt.met.ext hext, hAt.ok.set _ _, hAt.out⟩, ⟨hext, fun r' hr => .inl hr, hch.keep hAt.rel hlo.2, hlo.1, Nat.le_refl _⟩, ?_⟩
  simp only [V]
  refine ⟨⟨hkn.1, fun row hr => ?_⟩, ⟨w.heap.size, 0, none⟩, cap2, rfl, ⟨hcap, hmax⟩, fun _ => ?_⟩
  · have := hU.2 row hr; subst this; exact Nat.le_refl _
  · show (G' r (g + 1)).sh ≤ o ∧ o + (n + m) * 1 ≤ (G' r (g + 1)).lim ∧ (cap2 = 0 ∨ (⟨w.heap.size, 0, none⟩ : Addr) = ⟨(G' r (g + 1)).blk, o - (G' r (g + 1)).sh, none⟩ ∧ o - (G' r (g + 1)).sh + cap2 * 1 ≤ hlen (w.heap.push (.cells (setArr cells n newv) ty (0, 0))) (G' r (g + 1)).blk)
    rw [hG2]
    refine ⟨Nat.le_refl _, by show _ ≤ o + n + new.length; omega, .inr ⟨by rw [Nat.sub_self], ?_⟩⟩
    have : (w.heap.push (Obj.cells (setArr cells n newv) ty (0, 0)))[w.heap.size]? = some (.cells (setArr cells n newv) ty (0, 0)) := by simp
    show o - o + cap2 * 1 ≤ hlen _ w.heap.size
    rw [sizeOfBlock this, setArr_size]; omega
/-- The world of a first row. -/
theorem buf_first {S : St} {h : Heap} {w : World} {m cap2 : Nat} {new : List AV} {newv : List Value} {M : Array Value} {ty : TypeId} (hAt : At GI S h w) (hl : new.length = m) (hnv : VL S new newv) (h1 : ∀ x ∈ newv, x.oneCell' = true) (hM : M.size = cap2) (hcap : m ≤ cap2) (hmax : cap2 ≤ 9223372036854775807) :
    ∃ SA, At GI SA (applyU h h.next (Nat.succ h.next) (.new (mkCells new))) { w with heap := w.heap.push (.cells (setArr M 0 newv) ty (0, 0)) } ∧ Behind S h SA (applyU h h.next (Nat.succ h.next) (.new (mkCells new))) ∧ V SA (.slice h.next 0 0 m 1) (.slice (some ⟨w.heap.size, 0, none⟩) m cap2) := by
  have hvl := hnv.length
  have hU := updOK_apply hAt.look h.next (Nat.succ h.next) (.new (mkCells new))
  have hat : ¬ S.kn h.next := fun hk => Nat.lt_irrefl _ (hAt.kn _ hk)
  have hd := Done.newCells (P := default) (S := S) (w := w) (at_ := h.next) (look' := (applyU h h.next (Nat.succ h.next) (.new (mkCells new))).rows.get) (l := new) (v := .slice h.next 0 0 m 1) (cB := setArr M 0 newv) (ty := ty) (fz := (0, 0)) (x := .slice (some ⟨w.heap.size, 0, none⟩) m cap2)
    (w' := { w with heap := w.heap.push (.cells (setArr M 0 newv) ty (0, 0)) }) (m := do let _ ← newObj (.cells (setArr M 0 newv) ty (0, 0)); pure (.value (.slice (some ⟨w.heap.size, 0, none⟩) m cap2))) hAt.rel hAt.hp hat hU (by simp) rfl (.inl (Nat.le_refl _)) (by rw [setArr_size]; omega)
    (fun i a ha => by
      obtain ⟨y, hy1, hy2⟩ := hnv.get i a ha
      refine ⟨y, ?_, h1 y (List.mem_of_getElem? hy1), hy2⟩
      have := setArr_in newv M 0 i y (by omega) hy1
      rwa [Nat.zero_add] at this)
    (fun _ => by
      simp only [V]
      refine ⟨⟨.inr rfl, fun row hrow => ?_⟩, _, cap2, rfl, ⟨hcap, hmax⟩, fun _ => ?_⟩
      · have := hU.2 row hrow; subst this; exact Nat.le_refl _
      · have hG : (S.add (applyU h h.next (Nat.succ h.next) (.new (mkCells new))).rows.get h.next ⟨w.heap.size, 0, new.length⟩ (.cells (setArr M 0 newv) ty (0, 0))).G h.next 0 = ⟨w.heap.size, 0, new.length⟩ := by
          show (if h.next = h.next then _ else _) = _; rw [if_pos rfl]
        rw [hG]
        refine ⟨Nat.le_refl _, by show 0 + m * 1 ≤ new.length; omega, .inr ⟨rfl, ?_⟩⟩
        show 0 - 0 + cap2 * 1 ≤ hlen (S.hp.push _) w.heap.size
        have : (S.hp.push (Obj.cells (setArr M 0 newv) ty (0, 0)))[w.heap.size]? = some (.cells (setArr M 0 newv) ty (0, 0)) := by rw [hAt.hp]; simp
        rw [sizeOfBlock this, setArr_size, hM]; omega)
  obtain ⟨S', w', nx, hr, g1, g2, g3, g4, g5, g6, g7, hso⟩ := hd
  have hw' : w' = { w with heap := w.heap.push (.cells (setArr M 0 newv) ty (0, 0)) } ∧ nx = .value (.slice (some ⟨w.heap.size, 0, none⟩) m cap2) := by
    simp only [Sem.run_bind, run_newObj, Result.andThen_ok, Sem.run_pure] at hr
    injection hr with h2 h3
    exact ⟨h3.symm, h2.symm⟩
  obtain ⟨rfl, rfl⟩ := hw'
  refine ⟨S', ⟨g2, g1, g4, fun r hr => ?_, hAt.met.ext g3, hAt.ok.apply, hAt.out.trans hso⟩, ⟨g3, fun r hr => ?_, g6 _ trivial, Nat.le_refl _, Nat.le_succ _⟩, ?_⟩
  · rcases (g5 r).1 hr with hk | ⟨_, rfl⟩
    · exact Nat.lt_succ_of_lt (hAt.kn r hk)
    · exact Nat.lt_succ_self _
  · rcases (g5 r).1 hr with hk | ⟨_, rfl⟩
    · exact .inl hk
    · exact .inr ⟨Nat.le_refl _, Nat.lt_succ_self _⟩
  · rcases g7 with ⟨x, hx, hV⟩ | ⟨hx, _⟩
    · injection hx with hx; rw [hx]; exact hV
    · cases hx
end Go.CE

namespace Go.CE
open Go.Proofs Go.Shelf Go.RowKit
variable {GI : GInv} {P : Program}

theorem buf3_some {cs : List AV} {bv : AV} (h : buf3 cs = some bv) : ∃ k, cs = [bv, .int .i64 0, .int .i8 k] := by
  unfold buf3 at h
  split at h
  · rename_i b z k
    obtain ⟨h1, h2⟩ := bsel_none h
    cases h2
    rw [ieq_eq] at h1
    have : z = 0 := by simpa using h1
    subst this
    exact ⟨k, rfl⟩
  · cases h
theorem buf_core {S : St} {h h' : Heap} {w : World} {r g o m : Nat} {k : Bool} {new : List AV} {newv : List Value} {vp vy ret : Value} {f : FuncId} {ty : TypeId} (hAt : At GI S h w) (hp : V S (.ptr r g o m) vp) (hnv : VL S new newv) (h1 : ∀ x ∈ newv, x.oneCell' = true)
    (hb : bufHook k h r g o m new = some h')
    (Knil : k = true → ∀ (b q : Nat) (lr : Int), b < w.heap.size → w.cell? ⟨b, q, none⟩ = some (.slice none 0 0) → w.cell? ⟨b, q + 1, none⟩ = some (.int .i64 0) → w.cell? ⟨b, q + 2, none⟩ = some (.int .i8 lr) →
      w.frozen? ⟨b, q, none⟩ = false → w.frozen? ⟨b, q + 1, none⟩ = false → w.frozen? ⟨b, q + 2, none⟩ = false → 1 ≤ newv.length → newv.length ≤ 64 →
      Calls P f #[.pointer (some ⟨b, q, none⟩), vy] w fun e w' => e = .returned ret ∧ ∃ M : Array Value, M.size = 64 ∧
        w'.heap = (setAll w.heap.size 0 newv 0 (((w.setCell ⟨b, q + 2, none⟩ (.int .i8 0)).setCell ⟨b, q, none⟩ (.slice (some ⟨w.heap.size, 0, none⟩) newv.length 64)).alloc (.cells M ty))).heap ∧ SameOut w w')
    (Kroom : ∀ (b q g' off l cap : Nat) (lr : Int) (cg : Array Value) (tg : TypeId) (fz : Nat × Nat), g' ≠ b → w.cell? ⟨b, q, none⟩ = some (.slice (some ⟨g', off, none⟩) l cap) → w.cell? ⟨b, q + 2, none⟩ = some (.int .i8 lr) →
      w.frozen? ⟨b, q, none⟩ = false → w.frozen? ⟨b, q + 2, none⟩ = false → cap ≤ 9223372036854775807 → 1 ≤ newv.length → l + newv.length ≤ cap → w.heap[g']? = some (.cells cg tg fz) → Unfrozen cg fz → off + cap ≤ cg.size →
      Calls P f #[.pointer (some ⟨b, q, none⟩), vy] w fun e w' => e = .returned ret ∧
        w'.heap = (setAll g' (off + l) newv 0 ((w.setCell ⟨b, q + 2, none⟩ (.int .i8 0)).setCell ⟨b, q, none⟩ (.slice (some ⟨g', off, none⟩) (l + newv.length) cap))).heap ∧ SameOut w w')
    (Kfull : ∀ (b q g' off l cap : Nat) (lr : Int) (xs : List Value), b < w.heap.size → g' < w.heap.size → g' ≠ b → w.cell? ⟨b, q, none⟩ = some (.slice (some ⟨g', off, none⟩) l cap) → w.cell? ⟨b, q + 1, none⟩ = some (.int .i64 0) → w.cell? ⟨b, q + 2, none⟩ = some (.int .i8 lr) →
      w.frozen? ⟨b, q, none⟩ = false → w.frozen? ⟨b, q + 1, none⟩ = false → w.frozen? ⟨b, q + 2, none⟩ = false → xs.length = l → (∀ j v, xs[j]? = some v → w.cell? ⟨g', off + j, none⟩ = some v) → (∀ v ∈ xs, v.oneCell' = true) →
      l ≠ 0 → l ≤ cap → cap ≤ 9223372036854775807 → 1 ≤ newv.length → cap < l + newv.length → l + newv.length ≤ 140737488355328 →
      Calls P f #[.pointer (some ⟨b, q, none⟩), vy] w fun e w' => e = .returned ret ∧ ∃ (cap2 : Nat) (cells : Array Value) (W1 : World), cells.size = cap2 ∧ cells.toList.take l = xs ∧ l + newv.length ≤ cap2 ∧ cap2 ≤ 9223372036854775807 ∧
        W1.heap = (w.setCell ⟨b, q + 2, none⟩ (.int .i8 0)).heap.push (.cells cells ty (0, 0)) ∧
        w'.heap = (setAll w.heap.size l newv 0 (((W1.setCell ⟨b, q, none⟩ (.slice (some ⟨w.heap.size, 0, none⟩) l cap2)).setCell ⟨b, q + 1, none⟩ (.int .i64 0)).setCell ⟨b, q, none⟩ (.slice (some ⟨w.heap.size, 0, none⟩) (l + newv.length) cap2))).heap ∧ SameOut w w') :
    Calls P f #[vp, vy] w fun e w' => ∃ x, e = .returned x ∧ x = ret ∧ ∃ S', At GI S' h' w' ∧ Behind S h S' h' := by
  obtain ⟨h3m, hb1⟩ := bsel_none hb
  have h3 : 3 ≤ m := ble_le h3m
  obtain ⟨cs3, hrd, hb2⟩ := obind_eq hb1
  obtain ⟨bv, hbv, hb3⟩ := obind_eq hb2
  obtain ⟨p, happ, htl⟩ := obind_eq hb3
  obtain ⟨nv, hA⟩ := p
  obtain ⟨lr, hcs⟩ := buf3_some hbv
  obtain ⟨hgd, happ1⟩ := bsel_none happ
  obtain ⟨pa, happ2, happ3⟩ := obind_eq happ1
  obtain ⟨nv', u⟩ := pa
  simp only [Option.some.injEq, Prod.mk.injEq] at happ3
  obtain ⟨rfl, rfl⟩ := happ3
  have hlnew : llen new = newv.length := by rw [llen_eq, hnv.length]
  have hl0 : new.length = newv.length := hnv.length
  rw [hlnew] at hgd happ2
  -- the buffer's own row
  have hp0 := hp
  simp only [V] at hp
  obtain ⟨hk, ad, hvp, hlv⟩ := hp
  rw [← hAt.look] at hrd
  obtain ⟨hlive, hl3, vs, hvl, hv1, hvc⟩ := readRow hAt.rel hk hrd (fun hl => ⟨(hlv hl).2.1, by have := (hlv hl).2.2; omega⟩)
  obtain ⟨had, hsh, hlim⟩ := hlv hlive
  subst hvp
  obtain ⟨b, hbE⟩ : ∃ b, b = (S.G r g).blk := ⟨_, rfl⟩
  obtain ⟨q, hqE⟩ : ∃ q, q = o - (S.G r g).sh := ⟨_, rfl⟩
  rw [← hbE, ← hqE] at had hvc
  subst had
  rw [hcs] at hvl
  match vs, hvl with
  | [v0, v1, v2], hvl =>
  simp only [VL, V] at hvl
  obtain ⟨hV0, hV1, hV2, _⟩ := hvl
  subst hV1 hV2
  have hc0 := (hvc 0 v0 rfl).1
  have hc1 := (hvc 1 _ rfl).1
  have hc2 := (hvc 2 _ rfl).1
  rw [Nat.add_zero] at hc0
  rw [hAt.hp, ← cell_hcell] at hc0 hc1 hc2
  obtain ⟨rw0, hrw, hrl⟩ := hlive
  obtain ⟨row1, k1, k2⟩ := obind_eq hrd
  obtain ⟨pp, k3, k4⟩ := obind_eq k2
  have := cellsRow_some k3; subst this
  have hrw' := hrw.symm.trans k1
  cases hrw'
  have hmm : pp.2.2.1 ≤ g ∧ g ≤ pp.2.2.2 := hrl
  obtain ⟨_, _, cB, tb, fb, hBk, hfz, hcells⟩ := (hAt.rel.row r _ k1).2.2 g hmm.1 hmm.2
  rw [← hbE, hAt.hp] at hBk
  have hsize : q + 3 ≤ cB.size := by
    obtain ⟨x, hx, _⟩ := hcells (o + 2) (by omega) (by omega)
    have := (Array.getElem?_eq_some_iff.1 hx).1
    omega
  have hbw : b < w.heap.size := (Array.getElem?_eq_some_iff.1 hBk).1
  have f0 := frozen_no hBk hfz (i := q) (by omega)
  have f1 := frozen_no hBk hfz (i := q + 1) (by omega)
  have f2 := frozen_no hBk hfz (i := q + 2) (by omega)
  have hcb1 : cB[q + 1]? = some (.int .i64 0) := by
    have := hc1
    rw [cell_hcell] at this
    unfold hcell at this
    rw [hBk] at this; exact this
  -- the end of each road
  have fin : ∀ (SA : St) (wA w' : World) (s : Value), s.oneCell' = true → At GI SA (applyU h h.next (Nat.succ h.next) u) wA → Behind S h SA (applyU h h.next (Nat.succ h.next) u) → V SA nv' s →
      w'.heap = (setAll b q [s, .int .i64 0, .int .i8 0] 0 wA).heap → SameOut wA w' → ∃ S', At GI S' h' w' ∧ Behind S h S' h' := fun SA wA w' s hs hAtA hBA hVA hw' hso =>
    buf_tail hAt.rel hAtA hBA (V.ext hBA.ext hp0) h3 hVA hs htl w' hw' hso
  have hlive2 : S.live r g := ⟨_, hrw, hrl⟩
  unfold bufGuard at hgd
  split at hgd
  · -- no row yet
    obtain ⟨hk1, hg2⟩ := wf_two hgd
    obtain ⟨hg3, hg4⟩ := wf_two hg2
    have hm1 : 1 ≤ newv.length := ble_le hg3
    have hm64 : newv.length ≤ 64 := ble_le hg4
    simp only [V] at hV0
    subst hV0
    have ha : bsel (Nat.beq newv.length 0) (some (AV.nilslice, Upd.keep)) (some (AV.slice h.next 0 0 newv.length 1, Upd.new (mkCells new))) = some (nv', u) := happ2
    have hbz : Nat.beq newv.length 0 = false := by
      cases hbz : Nat.beq newv.length 0 with
      | false => rfl
      | true => have := beq_eq hbz; omega
    rw [hbz, bsel_false] at ha
    cases ha
    refine (Knil hk1 b q lr hbw hc0 hc1 hc2 f0 f1 f2 hm1 hm64).mono fun e w' hx => ?_
    obtain ⟨he, M, hM, hw', hso⟩ := hx
    have hw2 := nil_heap (new := newv) hBk hcb1 hw'
    obtain ⟨SA, a1, a2, a3⟩ := buf_first (GI := GI) (ty := ty) hAt hl0 hnv h1 hM hm64 (by omega)
    exact ⟨ret, he, rfl, fin SA _ w' _ rfl a1 a2 a3 hw2 ⟨hso.1, hso.2⟩⟩
  · rename_i rb gb ob n e
    cases hrr : Nat.beq r rb with
    | true => rw [hrr] at hgd; cases hgd
    | false =>
      rw [hrr, bsel_false] at hgd
      obtain ⟨hg1, hg2⟩ := wf_two hgd
      have he1 : e = 1 := beq_eq hg1
      subst he1
      obtain ⟨hg3, hg4⟩ := wf_two hg2
      obtain ⟨hg5, hg6⟩ := wf_two hg4
      have hn1 : 1 ≤ n := ble_le hg3
      have hm1 : 1 ≤ newv.length := ble_le hg5
      have hlim6 : n + newv.length ≤ 1099511627776 := ble_le hg6
      have hV0' := hV0
      simp only [V] at hV0
      obtain ⟨hkb, adb, cap, hv0, hnc, hlvb⟩ := hV0
      have happ4 := happ2
      rw [← hAt.look] at happ4
      obtain ⟨c, len, gmin, hrowb, hgm, hnv', hu⟩ := appendS_slice (by omega) happ4 hl0
      have hliveb : S.live rb gb := ⟨_, hrowb, hgm, Nat.le_refl _⟩
      obtain ⟨hshb, hlimb, hcb⟩ := hlvb hliveb
      obtain ⟨_, _, cG, tg, fg, hBg, hfg, hcellsg⟩ := (hAt.rel.row rb _ hrowb).2.2 gb hgm (Nat.le_refl _)
      have hcb' : adb = ⟨(S.G rb gb).blk, ob - (S.G rb gb).sh, none⟩ ∧ ob - (S.G rb gb).sh + cap * 1 ≤ hlen S.hp (S.G rb gb).blk := by
        rcases hcb with hcb | hcb
        · omega
        · exact hcb
      obtain ⟨hadb, hcapb⟩ := hcb'
      obtain ⟨g', hgE⟩ : ∃ g', g' = (S.G rb gb).blk := ⟨_, rfl⟩
      obtain ⟨off, hoE⟩ : ∃ off, off = ob - (S.G rb gb).sh := ⟨_, rfl⟩
      rw [← hgE, ← hoE] at hadb hcapb
      subst hadb
      rw [sizeOfBlock (hgE ▸ hBg)] at hcapb
      rw [← hgE, hAt.hp] at hBg
      subst hv0
      have hgb : g' ≠ b := fun e => by
        have := (hAt.rel.inj rb gb r g hliveb hlive2 (by rw [← hgE, ← hbE]; exact e)).1
        exact beq_ne hrr this.symm
      have hgl : g' < w.heap.size := (Array.getElem?_eq_some_iff.1 hBg).1
      by_cases hroom : n + newv.length ≤ cap
      · refine (Kroom b q g' off n cap lr cG tg fg hgb hc0 hc2 f0 f2 hnc.2 hm1 hroom hBg hfg (by omega)).mono fun e w' hx => ?_
        obtain ⟨he, hw', hso⟩ := hx
        have hw2 := hw'.trans (place_heap (k := off + n) (new := newv) hgb hBk hBg hcb1)
        obtain ⟨SA, a1, a2, a3⟩ := buf_place hAt hV0' (by omega) happ2 hl0 hnv h1 hroom hBg hfg
        have hsa := setAll_out (b := g') (o := off + n) newv 0 w
        exact ⟨ret, he, rfl, fin SA _ w' _ rfl a1 a2 a3 hw2 ⟨hso.1.trans hsa.1.symm, hso.2.trans hsa.2.symm⟩⟩
      · obtain ⟨xs, hxsE⟩ : ∃ xs : List Value, xs = (cG.toList.drop off).take n := ⟨_, rfl⟩
        have hxg : ∀ j, j < n → ∃ v, xs[j]? = some v ∧ w.cell? ⟨g', off + j, none⟩ = some v ∧ v.oneCell' = true := fun j hj => by
          obtain ⟨y, hy1, hy2, _⟩ := hcellsg (ob + j) (by omega) (by omega)
          rw [show ob + j - (S.G rb gb).sh = off + j by omega] at hy1
          refine ⟨y, ?_, ?_, hy2⟩
          · rw [hxsE, List.getElem?_take, if_pos hj, List.getElem?_drop]; simpa using hy1
          · rw [cell_hcell]; unfold hcell; rw [hBg]; exact hy1
        have hxl : xs.length = n := by
          have h4 : xs.length ≤ n := by rw [hxsE, List.length_take]; omega
          obtain ⟨y, hy1, _⟩ := hxg (n - 1) (by omega)
          have := (List.getElem?_eq_some_iff.1 hy1).1
          omega
        have hsrc : ∀ j v, xs[j]? = some v → w.cell? ⟨g', off + j, none⟩ = some v := fun j v hj => by
          have hjl : j < n := by rw [← hxl]; exact (List.getElem?_eq_some_iff.1 hj).1
          obtain ⟨y, hy1, hy2, _⟩ := hxg j hjl
          rw [hj] at hy1; cases hy1; exact hy2
        have hx1 : ∀ v ∈ xs, v.oneCell' = true := fun v hv => by
          obtain ⟨j, hjl, hj⟩ := List.getElem_of_mem hv
          obtain ⟨y, hy1, _, hy3⟩ := hxg j (by omega)
          rw [List.getElem?_eq_getElem hjl, hj] at hy1; cases hy1; exact hy3
        refine (Kfull b q g' off n cap lr xs hbw hgl hgb hc0 hc1 hc2 f0 f1 f2 hxl hsrc hx1 (by omega) hnc.1 hnc.2 hm1 (by omega) (by omega)).mono fun e w' hx => ?_
        obtain ⟨he, cap2, cells, W1, hcs2, htk, hcap2, hmax, hW1, hw', hso⟩ := hx
        have hw2 := move_heap (new := newv) hBk hcb1 hW1 hw'
        obtain ⟨SA, a1, a2, a3⟩ := buf_move (ty := ty) hAt hV0' (by omega) (by omega) happ2 hl0 hnv h1 (fun j hj => by obtain ⟨y, h5, h6, _⟩ := hxg j hj; exact ⟨y, h5, h6⟩) hcs2 htk hcap2 hmax
        exact ⟨ret, he, rfl, fin SA _ w' _ rfl a1 a2 a3 hw2 ⟨hso.1, hso.2⟩⟩
  · cases hgd
end Go.CE

namespace Go.CE
open Go.Proofs Go.Shelf Go.RowKit
variable {GI : GInv} {P : Program}

theorem obind_obind {α β γ : Type} (x : Option α) (f : α → Option β) (g : β → Option γ) : obind (obind x f) g = obind x fun a => obind (f a) g := by cases x <;> rfl
theorem obind_bsel {α β : Type} (c : Bool) (x y : Option α) (f : α → Option β) : obind (bsel c x y) f = bsel c (obind x f) (obind y f) := by cases c <;> rfl
theorem bufHook_good {k : Bool} {r g o m b : Nat} {new : List AV} {ret : AV} {h : Heap} (hb : b ≤ h.next) : GoodAt Prod.mk b (fun h => obind (bufHook k h r g o m new) fun h' => some (ret, h')) h := by
  have e : (fun h : Heap => obind (bufHook k h r g o m new) fun h' => some (ret, h')) = fun h => bsel (Nat.ble 3 m) (obind (rdRow h.rows.get r g o 3) fun cs => obind (buf3 cs) fun bv => bsel (bufGuard k r bv (llen new))
      (obind (appendS h.rows.get h.next 1 bv new (llen new)) fun p => (fun h1 : Heap => obind (wrRow h1.rows.get r g o [p.1, .int .i64 0, .int .i8 0]) fun u => some (ret, applyU h1 0 h1.next u)) (applyU h h.next (Nat.succ h.next) p.2)) none) none := by
    funext h
    unfold bufHook bufApp bufTail
    simp only [obind_obind, obind_bsel, obind_none, obind_some]
  rw [e]
  refine GoodAt.bsel (GoodAt.read (g := fun h => rdRow h.rows.get r g o 3) (fun x h2 hf => rdRow_mono hf.le) fun cs _ => GoodAt.const fun bv _ => GoodAt.bsel ?_ GoodAt.none) GoodAt.none
  refine GoodAt.next (g := fun N h => obind (appendS h.rows.get N 1 bv new (llen new)) fun p => (fun h1 : Heap => obind (wrRow h1.rows.get r g o [p.1, .int .i64 0, .int .i8 0]) fun u => some (ret, applyU h1 0 h1.next u)) (applyU h N (Nat.succ N) p.2)) ?_
  refine GoodAt.read (g := fun h' => appendS h'.rows.get h.next 1 bv new (llen new)) (fun x h2 hf => appendS_mono hf.le) fun p hp => ?_
  obtain ⟨nv, u⟩ := p
  have hu : ∀ r row, u = .set r row → ∃ row0, h.rows.get r = some row0 := fun r row e => okr_append _ _ _ (e ▸ hp)
  refine GoodAt.step (T := fun h' => applyU h' h.next (Nat.succ h.next) u) (f := fun h1 => obind (wrRow h1.rows.get r g o [nv, .int .i64 0, .int .i8 0]) fun u => some (ret, applyU h1 0 h1.next u))
    (After.apply h hb (Nat.le_succ _) hu) (fun x h2 hx => hx.apply rfl hb hu) ?_
  refine GoodAt.read (g := fun h1 => wrRow h1.rows.get r g o [nv, .int .i64 0, .int .i8 0]) (fun x h2 hf => wrRow_mono hf.le) fun u2 hu2 => ?_
  unfold wrRow at hu2
  obtain ⟨row0, k1, k2⟩ := obind_eq hu2
  obtain ⟨pp, _, k3⟩ := obind_eq k2
  obtain ⟨_, k4⟩ := bsel_none k3
  cases k4
  exact GoodAt.step (T := fun h1 => ⟨h1.rows.set r _, h1.next, lower h1.lo r⟩) (f := fun h1 => some (ret, h1)) (After.set _ _ k1) (fun x h2 hx => hx.set _ k1) (GoodAt.ret (mk := Prod.mk))

noncomputable def hkWB : Hook := fun args h => match args with
  | [.ptr r g o m, .int .u8 c] => obind (bufHook true h r g o m [.int .u8 c]) fun h' => some (.niliface, h')
  | _ => none
noncomputable def hkWS : Hook := fun args h => match args with
  | [.ptr r g o m, .str n b] => obind (bufHook false h r g o m (bytesAV (sBytes n b))) fun h' => some (.tuple [.int .i64 (.ofNat n), .niliface], h')
  | _ => none
theorem hkWB_good (args : List AV) (b : Nat) (h : Heap) (hb : b ≤ h.next) : GoodAt Prod.mk b (hkWB args) h := by
  unfold hkWB
  split
  · exact bufHook_good hb
  · exact GoodAt.none
theorem hkWS_good (args : List AV) (b : Nat) (h : Heap) (hb : b ≤ h.next) : GoodAt Prod.mk b (hkWS args) h := by
  unfold hkWS
  split
  · exact bufHook_good hb
  · exact GoodAt.none
theorem max_of {cap : Nat} (h : cap ≤ 9223372036854775807) : cap ≤ maxLen := by unfold maxLen; omega
theorem of_max {cap : Nat} (h : cap ≤ maxLen) : cap ≤ 9223372036854775807 := by unfold maxLen at h; omega
theorem hkWB_ok {ρ : Ren} {fn : Func} {c : Code} (L : LaysM.n179 P ρ) (hf : P.funcs[ρ.f 179]? = some fn) (hn : (fn.name == "runtime.NumGoroutine") = false) (hb : fn.body = some c)
    {args : List AV} {h : Heap} {v : AV} {h' : Heap} (he : hkWB args h = some (v, h')) {F : Fence} (hF : Free F) {S : St} {w : World} {vs : Array Value} (hAt : At GI S h w) (hv : VL S args vs.toList) :
    Upon F P (fun x w' => ∃ S', At GI S' h' w' ∧ Behind S h S' h' ∧ V S' v x) ((callFunc (ρ.f 179) vs).run P w) := by
  unfold hkWB at he
  split at he
  · rename_i r g o m x
    obtain ⟨h1, h2, h3⟩ := obind_eq he
    cases h3
    obtain ⟨vx, vy, hvs, hx, hy⟩ := hv.two'
    simp only [V] at hy
    rw [hvs, hy]
    refine upon_calls hF hf hn hb ((buf_core (P := P) (ret := .nilIface) (vy := .int .u8 x) (newv := [.int .u8 x]) (ty := ρ.t 5) (f := ρ.f 179) hAt hx (by simp [VL, V]) (by simp [Value.oneCell']) h2 ?_ ?_ ?_).mono fun e w' ⟨y, hy1, hy2, S', k1, k2⟩ => ⟨y, hy1, S', k1, k2, by rw [hy2]; simp only [V]⟩)
    · intro _ b q lr q1 q2 q3 q4 q5 q6 q7 _ _
      refine (buf_WriteByte_nil L b q lr x w q1 q2 q3 q4 q5 q6 q7).mono fun e w' ⟨a1, M, a2, a3⟩ => ⟨a1, M, a2, a3⟩
    · intro b q g' off l cap lr cg tg fz q1 q2 q3 q4 q5 q6 _ q8 q9 q10 q11
      have q8' : l + 1 ≤ cap := q8
      have hlt : off + l < cg.size := by omega
      exact buf_WriteByte_room L b q g' off l cap lr x cg[off + l] w q1 q2 q3 q4 q5 (max_of q6) q8' (by rw [cell_hcell]; unfold hcell; rw [q9]; exact Array.getElem?_eq_getElem hlt) (frozen_no q9 q10 hlt)
    · intro b q g' off l cap lr xs q1 q2 q3 q4 q5 q6 q7 q8 q9 q10 q11 q12 q13 q14 q15 _ q17 q18
      refine (buf_WriteByte_full L b q g' off l cap lr x xs w q1 q2 q3 q4 q5 q6 q7 q8 q9 q10 q11 q12 q13 q14 (max_of q15) q17 q18).mono fun e w' ⟨a1, cap2, cells, W1, a2, a3, a4, a5, a6, a7⟩ => ⟨a1, cap2, cells, W1, a2, a3, a4, of_max a5, a6, a7⟩
  · cases he
theorem bytes_VL {S : St} : ∀ l : List UInt8, VL S (bytesAV l) (Lib.byteCells l)
  | [] => by show VL S [] []; simp only [VL]
  | b :: l => by
    show VL S (.int .u8 (.ofNat b.toNat) :: bytesAV l) (.int .u8 (b.toNat : Int) :: Lib.byteCells l)
    simp only [VL, V]; exact ⟨rfl, bytes_VL l⟩
theorem hkWS_ok {ρ : Ren} {fn : Func} {c : Code} (L : LaysM.n178 P ρ) (hf : P.funcs[ρ.f 178]? = some fn) (hn : (fn.name == "runtime.NumGoroutine") = false) (hb : fn.body = some c)
    {args : List AV} {h : Heap} {v : AV} {h' : Heap} (he : hkWS args h = some (v, h')) {F : Fence} (hF : Free F) {S : St} {w : World} {vs : Array Value} (hAt : At GI S h w) (hv : VL S args vs.toList) :
    Upon F P (fun x w' => ∃ S', At GI S' h' w' ∧ Behind S h S' h' ∧ V S' v x) ((callFunc (ρ.f 178) vs).run P w) := by
  unfold hkWS at he
  split at he
  · rename_i r g o m n bb
    obtain ⟨h1, h2, h3⟩ := obind_eq he
    cases h3
    obtain ⟨vx, vy, hvs, hx, hy⟩ := hv.two'
    simp only [V] at hy
    obtain ⟨s, hs, hs1, hs2⟩ := hy
    rw [hvs, hs]
    rw [← hs1, ← hs2, sBytes_eq] at h2
    have hsz : (Lib.byteCells s.data.toList).length = s.size := by rw [Lib.byteCells_length, ← Lib.size_eq]
    have hn' : n = s.size := by rw [← hs1]; exact size_data s
    refine upon_calls hF hf hn hb ((buf_core (P := P) (ret := .tuple #[.int .i64 s.size, .nilIface]) (vy := .string s) (newv := Lib.byteCells s.data.toList) (ty := ρ.t 5) (f := ρ.f 178) hAt hx (bytes_VL _) (Lib.byteCells_one _) h2 ?_ ?_ ?_).mono
      fun e w' ⟨y, hy1, hy2, S', k1, k2⟩ => ⟨y, hy1, S', k1, k2, by rw [hy2, hn']; exact V.pair (by simp only [V]; rfl) (by simp only [V])⟩)
    · intro hk; cases hk
    · intro b q g' off l cap lr cg tg fz q1 q2 q3 q4 q5 q6 q7 q8 q9 q10 q11
      rw [hsz] at q7 q8 ⊢
      exact buf_WriteString_room L b q g' off l cap lr s cg tg fz w q1 q2 q3 q4 q5 (max_of q6) q7 q8 q9 q10 q11
    · intro b q g' off l cap lr xs q1 q2 q3 q4 q5 q6 q7 q8 q9 q10 q11 q12 q13 q14 q15 q16 q17 q18
      rw [hsz] at q16 q17 q18 ⊢
      refine (buf_WriteString_full L b q g' off l cap lr s xs w q1 q2 q3 q4 q5 q6 q7 q8 q9 q10 q11 q12 q13 q14 (max_of q15) q16 q17 q18).mono fun e w' ⟨a1, cap2, cells, W1, a2, a3, a4, a5, a6, a7⟩ => ⟨a1, cap2, cells, W1, a2, a3, a4, of_max a5, a6, a7⟩
  · cases he
end Go.CE
