import Derived.Test.YthpekfoabieiaaaGreatDoorEa
import Derived.Laws.Cells
import Derived.Laws.Entries
import Derived.Laws.Strings
import Derived.Lib.Strings
import Derived.Laws.StructEq
import Derived.Laws.BytesString
set_option linter.all false
namespace Go.CE

def Upd.isNew : Upd → Prop
  | .new _ => True
  | _ => False
def Upd.above (lo : Nat) : Upd → Prop
  | .set r _ => lo ≤ r
  | _ => True
/-- How the rows are looked at behind a change. -/
def UpdOK (look look' : Look) (at_ : Nat) : Upd → Prop
  | .keep => look' = look
  | .new row => (∀ r, r ≠ at_ → look' r = look r) ∧ ∀ x, look' at_ = some x → x = row
  | .set r row => (∀ r', r' ≠ r → look' r' = look r') ∧ ∀ x, look' r = some x → x = row

/-- The system and the output are as they were. -/
def SameOut (w w' : World) : Prop := w'.os = w.os ∧ w'.output = w.output
theorem SameOut.refl (w : World) : SameOut w w := ⟨rfl, rfl⟩
theorem SameOut.trans {a b c : World} (h : SameOut a b) (g : SameOut b c) : SameOut a c := ⟨g.1.trans h.1, g.2.trans h.2⟩
/-- What one operation must show. -/
def Done (P : Program) (S : St) (w : World) (at_ : Nat) (look' : Look) (u : Upd) (v : AV) (m : Sem Next) : Prop :=
  ∃ (S' : St) (w' : World) (n : Next), m.run P w = .ok n w' ∧ S'.hp = w'.heap ∧ Rel S' ∧ Ext S S' ∧ S'.look = look' ∧
    (∀ r, S'.kn r ↔ S.kn r ∨ (u.isNew ∧ r = at_)) ∧ (∀ lo, u.above lo → Keep lo S S') ∧ ((∃ x, n = .value x ∧ V S' v x) ∨ (n = .skip ∧ v = .undef)) ∧ SameOut w w'

section
variable {P : Program} {S : St} {w : World} {at_ : Nat} {look' : Look}
theorem Done.keep {v : AV} {m : Sem Next} {x : Value} {w' : World} (hS : Rel S) (hw : S.hp = w.heap) (hl : look' = S.look)
    (hr : m.run P w = .ok (.value x) w') (hh : w'.heap = w.heap) (hv : V S v x) (hso : SameOut w w' := by exact ⟨rfl, rfl⟩) : Done P S w at_ look' .keep v m := by
  subst hl
  exact ⟨S, w', _, hr, by rw [hw, hh], hS, Ext.refl S, rfl, fun r => by simp [Upd.isNew], fun lo _ => Keep.refl lo S, .inl ⟨x, rfl, hv⟩, hso⟩
/-- A new row of cells. -/
theorem Done.newCells {l : List AV} {v : AV} {m : Sem Next} {x : Value} {w' : World} {cB : Array Value} {ty : TypeId} {fz : Nat × Nat} (hS : Rel S) (hw : S.hp = w.heap) (hat : ¬ S.kn at_)
    (hl : UpdOK S.look look' at_ (.new (mkCells l)))
    (hr : m.run P w = .ok (.value x) w') (hh : w'.heap = w.heap.push (.cells cB ty fz)) (hfz : fz.2 ≤ fz.1 ∨ cB.size ≤ fz.1) (hlen : l.length ≤ cB.size)
    (hc : ∀ (i : Nat) (a : AV), l[i]? = some a → ∃ v, cB[i]? = some v ∧ v.oneCell' = true ∧ V S a v)
    (hv : Ext S (S.add look' at_ ⟨w.heap.size, 0, l.length⟩ (.cells cB ty fz)) → V (S.add look' at_ ⟨w.heap.size, 0, l.length⟩ (.cells cB ty fz)) v x) (hso : SameOut w w' := by exact ⟨rfl, rfl⟩) :
    Done P S w at_ look' (.new (mkCells l)) v m := by
  obtain ⟨h1, h2⟩ := hl
  have hpl : (⟨w.heap.size, 0, l.length⟩ : PL).blk = S.hp.size := by rw [hw]
  have hx := Ext.add (o := .cells cB ty fz) hS hat h1 hpl
  refine ⟨S.add look' at_ ⟨w.heap.size, 0, l.length⟩ (.cells cB ty fz), w', _, hr, ?_, Rel.add hS hat h1 h2 hpl (fun _ => ?_), hx, rfl, fun r => by simp [St.add, Upd.isNew], fun lo _ => Keep.add lo hS hat h1, .inl ⟨x, rfl, hv hx⟩, hso⟩
  · show S.hp.push _ = _; rw [hw, hh]
  · have hG : ∀ g, (S.add look' at_ ⟨w.heap.size, 0, l.length⟩ (.cells cB ty fz)).G at_ g = ⟨w.heap.size, 0, l.length⟩ := fun g => by
      show (if at_ = at_ then _ else _) = _; rw [if_pos rfl]
    refine ⟨Nat.le_refl _, by rw [hG]; exact (llen_eq l).symm, fun g _ _ => ?_⟩
    rw [hG]
    refine ⟨by rw [llen_eq]; exact Nat.le_refl _, Nat.zero_le _, cB, ty, fz, ?_, hfz, fun j _ hj => ?_⟩
    · show (S.hp.push _)[w.heap.size]? = _; rw [hw]; simp
    · have hj' : j < l.length := hj
      obtain ⟨v, hv1, hv2, hv3⟩ := hc j l[j] (by simp [hj'])
      refine ⟨v, hv1, hv2, fun a ha => ?_⟩
      rcases T.get_write l _ _ _ _ ha with ⟨_, _, h3⟩ | ⟨_, h3⟩
      · rw [Nat.sub_zero, List.getElem?_eq_getElem hj'] at h3; cases h3
        exact V.ext hx hv3
      · cases h3
/-- A row that is no row of cells, and new. -/
theorem Done.newObj {row : Row} {o : Obj} {v : AV} {m : Sem Next} {x : Value} {w' : World} (hS : Rel S) (hw : S.hp = w.heap) (hat : ¬ S.kn at_)
    (hl : UpdOK S.look look' at_ (.new row)) (hr : m.run P w = .ok (.value x) w') (hh : w'.heap = w.heap.push o)
    (hok : Ext S (S.add look' at_ ⟨w.heap.size, 0, 0⟩ o) → RowOK (S.add look' at_ ⟨w.heap.size, 0, 0⟩ o) at_ row)
    (hv : Ext S (S.add look' at_ ⟨w.heap.size, 0, 0⟩ o) → V (S.add look' at_ ⟨w.heap.size, 0, 0⟩ o) v x) (hso : SameOut w w' := by exact ⟨rfl, rfl⟩) :
    Done P S w at_ look' (.new row) v m := by
  obtain ⟨h1, h2⟩ := hl
  have hpl : (⟨w.heap.size, 0, 0⟩ : PL).blk = S.hp.size := by rw [hw]
  have hx := Ext.add (o := o) hS hat h1 hpl
  exact ⟨S.add look' at_ ⟨w.heap.size, 0, 0⟩ o, w', _, hr, by show S.hp.push _ = _; rw [hw, hh], Rel.add hS hat h1 h2 hpl hok, hx, rfl, fun r => by simp [St.add, Upd.isNew], fun lo _ => Keep.add lo hS hat h1, .inl ⟨x, rfl, hv hx⟩, hso⟩
theorem Done.change {G' : Nat → Nat → PL} {r : Nat} {row row' : Row} {v : AV} {m : Sem Next} {n : Next} {w' : World} (hS : Rel S)
    (c : Change S look' G' w'.heap r row row') (hr : m.run P w = .ok n w')
    (hok : Ext S ⟨look', S.kn, G', w'.heap⟩ → RowOK ⟨look', S.kn, G', w'.heap⟩ r row')
    (hv : Ext S ⟨look', S.kn, G', w'.heap⟩ → (∃ x, n = .value x ∧ V ⟨look', S.kn, G', w'.heap⟩ v x) ∨ (n = .skip ∧ v = .undef)) (hso : SameOut w w' := by exact ⟨rfl, rfl⟩) :
    Done P S w at_ look' (.set r row') v m :=
  ⟨⟨look', S.kn, G', w'.heap⟩, w', n, hr, rfl, c.rel hS hok, c.ext hS, rfl, fun r => by simp [Upd.isNew], fun lo hlo => c.keep hS hlo, hv (c.ext hS), hso⟩

/-! ### cells of values -/
theorem V.cells {a : AV} {v : Value} (h : V S a v) {l : List AV} (hc : a.cells = some l) : VL S l v.cells.toList ∧ ∀ x ∈ v.cells.toList, x.oneCell' = true := by
  cases a <;> simp only [AV.cells] at hc <;> first
    | (cases hc; done)
    | (cases hc
       simp only [V] at h
       first
        | (obtain ⟨vs, rfl, h1, h2⟩ := h; exact ⟨h1, h2⟩)
        | (subst h; refine ⟨?_, ?_⟩ <;> simp [VL, V, Value.cells, Value.oneCell'])
        | (have h0 := h
           obtain ⟨x, rfl, h1⟩ := h
           refine ⟨?_, ?_⟩
           · simp only [Value.cells, VL, V, and_true]; first | exact ⟨_, rfl, h1⟩ | exact h0
           · simp [Value.cells, Value.oneCell'])
        | (have h0 := h
           obtain ⟨x, y, rfl, h1⟩ := h
           refine ⟨?_, ?_⟩
           · simp only [Value.cells, VL, V, and_true]; exact h0
           · simp [Value.cells, Value.oneCell'])
        | (have h0 := h
           obtain ⟨x, y, z, rfl, h1⟩ := h
           refine ⟨?_, ?_⟩
           · simp only [Value.cells, VL, V, and_true]; exact h0
           · simp [Value.cells, Value.oneCell'])
        | (have h0 := h
           obtain ⟨hk, x, rfl, h1⟩ := h
           refine ⟨?_, ?_⟩
           · simp only [Value.cells, VL, V, and_true]; exact h0
           · simp [Value.cells, Value.oneCell'])
        | (have h0 := h
           obtain ⟨hk, x, y, rfl, h1⟩ := h
           refine ⟨?_, ?_⟩
           · simp only [Value.cells, VL, V, and_true]; exact h0
           · simp [Value.cells, Value.oneCell']))
theorem V.not_bad {a : AV} {v : Value} (h : V S a v) (hb : a.isBad = false) : a ≠ .bad := fun e => by subst e; cases hb
theorem V.cv0 (S : St) (v : Value) : V S (cv0 v) v := by
  unfold Go.CE.cv0
  split <;> simp only [V]
  · exact ⟨_, rfl, rfl, rfl⟩
  · exact ⟨_, _, rfl, by simp [VL], by simp [VL]⟩
theorem anyBad_cons {v : AV} {l : List AV} : anyBad (v :: l) = (v.isBad || anyBad l) := by
  show Bool.rec (motive := fun _ => Bool) (anyBad l) true v.isBad = _
  cases v.isBad <;> rfl
theorem cv0_one {v : Value} (h : (cv0 v).isBad = false) : v.oneCell' = true := by
  cases v <;> first | rfl | (simp only [cv0] at h; cases h)
theorem VL.map_cv0 (S : St) : ∀ l : List Value, VL S (l.map cv0) l
  | [] => by simp [VL]
  | v :: l => by simp only [List.map_cons, VL]; exact ⟨V.cv0 S v, VL.map_cv0 S l⟩
theorem one_of_cv0 : ∀ {l : List Value}, anyBad (l.map cv0) = false → ∀ x ∈ l, x.oneCell' = true
  | [], _, x, hx => by simp at hx
  | v :: l, h, x, hx => by
    rw [List.map_cons, anyBad_cons] at h
    simp only [Bool.or_eq_false_iff] at h
    rcases List.mem_cons.1 hx with rfl | hx
    · exact cv0_one h.1
    · exact one_of_cv0 h.2 x hx
theorem V.cv (S : St) (v : Value) : V S (cv v) v := by
  unfold Go.CE.cv
  split
  · rename_i cs
    unfold aggOf'
    cases hb : anyBad (cs.toList.map Go.CE.cv0) with
    | true => simp only [V]
    | false => simp only [V]; exact ⟨cs, rfl, VL.map_cv0 S _, one_of_cv0 hb⟩
  · exact V.cv0 S v
theorem anyBad_get {l : List AV} (h : anyBad l = false) {i : Nat} {a : AV} (hi : l[i]? = some a) : a.isBad = false := by
  induction l generalizing i with
  | nil => simp at hi
  | cons v l ih =>
    rw [anyBad_cons] at h; simp only [Bool.or_eq_false_iff] at h
    cases i with
    | zero => simp at hi; subst hi; exact h.1
    | succ i => exact ih h.2 (by simpa using hi)
/-- The zero cells of a type, where they are known. -/
theorem zcells_ok (S : St) {i : TypeInfo} (h : anyBad (zcellsOf i) = false) : ∃ z, i.zero = some z ∧ VL S (zcellsOf i) z.cells.toList ∧ ∀ x ∈ z.cells.toList, x.oneCell' = true := by
  unfold zcellsOf at h ⊢
  unfold zeroOf at h ⊢
  cases hz : i.zero with
  | none => simp [hz, AV.cells, anyBad, AV.isBad] at h
  | some z =>
    simp only [hz] at h ⊢
    cases hc : (Go.CE.cv z).cells with
    | none => simp [hc, anyBad, AV.isBad] at h
    | some l =>
      simp only
      have := V.cells (V.cv S z) hc
      exact ⟨z, rfl, this.1, this.2⟩

/-! ### types -/
def EnvTypes (P : Program) (E : Env) : Prop := ∀ t ti, E.ti.get t = some ti → ti = mkTI P t
theorem mkTI_size {t : TypeId} (h : (mkTI P t).size ≠ 0 ∨ (mkTI P t).agg = true ∨ (mkTI P t).kind ≠ .other) :
    ∃ i d, P.info? t = some i ∧ P.underlying t = some d ∧ (mkTI P t).size = i.size ∧ (mkTI P t).agg = isAggD d ∧ (mkTI P t).z = zcellsOf i ∧ (mkTI P t).kind = kindOfT P t d := by
  unfold mkTI at h ⊢
  cases hi : P.info? t <;> cases hd : P.underlying t <;> simp only [hi, hd] at h ⊢ <;> first | (exfalso; simp at h; done) | exact ⟨_, _, rfl, rfl, rfl, rfl, rfl, rfl⟩
theorem mkTI_z {t : TypeId} (h : anyBad (mkTI P t).z = false) : ∃ i d, P.info? t = some i ∧ P.underlying t = some d ∧ (mkTI P t).z = zcellsOf i := by
  unfold mkTI at h ⊢
  cases hi : P.info? t <;> cases hd : P.underlying t <;> simp only [hi, hd] at h ⊢ <;> first | (exfalso; simp [anyBad, AV.isBad] at h; done) | exact ⟨_, _, rfl, rfl, rfl⟩
theorem mkTI_struct {t : TypeId} {fs : List FI} (h : structK (mkTI P t).kind = some fs) :
    ∃ i Fs, P.info? t = some i ∧ P.underlying t = some (.struct Fs) ∧ fs = Fs.toList.map (fun f => ⟨f.offset, P.cellsOf f.type, aggOf P f.type, (P.info? f.type).isSome && (P.underlying f.type).isSome⟩) ∧ (mkTI P t).z = zcellsOf i ∧ (mkTI P t).agg = true ∧ (mkTI P t).size = i.size ∧
      (mkTI P t).kind = .struct fs (leavesT P t) := by
  obtain ⟨i, d, h1, h2, h3, h4, h5, h6⟩ := mkTI_size (P := P) (t := t) (.inr (.inr (by intro e; rw [e] at h; cases h)))
  rw [h6] at h
  cases d <;> simp only [kindOfT] at h <;> first
    | (cases h; done)
    | (cases h; exact ⟨i, _, h1, h2, rfl, h5, h4, h3, h6⟩)
    | (split at h <;> cases h)
theorem mkTI_slice {t : TypeId} {k : Nat × Nat × List AV} (h : sliceK (mkTI P t).kind = some k) :
    ∃ e ie, P.underlying t = some (.slice e) ∧ P.info? e = some ie ∧ k = (ie.size, ie.bytes, zcellsOf ie) := by
  obtain ⟨i, d, h1, h2, h3, h4, h5, h6⟩ := mkTI_size (P := P) (t := t) (.inr (.inr (by intro e; rw [e] at h; cases h)))
  rw [h6] at h
  cases d <;> simp only [kindOfT] at h <;> first
    | (cases h; done)
    | (split at h
       · rename_i e ie hie; cases h; exact ⟨_, ie, h2, hie, rfl⟩
       · cases h)
    | (split at h <;> cases h)
end

end Go.CE

namespace Go.CE
section
variable {P : Program}

theorem add_addr (B k i : Nat) : (⟨B, k, none⟩ : Addr).add i = ⟨B, k + i, none⟩ := by
  unfold Addr.add
  by_cases h : i = 0
  · subst h; simp
  · rw [if_neg h]
theorem cell_hcell (w : World) (B i : Nat) : w.cell? ⟨B, i, none⟩ = hcell w.heap B i := by
  unfold World.cell? hcell
  cases w.heap[B]? with
  | none => rfl
  | some o => cases o <;> rfl
theorem setCell_heap {w : World} {B i : Nat} {v : Value} {cur : Array Value} {t : TypeId} {fz : Nat × Nat} (hB : w.heap[B]? = some (.cells cur t fz)) :
    (w.setCell ⟨B, i, none⟩ v).heap.size = w.heap.size ∧ (∀ b, b ≠ B → (w.setCell ⟨B, i, none⟩ v).heap[b]? = w.heap[b]?) ∧
    (w.setCell ⟨B, i, none⟩ v).heap[B]? = some (.cells (cur.setIfInBounds i v) t fz) := by
  have hlt : B < w.heap.size := (Array.getElem?_eq_some_iff.1 hB).1
  refine ⟨by simp [World.setCell], fun b hb => ?_, ?_⟩
  · simp only [World.setCell]
    rw [Array.getElem?_modify]
    simp [Ne.symm hb]
  · simp only [World.setCell]
    rw [Array.getElem?_modify]
    simp [hB]
def Unfrozen (cur : Array Value) (fz : Nat × Nat) : Prop := fz.2 ≤ fz.1 ∨ cur.size ≤ fz.1
theorem frozen_no {w : World} {B i : Nat} {cur : Array Value} {t : TypeId} {fz : Nat × Nat} (hB : w.heap[B]? = some (.cells cur t fz)) (hf : Unfrozen cur fz) (hi : i < cur.size) :
    w.frozen? ⟨B, i, none⟩ = false := by
  unfold World.frozen?
  simp only [hB]
  obtain ⟨lo, hi'⟩ := fz
  simp only
  rcases hf with h | h
  · simp only [decide_eq_true_eq, Bool.and_eq_false_imp]
    intro h1
    simp at h1 h ⊢; omega
  · simp at h ⊢; intro h1; omega
/-- Storing cells one behind the other. -/
theorem store_run {B o : Nat} {t : TypeId} {fz : Nat × Nat} : ∀ (vs : List Value) (i : Nat) (cur : Array Value) (w : World), w.heap[B]? = some (.cells cur t fz) → Unfrozen cur fz →
    o + i + vs.length ≤ cur.size → (∀ v ∈ vs, v.oneCell' = true) →
    ∃ w', (storeCells ⟨B, o, none⟩ vs i).run P w = .ok () w' ∧ w'.heap.size = w.heap.size ∧ SameOut w w' ∧ (∀ b, b ≠ B → w'.heap[b]? = w.heap[b]?) ∧
      ∃ cur', w'.heap[B]? = some (.cells cur' t fz) ∧ cur'.size = cur.size ∧ (∀ j, (j < o + i ∨ o + i + vs.length ≤ j) → cur'[j]? = cur[j]?) ∧
        ∀ (j : Nat) (v : Value), vs[j]? = some v → cur'[o + i + j]? = some v
  | [], i, cur, w, hB, _, _, _ => ⟨w, by simp [storeCells], rfl, ⟨rfl, rfl⟩, fun _ _ => rfl, cur, hB, rfl, fun _ _ => rfl, fun j v h => by simp at h⟩
  | v :: vs, i, cur, w, hB, hf, hl, h1 => by
    simp only [List.length_cons] at hl
    have hv := h1 v (by simp)
    have hcell : w.cell? ⟨B, o + i, none⟩ = some cur[o + i] := by
      rw [cell_hcell]; simp [hcell, hB, show o + i < cur.size by omega]
    have hfr := frozen_no hB hf (i := o + i) (by omega)
    obtain ⟨hs, hb, hB'⟩ := setCell_heap (i := o + i) (v := v) hB
    obtain ⟨w', hr, hs', hso, hb', cur', hc1, hc2, hc3, hc4⟩ := store_run (o := o) vs (i + 1) (cur.setIfInBounds (o + i) v) (w.setCell ⟨B, o + i, none⟩ v) hB'
      (by unfold Unfrozen at *; simpa using hf) (by simp; omega) (fun x hx => h1 x (by simp [hx]))
    refine ⟨w', ?_, hs'.trans hs, SameOut.trans (b := w.setCell ⟨B, o + i, none⟩ v) ⟨rfl, rfl⟩ hso, fun b hne => (hb' b hne).trans (hb b hne), cur', hc1, by rw [hc2]; simp, fun j hj => ?_, fun j x hj => ?_⟩
    · simp only [storeCells, Sem.run_bind, add_addr]
      rw [run_store P w _ v .plain hv]
      simp only [hcell, hfr, Bool.false_eq_true, if_false, Result.andThen]
      exact hr
    · rw [hc3 j (by simp only [List.length_cons] at hj; omega)]
      rw [Array.getElem?_setIfInBounds]
      simp only [List.length_cons] at hj
      rw [if_neg (by omega)]
    · cases j with
      | zero =>
        simp at hj; subst hj
        rw [hc3 (o + i + 0) (by omega)]
        simp [show o + i < cur.size by omega]
      | succ j =>
        simp at hj
        have := hc4 j x hj
        rw [show o + i + (j + 1) = o + (i + 1) + j by omega]; exact this
theorem load_run {w : World} {B k : Nat} {vs : List Value} (h : ∀ (i : Nat) (v : Value), vs[i]? = some v → hcell w.heap B (k + i) = some v) :
    (loadCells ⟨B, k, none⟩ vs.length).run P w = .ok vs.toArray w :=
  run_loadCells_list w ⟨B, k, none⟩ vs fun j v hj => by rw [add_addr, cell_hcell]; exact h j v hj
theorem typeInfo_run {t : TypeId} {i : TypeInfo} (h : P.info? t = some i) (w : World) : (typeInfo t).run P w = .ok i w := by
  simp [typeInfo, h]
theorem sizeOf_run {t : TypeId} {i : TypeInfo} (h : P.info? t = some i) (w : World) : (sizeOf t).run P w = .ok i.size w := by
  simp [sizeOf, typeInfo_run h]
theorem underlying_run {t : TypeId} {d : TypeDesc} (h : P.underlying t = some d) (w : World) : (underlying t).run P w = .ok d w := by
  simp [underlying, h]
theorem isAgg_run {t : TypeId} {d : TypeDesc} (h : P.underlying t = some d) (w : World) : (isAgg t).run P w = .ok (isAggD d) w := by
  unfold isAgg
  simp only [Sem.run_bind, underlying_run h, Result.andThen]
  cases d <;> rfl
theorem zero_run {t : TypeId} {i : TypeInfo} {z : Value} (h : P.info? t = some i) (hz : i.zero = some z) (w : World) : (zeroValue t).run P w = .ok z w := by
  simp [zeroValue, typeInfo_run h, hz]

/-- Loading a variable whose cells are known. -/
theorem loadVar_run {w : World} {t : TypeId} {i : TypeInfo} {d : TypeDesc} {B k : Nat} {vs : List Value} (hi : P.info? t = some i) (hd : P.underlying t = some d) (hn : vs.length = i.size)
    (h : ∀ (i : Nat) (v : Value), vs[i]? = some v → hcell w.heap B (k + i) = some v) (h1 : isAggD d = false → ∃ v, vs = [v]) :
    ∃ x, (loadVar t ⟨B, k, none⟩).run P w = .ok x w ∧ ((isAggD d = true ∧ x = .agg vs.toArray) ∨ (isAggD d = false ∧ vs = [x])) := by
  unfold loadVar
  simp only [Sem.run_bind, isAgg_run hd, Result.andThen]
  cases ha : isAggD d with
  | true =>
    simp only [if_true, Sem.run_bind, sizeOf_run hi, Result.andThen]
    rw [← hn, load_run h]
    exact ⟨_, rfl, .inl ⟨by trivial, rfl⟩⟩
  | false =>
    obtain ⟨v, rfl⟩ := h1 ha
    simp only [Bool.false_eq_true, if_false, run_load]
    have := h 0 v (by simp)
    rw [Nat.add_zero] at this
    rw [cell_hcell, this]
    exact ⟨v, rfl, .inr ⟨by trivial, rfl⟩⟩

/-! ### what a state lets one read -/
variable {S : St} {w : World}
theorem sizeOfBlock {hp : Array Obj} {B : Nat} {cB : Array Value} {ty : TypeId} {fz : Nat × Nat} (h : hp[B]? = some (.cells cB ty fz)) : hlen hp B = cB.size := by
  unfold hlen; rw [h]
theorem readRow (hS : Rel S) {r g o n : Nat} {l : List AV} (hk : S.known r g) (h : rdRow S.look r g o n = some l)
    (hb : S.live r g → (S.G r g).sh ≤ o ∧ o + n ≤ (S.G r g).lim) :
    S.live r g ∧ l.length = n ∧ ∃ vs, VL S l vs ∧ (∀ x ∈ vs, x.oneCell' = true) ∧ cellsAt S.hp (S.G r g).blk (o - (S.G r g).sh) vs := by
  obtain ⟨c, len, gmin, gcur, h1, h2, h3, h4⟩ := rdRow_some h
  have h5 : g ≤ gcur := hk.2 _ h1
  have hl : S.live r g := ⟨_, h1, h2, h5⟩
  obtain ⟨hb1, hb2⟩ := hb hl
  obtain ⟨_, _, h6⟩ := hS.row r _ h1
  obtain ⟨_, _, cB, ty, fz, h7, _, h8⟩ := h6 g h2 h5
  have hget : ∀ i, i < n → ∃ v, cB[o - (S.G r g).sh + i]? = some v ∧ v.oneCell' = true ∧ ∀ a, l[i]? = some a → V S a v := by
    intro i hi
    obtain ⟨v, ha, hb, hc⟩ := h8 (o + i) (by omega) (by omega)
    refine ⟨v, by rw [show o - (S.G r g).sh + i = o + i - (S.G r g).sh by omega]; exact ha, hb, fun a ha' => hc a ?_⟩
    rw [h4 i hi]; exact ha'
  refine ⟨hl, h3, (List.range n).map (fun i => (cB[o - (S.G r g).sh + i]?).getD undef), VL.mk (by simp [h3]) ?_, ?_, ?_⟩
  · intro i a v ha hv
    have hi : i < n := by have := (List.getElem?_eq_some_iff.1 ha).1; omega
    obtain ⟨u, hu1, hu2, hu3⟩ := hget i hi
    simp [hi, hu1] at hv
    subst hv; exact hu3 a ha
  · intro x hx
    obtain ⟨i, hi, rfl⟩ := List.mem_map.1 hx
    obtain ⟨u, hu1, hu2, hu3⟩ := hget i (List.mem_range.1 hi)
    rw [hu1]; exact hu2
  · intro i v hv
    have hi : i < n := by have := (List.getElem?_eq_some_iff.1 hv).1; simpa using this
    obtain ⟨u, hu1, hu2, hu3⟩ := hget i hi
    simp [hi, hu1] at hv
    subst hv
    exact ⟨by unfold hcell; rw [h7]; exact hu1, hu2⟩
theorem loadS_sound (hS : Rel S) {agg : Bool} {n : Nat} {a v : AV} {x : Value} (hv : V S a x) (h : loadS S.look agg n a = some v) :
    ∃ B k l vs, x = .pointer (some ⟨B, k, none⟩) ∧ one agg l = some v ∧ l.length = n ∧ VL S l vs ∧ (∀ u ∈ vs, u.oneCell' = true) ∧ cellsAt S.hp B k vs := by
  cases a <;> simp only [loadS] at h <;> try (cases h; done)
  · rename_i r g o m
    obtain ⟨hn, h⟩ := bsel_none h
    obtain ⟨l, h1, h2⟩ := obind_eq h
    simp only [V] at hv
    obtain ⟨hk, ad, rfl, hl⟩ := hv
    have hnm := ble_le hn
    obtain ⟨hlv, h3, vs, h4, h5, h6⟩ := readRow hS hk h1 (fun hlv => ⟨(hl hlv).2.1, by have := (hl hlv).2.2; omega⟩)
    exact ⟨_, _, l, vs, by rw [(hl hlv).1], h2, h3, h4, h5, h6⟩
  · rename_i cs o
    obtain ⟨l, h1, h2⟩ := obind_eq h
    simp only [V] at hv
    obtain ⟨B, s, vs, rfl, hB, hc, hl⟩ := hv
    rw [ldrop_eq] at h1
    obtain ⟨h3, rfl⟩ := takeX_some h1
    have hg : ∀ i u, ((vs.drop o).take n)[i]? = some u → vs[o + i]? = some u := by
      intro i u hu
      rw [List.getElem?_take] at hu
      split at hu
      · rw [List.getElem?_drop] at hu; exact hu
      · cases hu
    refine ⟨B, s + o, _, (vs.drop o).take n, rfl, h2, by simp at h3 ⊢; omega, VL.take n (VL.drop o hl), ?_, ?_⟩
    · intro u hu
      obtain ⟨i, hi⟩ := List.getElem?_of_mem hu
      exact (hc _ _ (hg i u hi)).2
    · intro i u hu
      have := hc _ _ (hg i u hu)
      rw [show s + o + i = s + (o + i) by omega]; exact this
end
end Go.CE

namespace Go.CE
section
variable {P : Program} {E : Env} {S : St} {w : World} {at_ : Nat} {look' : Look} {u : Upd} {v : AV} {ρ : Operand → AV} {σ : Operand → Value} {o : Oper}

theorem pure1_some {x : Option AV} (h : pure1 x = some (v, u)) : x = some v ∧ u = .keep := by
  obtain ⟨a, h1, h2⟩ := obind_eq h; cases h2; exact ⟨h1, rfl⟩
theorem upd1_some {x : AV} {y : Option Upd} (h : upd1 x y = some (v, u)) : y = some u ∧ v = x := by
  obtain ⟨a, h1, h2⟩ := obind_eq h; cases h2; exact ⟨h1, rfl⟩
theorem asNat_some {a : AV} {n : Nat} {x : Value} (hv : V S a x) (h : asNat a = some n) : ∃ k, x = .int k n := by
  cases a <;> simp only [asNat] at h <;> try (cases h; done)
  rename_i k m
  cases m <;> simp only [natI] at h <;> cases h
  simp only [V] at hv
  exact ⟨k, hv⟩

theorem snd_move {x : Operand} (ho : o.op = .move x ∨ o.op = .assign x) (hS : Rel S) (hw : S.hp = w.heap) (hρ : ∀ x, V S (ρ x) (σ x)) (hl : UpdOK S.look look' at_ u)
    (h : smMove x E ρ S.look at_ = some (v, u)) : Done P S w at_ look' u v (execOp σ o) := by
  cases h
  exact Done.keep hS hw hl (x := σ x) (w' := w) (by rcases ho with ho | ho <;> simp [execOp, ho]) rfl (hρ x)
theorem snd_pick {c a b : Operand} (ho : o.op = .pick c a b) (hS : Rel S) (hw : S.hp = w.heap) (hρ : ∀ x, V S (ρ x) (σ x)) (hl : UpdOK S.look look' at_ u)
    (h : smPick c a b E ρ S.look at_ = some (v, u)) : Done P S w at_ look' u v (execOp σ o) := by
  unfold smPick at h
  split at h
  · rename_i t ht
    cases h
    have hc := hρ c
    rw [ht] at hc; simp only [V] at hc
    refine Done.keep hS hw hl (x := if t then σ a else σ b) (w' := w) (by simp [execOp, ho, hc, asBool]) rfl ?_
    cases t
    · exact hρ b
    · exact hρ a
  · cases h
theorem snd_makeFunc {f : Fn} {b c : Array Operand} (ho : o.op = .makeFunc f b c) (hS : Rel S) (hw : S.hp = w.heap) (hρ : ∀ x, V S (ρ x) (σ x)) (hl : UpdOK S.look look' at_ u)
    (h : smMakeFunc f b c E ρ S.look at_ = some (v, u)) : Done P S w at_ look' u v (execOp σ o) := by
  unfold smMakeFunc mkFn at h
  split at h
  · cases h
    have hm : ∀ l : List Operand, VL S (l.map ρ) (l.map σ) := by
      intro l; induction l with
      | nil => simp [VL]
      | cons x l ih => simp only [List.map_cons, VL]; exact ⟨hρ x, ih⟩
    refine Done.keep hS hw hl (w' := w) (by simp [execOp, ho, Instr.makeFunc]; rfl) rfl ?_
    simp only [V]
    exact ⟨_, _, rfl, by simpa using hm b.toList, by simpa using hm c.toList⟩
  · cases h
theorem snd_extract {x : Operand} {i : Nat} (ho : o.op = .extract x i) (hS : Rel S) (hw : S.hp = w.heap) (hρ : ∀ x, V S (ρ x) (σ x)) (hl : UpdOK S.look look' at_ u)
    (h : smExtract x i E ρ S.look at_ = some (v, u)) : Done P S w at_ look' u v (execOp σ o) := by
  unfold smExtract at h
  split at h
  · rename_i vs ht
    obtain ⟨h1, rfl⟩ := pure1_some h
    have hc := hρ x
    rw [ht] at hc; simp only [V] at hc
    obtain ⟨us, he, hvs⟩ := hc
    rw [nth_eq] at h1
    obtain ⟨y, hy1, hy2⟩ := hvs.get i v h1
    refine Done.keep hS hw hl (w' := w) (x := y) ?_ rfl hy2
    have hy : us[i]? = some y := by simpa using hy1
    simp [execOp, ho, he, Instr.extract, hy]
  · cases h
theorem snd_alloc {t : TypeId} (ho : o.op = .alloc t) (hE : EnvTypes P E) (hS : Rel S) (hw : S.hp = w.heap) (hat : ¬ S.kn at_) (hl : UpdOK S.look look' at_ u)
    (h : smAlloc t E ρ S.look at_ = some (v, u)) : Done P S w at_ look' u v (execOp σ o) := by
  obtain ⟨ti, h1, h2⟩ := obind_eq h
  obtain ⟨h3, h4⟩ := bsel_none' h2
  cases h4
  have := hE t ti h1; subst this
  obtain ⟨i, d, hi, hd, hz⟩ := mkTI_z h3
  rw [hz] at h3 hl ⊢
  obtain ⟨z, hz1, hz2, hz3⟩ := zcells_ok S h3
  refine Done.newCells (cB := z.cells) (ty := t) (fz := (0, 0)) (x := .pointer (some ⟨w.heap.size, 0, none⟩)) hS hw hat hl
    (w' := { w with heap := w.heap.push (.cells z.cells t) }) ?_ rfl (.inl (Nat.le_refl _)) ?_ ?_ ?_
  · simp [execOp, ho, Instr.alloc, zero_run hi hz1, newVar, newRow]
  · rw [hz2.length]; simp
  · intro j a ha
    obtain ⟨x, hx1, hx2⟩ := hz2.get j a ha
    exact ⟨x, by simpa using hx1, hz3 x (List.mem_of_getElem? hx1), hx2⟩
  · intro _
    simp only [V]
    refine ⟨⟨.inr rfl, fun row hrow => ?_⟩, _, rfl, fun _ => ?_⟩
    · have := hl.2 row hrow; subst this; exact Nat.le_refl _
    · have hG : (S.add look' at_ ⟨w.heap.size, 0, (zcellsOf i).length⟩ (.cells z.cells t (0, 0))).G at_ 0 = ⟨w.heap.size, 0, (zcellsOf i).length⟩ := by
        show (if at_ = at_ then _ else _) = _; rw [if_pos rfl]
      rw [hG]; exact ⟨rfl, Nat.le_refl _, by rw [llen_eq]; simp⟩
theorem snd_box {t : TypeId} {x : Operand} (ho : o.op = .box t x) (hS : Rel S) (hw : S.hp = w.heap) (hρ : ∀ x, V S (ρ x) (σ x)) (hat : ¬ S.kn at_) (hl : UpdOK S.look look' at_ u)
    (h : smBox t x E ρ S.look at_ = some (v, u)) : Done P S w at_ look' u v (execOp σ o) := by
  obtain ⟨l, h1, h2⟩ := obind_eq h
  cases h2
  obtain ⟨hz2, hz3⟩ := V.cells (hρ x) h1
  refine Done.newCells (cB := (σ x).cells) (ty := t) (fz := (0, 0)) (x := .pointer (some ⟨w.heap.size, 0, none⟩)) hS hw hat hl
    (w' := { w with heap := w.heap.push (.cells (σ x).cells t) }) ?_ rfl (.inl (Nat.le_refl _)) ?_ ?_ ?_
  · simp [execOp, ho, Instr.box, newVar, newRow]
  · rw [hz2.length]; simp
  · intro j a ha
    obtain ⟨x, hx1, hx2⟩ := hz2.get j a ha
    exact ⟨x, by simpa using hx1, hz3 x (List.mem_of_getElem? hx1), hx2⟩
  · intro _
    simp only [V]
    refine ⟨⟨.inr rfl, fun row hrow => ?_⟩, _, rfl, fun _ => ?_⟩
    · have := hl.2 row hrow; subst this; exact Nat.le_refl _
    · have hG : (S.add look' at_ ⟨w.heap.size, 0, l.length⟩ (.cells (σ x).cells t (0, 0))).G at_ 0 = ⟨w.heap.size, 0, l.length⟩ := by
        show (if at_ = at_ then _ else _) = _; rw [if_pos rfl]
      rw [hG]; exact ⟨rfl, Nat.le_refl _, by rw [llen_eq]; simp⟩
theorem one_V {agg : Bool} {l : List AV} {vs : List Value} (h : one agg l = some v) (hv : VL S l vs) (h1 : ∀ x ∈ vs, x.oneCell' = true) :
    (agg = true ∧ V S v (.agg vs.toArray)) ∨ (agg = false ∧ ∃ x, vs = [x] ∧ V S v x) := by
  rcases one_some h with ⟨ha, rfl⟩ | ⟨ha, rfl⟩
  · refine .inl ⟨ha, ?_⟩
    simp only [V]
    exact ⟨_, rfl, by simpa using hv, by simpa using h1⟩
  · match vs, hv with
    | [x], hv => simp only [VL, and_true] at hv; exact .inr ⟨ha, x, rfl, hv⟩
    | [], hv => simp [VL] at hv
    | _ :: _ :: _, hv => simp [VL] at hv
theorem snd_load {t : TypeId} {x : Operand} (ho : o.op = .load t x) (hE : EnvTypes P E) (hS : Rel S) (hw : S.hp = w.heap) (hρ : ∀ x, V S (ρ x) (σ x)) (hl : UpdOK S.look look' at_ u)
    (h : smLoad t x E ρ S.look at_ = some (v, u)) : Done P S w at_ look' u v (execOp σ o) := by
  obtain ⟨ti, h1, h2⟩ := obind_eq h
  obtain ⟨h3, rfl⟩ := pure1_some h2
  have := hE t ti h1; subst this
  obtain ⟨B, k, l, vs, hx, h4, h5, h6, h7, h8⟩ := loadS_sound hS (hρ x) h3
  have hne : (mkTI P t).size ≠ 0 ∨ (mkTI P t).agg = true ∨ (mkTI P t).kind ≠ .other := by
    rcases one_some h4 with ⟨ha, _⟩ | ⟨ha, hl1⟩
    · exact .inr (.inl ha)
    · refine .inl ?_; rw [← h5, hl1]; simp
  obtain ⟨i, d, hi, hd, hs, ha, _, _⟩ := mkTI_size hne
  have hlen : vs.length = i.size := by rw [← h6.length, h5, hs]
  have hone := one_V h4 h6 h7
  obtain ⟨y, hr, hy⟩ := loadVar_run (w := w) (B := B) (k := k) (vs := vs) hi hd hlen (fun i v hi => by rw [← hw]; exact (h8 i v hi).1) (fun hn => by
    rcases hone with ⟨h9, _⟩ | ⟨_, z, h9, _⟩
    · rw [ha, hn] at h9; cases h9
    · exact ⟨z, h9⟩)
  refine Done.keep hS hw hl (w' := w) (x := y) ?_ rfl ?_
  · simp [execOp, ho, hx, Instr.loadAt, Instr.sureAddr, hr]
  · rcases hone with ⟨h9, h10⟩ | ⟨h9, z, h10, h11⟩ <;> rcases hy with ⟨h12, h13⟩ | ⟨h12, h13⟩
    · rw [h13]; exact h10
    · rw [ha, h12] at h9; cases h9
    · rw [ha, h12] at h9; cases h9
    · rw [h10] at h13; cases h13; exact h11
theorem snd_nilCheck {x : Operand} (ho : o.op = .nilCheck x) (hS : Rel S) (hw : S.hp = w.heap) (hρ : ∀ x, V S (ρ x) (σ x)) (hl : UpdOK S.look look' at_ u)
    (h : smNilCheck x E ρ S.look at_ = some (v, u)) : Done P S w at_ look' u v (execOp σ o) := by
  unfold smNilCheck nilCheckS at h
  have hv := hρ x
  split at h <;> first
    | (cases h; done)
    | (rename_i he
       cases h
       rw [he] at hv
       refine Done.keep hS hw hl (w' := w) (x := σ x) ?_ rfl (by rw [he]; exact hv)
       simp only [V] at hv
       first
        | (obtain ⟨_, ad, hx, _⟩ := hv; simp [execOp, ho, hx]; done)
        | (obtain ⟨B, s, vs, hx, _⟩ := hv; simp [execOp, ho, hx]; done)
        | (obtain ⟨b', c', hx, _⟩ := hv; simp [execOp, ho, hx]; done)
        | (obtain ⟨x', hx, _⟩ := hv; simp [execOp, ho, hx]; done))
theorem cellsOf_some {t : TypeId} (h : P.cellsOf t ≠ 0) : ∃ i, P.info? t = some i ∧ i.size = P.cellsOf t := by
  unfold Program.cellsOf at h ⊢
  cases hi : P.info? t with
  | none => simp [hi] at h
  | some i => exact ⟨i, rfl, rfl⟩
theorem snd_fieldAddr {t : TypeId} {x : Operand} {i : Nat} (ho : o.op = .fieldAddr t x i) (hE : EnvTypes P E) (hS : Rel S) (hw : S.hp = w.heap) (hρ : ∀ x, V S (ρ x) (σ x)) (hl : UpdOK S.look look' at_ u)
    (h : smFieldAddr t x i E ρ S.look at_ = some (v, u)) : Done P S w at_ look' u v (execOp σ o) := by
  obtain ⟨ti, h1, h2⟩ := obind_eq h
  obtain ⟨fs, h3, h4⟩ := obind_eq h2
  obtain ⟨f, h5, h6⟩ := obind_eq h4
  obtain ⟨h7, h8⟩ := bsel_none' h6
  obtain ⟨h9, rfl⟩ := pure1_some h8
  have := hE t ti h1; subst this
  obtain ⟨it, Fs, hi, hd, hfs, _⟩ := mkTI_struct h3
  subst hfs
  rw [nth_eq, List.getElem?_map] at h5
  obtain ⟨F, hF1, hF2⟩ := Option.map_eq_some_iff.1 h5
  subst hF2
  obtain ⟨ie, hie, hsz⟩ := cellsOf_some (beq_ne h7)
  have hFs : Fs[i]? = some F := by simpa using hF1
  have hz : ie.size ≠ 0 := by rw [hsz]; exact beq_ne h7
  have hrun : ∀ B k, (Instr.fieldAt t (.pointer (some ⟨B, k, none⟩)) i).run P w = .ok (.pointer (some ⟨B, k + F.offset, none⟩)) w := by
    intro B k
    simp [Instr.fieldAt, underlying_run hd, hFs, Instr.sureAddr, fieldPlace, sizeOf_run hie, hz, add_addr]
  have hv := hρ x
  revert h9 hv
  unfold fieldAddrS
  split
  · rename_i r g k m he
    intro h9 hv
    obtain ⟨hb, h9⟩ := bsel_none h9
    cases h9
    rw [he] at hv
    simp only [V] at hv
    obtain ⟨hk, ad, hx, hlv⟩ := hv
    have hle := ble_le hb
    by_cases hlive : S.live r g
    · obtain ⟨rfl, h10, h11⟩ := hlv hlive
      refine Done.keep hS hw hl (w' := w) (x := .pointer (some ⟨(S.G r g).blk, k - (S.G r g).sh + F.offset, none⟩)) (by simp [execOp, ho, hx, hrun]) rfl ?_
      simp only [V]
      refine ⟨hk, _, rfl, fun _ => ⟨?_, ?_, ?_⟩⟩
      · show _ = (⟨_, k + F.offset - _, none⟩ : Addr); congr 1; omega
      · show _ ≤ k + F.offset; omega
      · show k + F.offset + _ ≤ _; have : F.offset + P.cellsOf F.type ≤ m := hle; omega
    · have hrun' : ∃ ad', (Instr.fieldAt t (.pointer (some ad)) i).run P w = .ok (.pointer (some ad')) w := by
        refine ⟨ad.add F.offset, ?_⟩
        simp [Instr.fieldAt, underlying_run hd, hFs, Instr.sureAddr, fieldPlace, sizeOf_run hie, hz]
      obtain ⟨ad', hr'⟩ := hrun'
      refine Done.keep hS hw hl (w' := w) (x := .pointer (some ad')) (by simp [execOp, ho, hx, hr']) rfl ?_
      simp only [V]
      exact ⟨hk, _, rfl, fun hc => absurd hc hlive⟩
  · rename_i cs k he
    intro h9 hv
    cases h9
    rw [he] at hv
    simp only [V] at hv
    obtain ⟨B, s, vs, hx, h10, h11, h12⟩ := hv
    refine Done.keep hS hw hl (w' := w) (x := .pointer (some ⟨B, s + k + F.offset, none⟩)) (by simp [execOp, ho, hx, hrun]) rfl ?_
    simp only [V]
    exact ⟨B, s, vs, by simp [Nat.add_assoc], h10, h11, h12⟩
  · intro h9; cases h9
theorem indexAt_run {t e : TypeId} {ie : TypeInfo} {k : IntKind} {n len cap : Nat} {ad : Addr} (hd : P.underlying t = some (.slice e)) (hie : P.info? e = some ie) (hn : n < len) :
    (Instr.indexAt t (.slice (some ad) len cap) (.int k n)).run P w = .ok (.pointer (some (ad.add (n * ie.size)))) w := by
  have h0 : (0 : Int) ≤ (n : Int) ∧ (n : Int) < (len : Int) := ⟨Int.natCast_nonneg _, by omega⟩
  simp [Instr.indexAt, asIntOf, underlying_run hd, sizeOf_run hie, h0]
  omega
theorem snd_indexAddr {t : TypeId} {x i : Operand} (ho : o.op = .indexAddr t x i) (hE : EnvTypes P E) (hS : Rel S) (hw : S.hp = w.heap) (hρ : ∀ x, V S (ρ x) (σ x)) (hl : UpdOK S.look look' at_ u)
    (h : smIndexAddr t x i E ρ S.look at_ = some (v, u)) : Done P S w at_ look' u v (execOp σ o) := by
  obtain ⟨ti, h1, h2⟩ := obind_eq h
  obtain ⟨k, h3, h4⟩ := obind_eq h2
  obtain ⟨n, h5, h6⟩ := obind_eq h4
  obtain ⟨h7, rfl⟩ := pure1_some h6
  have := hE t ti h1; subst this
  obtain ⟨e, ie, hd, hie, rfl⟩ := mkTI_slice h3
  obtain ⟨ki, hi⟩ := asNat_some (hρ i) h5
  have hv := hρ x
  revert h7 hv
  unfold indexAddrS
  split
  · rename_i r g k m e' he
    intro h7 hv
    obtain ⟨h8, h7⟩ := bsel_none h7
    obtain ⟨h9, h7⟩ := bsel_none h7
    cases h7
    have hee := beq_eq h8; simp only at hee; subst hee
    have hnm : n < m := ble_le h9
    rw [he] at hv; simp only [V] at hv
    obtain ⟨hk, ad, cap, hx, hc, hlv⟩ := hv
    refine Done.keep hS hw hl (w' := w) (x := .pointer (some (ad.add (n * ie.size)))) (by simp [execOp, ho, hx, hi, indexAt_run hd hie hnm]) rfl ?_
    simp only [V]
    refine ⟨hk, _, rfl, fun hlive => ?_⟩
    obtain ⟨h10, h11, h12⟩ := hlv hlive
    rcases h12 with h12 | ⟨rfl, h12⟩
    · omega
    · have hm : (n + 1) * ie.size ≤ m * ie.size := Nat.mul_le_mul_right _ hnm
      have hm' : (n + 1) * ie.size = n * ie.size + ie.size := Nat.succ_mul _ _
      refine ⟨?_, ?_, ?_⟩
      · rw [add_addr]; show _ = (⟨_, k + n * ie.size - _, none⟩ : Addr); congr 1; omega
      · show _ ≤ k + n * ie.size; omega
      · show k + n * ie.size + ie.size ≤ _; omega
  · intro h7; cases h7
  · rename_i cs m e' hne he
    intro h7 hv
    obtain ⟨h8, h7⟩ := bsel_none h7
    obtain ⟨h9, h7⟩ := bsel_none h7
    cases h7
    have hnm : n < m := ble_le h9
    rw [he] at hv; simp only [V] at hv
    obtain ⟨ad, cap, vs, hx, hc, hvl, hcs⟩ := hv
    refine Done.keep hS hw hl (w' := w) (x := .pointer (some (ad.add (n * ie.size)))) (by simp [execOp, ho, hx, hi, indexAt_run hd hie hnm]) rfl ?_
    simp only [V]
    rcases hcs with rfl | ⟨h10, h11, h12⟩
    · exact absurd rfl hne
    · obtain ⟨b, off, sp⟩ := ad
      simp only at h10 h11 h12
      subst h10
      exact ⟨b, off, vs, by rw [add_addr]; rfl, h11, h12, hvl⟩
  · intro h7; cases h7
end
end Go.CE

namespace Go.CE
section
variable {P : Program} {E : Env} {S : St} {w : World} {at_ : Nat} {look' : Look} {u : Upd} {v : AV} {ρ : Operand → AV} {σ : Operand → Value} {o : Oper}

/-- Cells written by the newest generation of a row. -/
theorem write_sound (hS : Rel S) (hw : S.hp = w.heap) {r g k : Nat} {l : List AV} {vs : List Value} (hvl : VL S l vs) (h1 : ∀ x ∈ vs, x.oneCell' = true) (hk : S.known r g)
    (hb : S.live r g → (S.G r g).sh ≤ k ∧ k + l.length ≤ (S.G r g).lim) (h : wrRow S.look r g k l = some u) :
    S.live r g ∧ ∃ w', (storeCells ⟨(S.G r g).blk, k - (S.G r g).sh, none⟩ vs).run P w = .ok () w' ∧ SameOut w w' ∧ ∃ row row', u = .set r row' ∧
      (UpdOK S.look look' at_ u → Change S look' S.G w'.heap r row row' ∧ (Ext S ⟨look', S.kn, S.G, w'.heap⟩ → RowOK ⟨look', S.kn, S.G, w'.heap⟩ r row')) := by
  obtain ⟨row, h2, h3⟩ := obind_eq h
  obtain ⟨p, h4, h5⟩ := obind_eq h3
  obtain ⟨h6, h7⟩ := bsel_none h5
  obtain ⟨c, len, gmin, gcur⟩ := p
  have := cellsRow_some h4; subst this
  have hg := beq_eq h6; simp only at hg; subst hg
  simp only [Option.some.injEq] at h7; subst h7
  obtain ⟨hmm, hlim, hrow⟩ := hS.row r _ h2
  have hlive : S.live r g := ⟨_, h2, hmm, Nat.le_refl _⟩
  obtain ⟨hb1, hb2⟩ := hb hlive
  obtain ⟨_, _, cB, ty, fz, hB, hfz, hcells⟩ := hrow g hmm (Nat.le_refl _)
  have hvlen := hvl.length
  have hcsz : l.length = 0 ∨ k - (S.G r g).sh + l.length ≤ cB.size := by
    rcases Nat.eq_zero_or_pos l.length with h0 | h0
    · exact .inl h0
    · obtain ⟨x, hx, _⟩ := hcells (k + l.length - 1) (by omega) (by omega)
      have := (Array.getElem?_eq_some_iff.1 hx).1
      exact .inr (by omega)
  rw [hw] at hB
  have hst : ∃ w', (storeCells ⟨(S.G r g).blk, k - (S.G r g).sh, none⟩ vs).run P w = .ok () w' ∧ w'.heap.size = w.heap.size ∧ SameOut w w' ∧ (∀ b, b ≠ (S.G r g).blk → w'.heap[b]? = w.heap[b]?) ∧
      ∃ cur', w'.heap[(S.G r g).blk]? = some (.cells cur' ty fz) ∧ cur'.size = cB.size ∧ (∀ j, (j < k - (S.G r g).sh ∨ k - (S.G r g).sh + vs.length ≤ j) → cur'[j]? = cB[j]?) ∧
        ∀ (j : Nat) (v : Value), vs[j]? = some v → cur'[k - (S.G r g).sh + j]? = some v := by
    rcases hcsz with h0 | h0
    · have hvs : vs = [] := List.length_eq_zero_iff.1 (by omega)
      subst hvs
      exact ⟨w, by simp [storeCells], rfl, ⟨rfl, rfl⟩, fun _ _ => rfl, cB, hB, rfl, fun _ _ => rfl, fun j v hj => by simp at hj⟩
    · obtain ⟨w', ha, hb', hso, hc, cur', hd, he, hf, hg'⟩ := store_run (P := P) (o := k - (S.G r g).sh) vs 0 cB w hB hfz (by omega) h1
      exact ⟨w', ha, hb', hso, hc, cur', hd, he, fun j hj => hf j (by omega), fun j v hj => by have := hg' j v hj; rwa [Nat.add_zero] at this⟩
  obtain ⟨w', ha, hsz, hso, hoth, cur', hcB, hcs, hout, hin⟩ := hst
  refine ⟨hlive, w', ha, hso, .cells c len gmin g, .cells (T.write c k l) len g g, rfl, fun hU => ?_⟩
  obtain ⟨hU1, hU2⟩ := hU
  have hch : Change S look' S.G w'.heap r (.cells c len gmin g) (.cells (T.write c k l) len g g) := by
    refine ⟨h2, hU1, hU2, fun _ _ _ => rfl, hmm, Nat.le_refl _, fun _ _ _ => rfl, fun g' hg' => .inl ⟨g, ⟨hmm, Nat.le_refl _⟩, ?_⟩, by rw [hw, hsz]; exact Nat.le_refl _, fun B hB' hne => ?_, fun g' hg' => ?_⟩
    · have : g' = g := by have := hg'.1; have := hg'.2; omega
      subst this; exact ⟨rfl, rfl⟩
    · rw [hw]; exact hoth B (fun e => hne g ⟨hmm, Nat.le_refl _⟩ e.symm)
    · by_cases he : (S.G r g').blk = (S.G r g).blk
      · rw [he, hw, sizeOfBlock hB, sizeOfBlock hcB, hcs]; exact Nat.le_refl _
      · unfold hlen; rw [hoth _ he, hw]; exact Nat.le_refl _
  refine ⟨hch, fun hx => ⟨Nat.le_refl _, hlim, fun g' hg1 hg2 => ?_⟩⟩
  have : g' = g := by omega
  subst this
  refine ⟨by show (S.G r g').lim ≤ len; omega, by show (S.G r g').sh ≤ (S.G r g').lim; omega, cur', ty, fz, hcB, ?_, fun j hj1 hj2 => ?_⟩
  · rcases hfz with h0 | h0
    · exact .inl h0
    · exact .inr (by rw [hcs]; exact h0)
  · have hj1' : (S.G r g').sh ≤ j := hj1
    have hj2' : j < (S.G r g').lim := hj2
    by_cases hin' : k ≤ j ∧ j < k + l.length
    · have hjl : j - k < vs.length := by omega
      have hv : vs[j - k]? = some vs[j - k] := by simp [hjl]
      have hc' := hin (j - k) _ hv
      refine ⟨vs[j - k], ?_, h1 _ (List.getElem_mem hjl), fun a haj => ?_⟩
      · show cur'[j - (S.G r g').sh]? = _
        rw [show j - (S.G r g').sh = k - (S.G r g').sh + (j - k) by omega]; exact hc'
      · rcases T.get_write l c k j a haj with ⟨_, _, h3⟩ | ⟨h3, _⟩
        · obtain ⟨x, hx1, hx2⟩ := hvl.get (j - k) a h3
          rw [hv] at hx1; cases hx1
          exact V.ext hx hx2
        · omega
    · obtain ⟨x, hx1, hx2, hx3⟩ := hcells j hj1' hj2'
      refine ⟨x, ?_, hx2, fun a haj => ?_⟩
      · show cur'[j - (S.G r g').sh]? = _
        rw [hout _ (by omega)]; exact hx1
      · rcases T.get_write l c k j a haj with ⟨h3, h4, _⟩ | ⟨_, h3⟩
        · omega
        · exact V.ext hx (hx3 a h3)
theorem bsel_and {x y : Bool} (h : bsel x y false = true) : x = true ∧ y = true := by cases x <;> simp_all [bsel]
theorem Done.skip {m : Sem Next} {w' : World} (hS : Rel S) (hw : S.hp = w.heap) (hl : look' = S.look) (hr : m.run P w = .ok .skip w') (hh : w'.heap = w.heap) (hso : SameOut w w') : Done P S w at_ look' .keep .undef m := by
  subst hl
  exact ⟨S, w', _, hr, by rw [hw, hh], hS, Ext.refl S, rfl, fun r => by simp [Upd.isNew], fun lo _ => Keep.refl lo S, .inr ⟨rfl, rfl⟩, hso⟩
theorem same_sound (hS : Rel S) (hw : S.hp = w.heap) {n : Nat} {x y : AV} {vx vy : Value} (hx : V S x vx) (hy : V S y vy) (h : sameS S.look n x y = true) :
    n = 1 ∧ vy.cells = #[vy] ∧ vy.oneCell' = true ∧ ∃ B k w', vx = .pointer (some ⟨B, k, none⟩) ∧ (storeCells ⟨B, k, none⟩ [vy]).run P w = .ok () w' ∧ w'.heap = w.heap ∧ SameOut w w' := by
  unfold sameS at h
  split at h
  · rename_i r g o m
    obtain ⟨h1, h2⟩ := bsel_and h
    refine ⟨beq_eq h1, ?_⟩
    have h3 : ∃ a, loadS S.look false 1 (.ptr r g o m) = some a ∧ sameB a y = true := by
      cases hq : loadS S.look false 1 (.ptr r g o m) with
      | none => rw [hq] at h2; cases h2
      | some a => rw [hq] at h2; exact ⟨a, rfl, h2⟩
    obtain ⟨a, h3, h4⟩ := h3
    have h5 : ∃ b, a = .bool b ∧ y = .bool b := by
      unfold sameB at h4
      split at h4
      · rename_i p q; rw [beqB_eq] at h4; simp at h4; subst h4; exact ⟨_, rfl, rfl⟩
      · cases h4
    obtain ⟨b, rfl, rfl⟩ := h5
    simp only [V] at hy
    subst hy
    refine ⟨rfl, rfl, ?_⟩
    obtain ⟨hm, h6⟩ := bsel_none (show bsel (Nat.ble 1 m) (obind (rdRow S.look r g o 1) (one false)) none = some (.bool b) from h3)
    have hm' := ble_le hm
    obtain ⟨cs, h7, h8⟩ := obind_eq h6
    obtain ⟨row, h9, h10⟩ := obind_eq h7
    obtain ⟨p, h11, h12⟩ := obind_eq h10
    obtain ⟨h13, h14⟩ := bsel_none h12
    obtain ⟨c, len, gmin, gcur⟩ := p
    have := cellsRow_some h11; subst this
    have hgm : gmin ≤ g := ble_le h13
    simp only [V] at hx
    obtain ⟨hk, ad, rfl, hlv⟩ := hx
    have hgc : g ≤ gcur := hk.2 _ h9
    have hlive : S.live r g := ⟨_, h9, hgm, hgc⟩
    obtain ⟨rfl, hsh, hlim⟩ := hlv hlive
    obtain ⟨_, _, hrow⟩ := hS.row r _ h9
    obtain ⟨_, _, cB, ty, fz, hB, hfz, hcells⟩ := hrow g hgm hgc
    obtain ⟨z, hz1, hz2, hz3⟩ := hcells o hsh (by omega)
    have hco : c.get o = some (.bool b) := by
      obtain ⟨v0, h15, h16⟩ := obind_eq (show obind (c.get o) (fun v => obind (rdN c 0 (Nat.succ o)) fun l => some (v :: l)) = some cs from h14)
      cases h16
      rw [h15]
      rcases one_some h8 with ⟨ha, _⟩ | ⟨_, h17⟩
      · cases ha
      · exact congrArg some (List.cons.inj h17).1
    have hzb := hz3 _ hco
    simp only [V] at hzb
    subst hzb
    have hlt := (Array.getElem?_eq_some_iff.1 hz1).1
    rw [hw] at hB
    obtain ⟨w', ha, hsz, hso, hoth, cur', hcB, hcs, hout, hin⟩ := store_run (P := P) (o := o - (S.G r g).sh) [.bool b] 0 cB w hB hfz (by simp only [List.length_cons, List.length_nil]; omega) (by simp [Value.oneCell'])
    refine ⟨_, _, w', rfl, ha, ?_, hso⟩
    have hcc : cur' = cB := by
      refine Array.ext_getElem? fun j => ?_
      by_cases hj : j = o - (S.G r g).sh
      · subst hj
        have : cur'[o - (S.G r g).sh]? = some (.bool b) := hin 0 (.bool b) rfl
        exact this.trans hz1.symm
      · exact hout j (by simp only [List.length_cons, List.length_nil]; omega)
    refine Array.ext_getElem? fun j => ?_
    by_cases hj : j = (S.G r g).blk
    · subst hj; rw [hcB, hB, hcc]
    · exact hoth j hj
  · cases h
theorem snd_store {t : TypeId} {x y : Operand} (ho : o.op = .store t x y) (hE : EnvTypes P E) (hS : Rel S) (hw : S.hp = w.heap) (hρ : ∀ x, V S (ρ x) (σ x)) (hl : UpdOK S.look look' at_ u)
    (h : smStore t x y E ρ S.look at_ = some (v, u)) : Done P S w at_ look' u v (execOp σ o) := by
  obtain ⟨ti, h1, h2⟩ := obind_eq h
  obtain ⟨l, h3, h4⟩ := obind_eq h2
  obtain ⟨h5, h6⟩ := bsel_none' h4
  cases hsm : sameS S.look ti.size (ρ x) (ρ y) with
  | true =>
    rw [hsm, bsel_true] at h6
    cases h6
    have := hE t ti h1; subst this
    obtain ⟨i, d, hi, hd, hs, _⟩ := mkTI_size (P := P) (t := t) (.inl (beq_ne h5))
    obtain ⟨g1, g2, g3, B, k, w', g4, g5, g6, g7⟩ := same_sound (P := P) hS hw (hρ x) (hρ y) hsm
    refine Done.skip (w' := w') hS hw hl ?_ g6 g7
    have hlen : (σ y).cells.size = i.size := by rw [g2, ← hs, g1]; rfl
    have g5' : (storeCells ⟨B, k, none⟩ (σ y).cells.toList).run P w = .ok () w' := by rw [g2]; exact g5
    simp [execOp, ho, g4, Instr.storeAt, Instr.sureAddr, storeVar, sizeOf_run hi, hlen, g5']
  | false =>
  rw [hsm, bsel_false] at h6
  obtain ⟨h7, rfl⟩ := upd1_some h6
  have := hE t ti h1; subst this
  obtain ⟨i, d, hi, hd, hs, _⟩ := mkTI_size (P := P) (t := t) (.inl (beq_ne h5))
  obtain ⟨hc1, hc2⟩ := V.cells (hρ y) h3
  have hv := hρ x
  revert h7 hv
  unfold storeS
  split
  · rename_i r g k m he
    intro h7 hv
    obtain ⟨h8, h7⟩ := bsel_none h7
    obtain ⟨h9, h7⟩ := bsel_none h7
    rw [llen_eq] at h8
    have h8' := beq_eq h8
    have h9' := ble_le h9
    rw [he] at hv; simp only [V] at hv
    obtain ⟨hk, ad, hx, hlv⟩ := hv
    obtain ⟨hlive, w', hr, hso, row, row', rfl, hch⟩ := write_sound (P := P) (look' := look') (at_ := at_) hS hw hc1 hc2 hk (fun hlv' => ⟨(hlv hlv').2.1, by have := (hlv hlv').2.2; omega⟩) h7
    obtain ⟨hch1, hch2⟩ := hch hl
    have had := (hlv hlive).1
    refine Done.change (n := .skip) hS hch1 ?_ hch2 (fun _ => .inr ⟨rfl, rfl⟩) hso
    have hlen : (σ y).cells.size = i.size := by rw [← hs, ← h8', hc1.length]; simp
    simp [execOp, ho, hx, Instr.storeAt, Instr.sureAddr, storeVar, sizeOf_run hi, hlen, had, hr]
  · intro h7; cases h7
theorem part_run {cs : Array Value} {f : Field} {i : TypeInfo} {d : TypeDesc} (hi : P.info? f.type = some i) (hd : P.underlying f.type = some d) (h1 : isAggD d = false → ∃ x, cs[f.offset]? = some x) :
    (part f.type cs f.offset).run P w = .ok (if isAggD d then .agg (cs.extract f.offset (f.offset + i.size)) else (cs[f.offset]?).getD undef) w := by
  unfold part
  simp only [Sem.run_bind, isAgg_run hd, Result.andThen]
  cases ha : isAggD d with
  | true => simp [sizeOf_run hi]
  | false =>
    obtain ⟨x, hx⟩ := h1 ha
    simp [hx]
theorem snd_field {t : TypeId} {x : Operand} {i : Nat} (ho : o.op = .field t x i) (hE : EnvTypes P E) (hS : Rel S) (hw : S.hp = w.heap) (hρ : ∀ x, V S (ρ x) (σ x)) (hl : UpdOK S.look look' at_ u)
    (h : smField t x i E ρ S.look at_ = some (v, u)) : Done P S w at_ look' u v (execOp σ o) := by
  obtain ⟨ti, h1, h2⟩ := obind_eq h
  obtain ⟨fs, h3, h4⟩ := obind_eq h2
  obtain ⟨f, h5, h6⟩ := obind_eq h4
  have := hE t ti h1; subst this
  obtain ⟨it, Fs, hi, hd, hfs, _⟩ := mkTI_struct h3
  subst hfs
  rw [nth_eq, List.getElem?_map] at h5
  obtain ⟨F, hF1, hF2⟩ := Option.map_eq_some_iff.1 h5
  subst hF2
  have hFs : Fs[i]? = some F := by simpa using hF1
  simp only at h6
  split at h6
  · rename_i cs he
    obtain ⟨h6', h6⟩ := bsel_none h6
    obtain ⟨h7, rfl⟩ := pure1_some h6
    obtain ⟨l, h8, h9⟩ := obind_eq h7
    rw [ldrop_eq] at h8
    obtain ⟨h10, rfl⟩ := takeX_some h8
    have hv := hρ x
    rw [he] at hv; simp only [V] at hv
    obtain ⟨vs, hx, hvl, hone⟩ := hv
    have hvt := VL.take (P.cellsOf F.type) (VL.drop F.offset hvl)
    have h1t : ∀ y ∈ (vs.toList.drop F.offset).take (P.cellsOf F.type), y.oneCell' = true := fun y hy => hone y (List.mem_of_mem_drop (List.mem_of_mem_take hy))
    have hres := one_V h9 hvt h1t
    simp only [Bool.and_eq_true, Option.isSome_iff_exists] at h6'
    obtain ⟨⟨iF, hiF⟩, ⟨dF, hdF⟩⟩ := h6'
    have hsz : P.cellsOf F.type = iF.size := by simp [Program.cellsOf, hiF]
    have hag : aggOf P F.type = isAggD dF := by simp [aggOf, hdF]
    have hp := part_run (P := P) (w := w) (cs := vs) (f := F) hiF hdF (fun hn => by
      rcases hres with ⟨ha, _⟩ | ⟨_, y, hy, _⟩
      · have ha' : aggOf P F.type = true := ha; rw [hag, hn] at ha'; cases ha'
      · refine ⟨y, ?_⟩
        have : ((vs.toList.drop F.offset).take (P.cellsOf F.type))[0]? = some y := by rw [hy]; rfl
        rw [List.getElem?_take] at this
        split at this
        · rw [List.getElem?_drop] at this; simpa using this
        · cases this)
    refine Done.keep hS hw hl (w' := w) (x := if isAggD dF then .agg (vs.extract F.offset (F.offset + iF.size)) else (vs[F.offset]?).getD undef) ?_ rfl ?_
    · simp [execOp, ho, hx, Instr.field, asAgg, underlying_run hd, hFs, hp]
    · rcases hres with ⟨ha, hva⟩ | ⟨ha, y, hy, hvy⟩
      · have ha' : aggOf P F.type = true := ha
        rw [hag] at ha'
        rw [ha', if_pos rfl]
        have : ((vs.toList.drop F.offset).take (P.cellsOf F.type)).toArray = vs.extract F.offset (F.offset + iF.size) := by
          apply Array.ext'
          simp [hsz, List.take_drop]
        rw [← this]; exact hva
      · have ha' : aggOf P F.type = false := ha
        rw [hag] at ha'
        rw [ha', if_neg (by simp)]
        have : ((vs.toList.drop F.offset).take (P.cellsOf F.type))[0]? = some y := by rw [hy]; rfl
        rw [List.getElem?_take] at this
        split at this
        · rw [List.getElem?_drop] at this
          have h' : vs[F.offset]? = some y := by simpa using this
          rw [h']; exact hvy
        · cases this
  · cases h6
end
end Go.CE

namespace Go.CE
theorem sNum_cons (c : UInt8) (l : List UInt8) : sNum (c :: l) = c.toNat + 256 * sNum l := rfl
theorem pow8_eq (n : Nat) : pow8 n = 256 ^ n := by
  show 2 ^ (8 * n) = 256 ^ n
  rw [Nat.pow_mul]
theorem sNum_lt : ∀ l : List UInt8, sNum l < 256 ^ l.length
  | [] => by simp [sNum]
  | c :: l => by
    have h1 := sNum_lt l
    have h2 : c.toNat < 256 := UInt8.toNat_lt c
    rw [sNum_cons, List.length_cons, Nat.pow_succ]
    omega
theorem sNum_append : ∀ x y : List UInt8, sNum (x ++ y) = sNum x + 256 ^ x.length * sNum y
  | [], y => by simp [sNum]
  | c :: x, y => by
    rw [List.cons_append, sNum_cons, sNum_cons, sNum_append x y, List.length_cons, Nat.pow_succ]
    rw [Nat.mul_add, Nat.add_assoc, ← Nat.mul_assoc, Nat.mul_comm 256 (256 ^ x.length)]
theorem shl8 (b n : Nat) : Nat.shiftLeft b (Nat.mul 8 n) = b * 256 ^ n := by
  show b <<< (8 * n) = _
  rw [Nat.shiftLeft_eq, Nat.pow_mul]
theorem shr8 (b n : Nat) : Nat.shiftRight b (Nat.mul 8 n) = b / 256 ^ n := by
  show b >>> (8 * n) = _
  rw [Nat.shiftRight_eq_div_pow, Nat.pow_mul]
theorem sCat_eq (x y : List UInt8) : sCat (sNum x) x.length (sNum y) = sNum (x ++ y) := by
  show sNum x + Nat.shiftLeft (sNum y) (Nat.mul 8 x.length) = _
  rw [shl8, sNum_append, Nat.mul_comm]
theorem sNum_drop (x : List UInt8) (n : Nat) : sNum x / 256 ^ n = sNum (x.drop n) := by
  by_cases h : n ≤ x.length
  · have h1 : sNum x = sNum (x.take n) + 256 ^ n * sNum (x.drop n) := by
      have := sNum_append (x.take n) (x.drop n)
      rw [List.take_append_drop, List.length_take, Nat.min_eq_left h] at this
      exact this
    have h2 : sNum (x.take n) < 256 ^ n := by
      have := sNum_lt (x.take n)
      rwa [List.length_take, Nat.min_eq_left h] at this
    rw [h1, Nat.add_mul_div_left _ _ (Nat.pow_pos (by decide)), Nat.div_eq_of_lt h2, Nat.zero_add]
  · have h1 := sNum_lt x
    have h2 : 256 ^ x.length ≤ 256 ^ n := Nat.pow_le_pow_right (by decide) (by omega)
    rw [Nat.div_eq_of_lt (by omega), List.drop_of_length_le (by omega)]
    rfl
theorem sNum_take (x : List UInt8) (n : Nat) : sNum x % 256 ^ n = sNum (x.take n) := by
  by_cases h : n ≤ x.length
  · have h1 : sNum x = sNum (x.take n) + 256 ^ n * sNum (x.drop n) := by
      have := sNum_append (x.take n) (x.drop n)
      rw [List.take_append_drop, List.length_take, Nat.min_eq_left h] at this
      exact this
    have h2 : sNum (x.take n) < 256 ^ n := by
      have := sNum_lt (x.take n)
      rwa [List.length_take, Nat.min_eq_left h] at this
    rw [h1, Nat.add_mul_mod_self_left, Nat.mod_eq_of_lt h2]
  · have h1 := sNum_lt x
    have h2 : 256 ^ x.length ≤ 256 ^ n := Nat.pow_le_pow_right (by decide) (by omega)
    rw [Nat.mod_eq_of_lt (by omega), List.take_of_length_le (by omega)]
theorem sSub_eq (x : List UInt8) (l n : Nat) : sSub (sNum x) l n = sNum ((x.drop l).take n) := by
  show Nat.mod (Nat.shiftRight (sNum x) (Nat.mul 8 l)) (pow8 n) = _
  rw [shr8, sNum_drop, pow8_eq]
  exact sNum_take _ _
theorem sGet_eq (x : List UInt8) (i : Nat) (h : i < x.length) : sGet (sNum x) i = (x[i]).toNat := by
  show Nat.mod (Nat.shiftRight (sNum x) (Nat.mul 8 i)) 256 = _
  rw [shr8, sNum_drop, List.drop_eq_getElem_cons h, sNum_cons]
  show (x[i].toNat + 256 * _) % 256 = _
  rw [Nat.add_mul_mod_self_left, Nat.mod_eq_of_lt (UInt8.toNat_lt _)]
theorem sBytes_eq : ∀ x : List UInt8, sBytes x.length (sNum x) = x
  | [] => rfl
  | c :: x => by
    show UInt8.ofNat (Nat.mod (sNum (c :: x)) 256) :: sBytes x.length (Nat.div (sNum (c :: x)) 256) = _
    rw [sNum_cons]
    have h : c.toNat < 256 := UInt8.toNat_lt c
    have h1 : Nat.mod (c.toNat + 256 * sNum x) 256 = c.toNat := by show (c.toNat + 256 * sNum x) % 256 = _; omega
    have h2 : Nat.div (c.toNat + 256 * sNum x) 256 = sNum x := by show (c.toNat + 256 * sNum x) / 256 = _; omega
    rw [h1, h2, sBytes_eq x]
    simp
theorem sNum_inj {x y : List UInt8} (hl : x.length = y.length) (h : sNum x = sNum y) : x = y := by
  rw [← sBytes_eq x, ← sBytes_eq y, hl, h]
theorem beqS_eq (x y : List UInt8) : beqS x.length (sNum x) y.length (sNum y) = (x == y) := by
  unfold beqS
  cases h1 : Nat.beq x.length y.length with
  | false =>
    have := beq_ne h1
    show false = _
    symm; rw [beq_eq_false_iff_ne]; intro e; subst e; exact this rfl
  | true =>
    have h1' := beq_eq h1
    show Nat.beq (sNum x) (sNum y) = _
    cases h2 : Nat.beq (sNum x) (sNum y) with
    | true => rw [sNum_inj h1' (beq_eq h2)]; simp
    | false =>
      symm; rw [beq_eq_false_iff_ne]; intro e; subst e; exact beq_ne h2 rfl
theorem blt8_eq : ∀ x y : List UInt8, blt8 x y = Op.bytesLess x y
  | [], [] => rfl
  | [], _ :: _ => rfl
  | _ :: _, [] => rfl
  | a :: x, b :: y => by
    show bsel (Nat.ble (Nat.succ a.toNat) b.toNat) true (bsel (Nat.beq a.toNat b.toNat) (blt8 x y) false) = (a < b || (a == b && Op.bytesLess x y))
    rw [blt8_eq x y]
    cases h1 : Nat.ble (Nat.succ a.toNat) b.toNat with
    | true =>
      have : a < b := UInt8.lt_iff_toNat_lt.2 (ble_le h1)
      simp [this]
    | false =>
      have hn : ¬ a < b := fun h => by have := UInt8.lt_iff_toNat_lt.1 h; have := ble_lt h1; omega
      simp only [bsel_false, hn, decide_false, Bool.false_or]
      cases h2 : Nat.beq a.toNat b.toNat with
      | true =>
        have : a = b := UInt8.toNat_inj.1 (beq_eq h2)
        simp [this]
      | false =>
        have : a ≠ b := fun h => beq_ne h2 (by rw [h])
        simp [this]
theorem size_data (s : ByteArray) : s.data.toList.length = s.size := by cases s; rfl
theorem bytesAV_get : ∀ (l : List UInt8), bytesAV l = l.map fun b => AV.int .u8 (Int.ofNat b.toNat)
  | [] => rfl
  | b :: l => by show AV.int .u8 (Int.ofNat b.toNat) :: bytesAV l = _; rw [bytesAV_get l]; rfl
end Go.CE

namespace Go.CE
section
variable {P : Program} {E : Env} {S : St} {w : World} {at_ : Nat} {look' : Look} {u : Upd} {v : AV} {ρ : Operand → AV} {σ : Operand → Value} {o : Oper}

theorem eqGuard_run {op : BinOp} {t : TypeId} {x y : Operand} {a b : Value} (h1 : ¬ (a = .nilIface ∧ b = .nilIface)) (h2 : ∀ xs ys, ¬ (a = .agg xs ∧ b = .agg ys)) :
    (eqGuard op t x y a b).run P w = .ok () w := by
  unfold eqGuard
  cases a <;> cases b <;> first
    | exact absurd ⟨rfl, rfl⟩ h1
    | exact absurd ⟨rfl, rfl⟩ (h2 _ _)
    | (split <;> rfl)
theorem int_bin {op : BinOp} {t : TypeId} {k j : IntKind} {n m : Int} (h : intBin op k j n m = some v) :
    ∃ y, (binOp op t (.int k n) (.int j m)).run P w = .ok y w ∧ V S v y := by
  cases op <;> simp only [intBin] at h
  case shl =>
    obtain ⟨h1, h2⟩ := bsel_none h
    rw [ile_eq] at h1
    have hm : ¬ m < 0 := by have := of_decide_eq_true h1; omega
    cases h2
    exact ⟨.int k (k.wrap (n * 2 ^ min m.toNat k.bits)), by simp [binOp, Op.shift, hm], by simp only [V]⟩
  case shr =>
    obtain ⟨h1, h2⟩ := bsel_none h
    rw [ile_eq] at h1
    have hm : ¬ m < 0 := by have := of_decide_eq_true h1; omega
    cases h2
    exact ⟨.int k (n.fdiv (2 ^ min m.toNat k.bits)), by simp [binOp, Op.shift, hm], by simp only [V]⟩
  case quo =>
    obtain ⟨h1, h2⟩ := bsel_none' h
    rw [ieq_eq] at h1
    have hm : m ≠ 0 := by simpa using h1
    obtain ⟨h3, h4⟩ := bsel_none h2
    have := keq_eq h3; subst this
    cases h4
    exact ⟨.int k (k.wrap (n.tdiv m)), by simp [binOp, Op.intDiv, hm], by simp only [V, wrapF_eq]⟩
  case rem =>
    obtain ⟨h1, h2⟩ := bsel_none' h
    rw [ieq_eq] at h1
    have hm : m ≠ 0 := by simpa using h1
    obtain ⟨h3, h4⟩ := bsel_none h2
    have := keq_eq h3; subst this
    cases h4
    exact ⟨.int k (n.tmod m), by simp [binOp, Op.intDiv, hm], by simp only [V]⟩
  all_goals
    obtain ⟨h3, h4⟩ := bsel_none h
    have := keq_eq h3; subst this
    cases h4
    refine ⟨_, by simp only [binOp, ne_eq, not_true_eq_false, if_false, Op.intArith, Op.intBits, Op.intCmp]; rfl, ?_⟩
    simp [V, wrapF_eq, addF_eq, subF_eq, ieq_eq, ile_eq, Int.mul_def, bne]
    try (rw [← decide_not, decide_eq_decide]; omega)

theorem str_bin {op : BinOp} {t : TypeId} {x y : ByteArray} (h : strBin op x.data.toList.length (sNum x.data.toList) y.data.toList.length (sNum y.data.toList) = some v) :
    ∃ r, (binOp op t (.string x) (.string y)).run P w = .ok r w ∧ V S v r := by
  have hb : bltS x.data.toList.length (sNum x.data.toList) y.data.toList.length (sNum y.data.toList) = Op.bytesLess x.data.toList y.data.toList := by
    unfold bltS; rw [sBytes_eq, sBytes_eq, blt8_eq]
  cases op <;> simp only [strBin] at h <;> try (cases h; done)
  case add =>
    obtain ⟨h1, h2⟩ := bsel_none h
    cases h2
    have hle := ble_le h1
    have hsz : ¬ ((x.size + y.size : Nat) : Int) > IntKind.i64.max := by
      have e1 := size_data x
      have e2 := size_data y
      have hle' : x.data.toList.length + y.data.toList.length ≤ 1099511627776 := hle
      rw [e1, e2] at hle'
      have : IntKind.i64.max = 9223372036854775807 := by decide
      rw [this]; omega
    refine ⟨.string (x ++ y), ?_, ?_⟩
    · simp only [binOp, Op.stringOp, Sem.run_ite, if_neg hsz]; rfl
    · simp only [V]
      refine ⟨x ++ y, rfl, ?_, ?_⟩
      · simp [ByteArray.data_append]
      · rw [show (x ++ y).data.toList = x.data.toList ++ y.data.toList by simp [ByteArray.data_append], ← sCat_eq]
  all_goals
    cases h
    refine ⟨_, by simp only [binOp, Op.stringOp]; rfl, ?_⟩
    simp only [V, ByteArray.toList_eq, beqS_eq, hb, bne]
theorem eqRes_some {op : BinOp} {b : Bool} (h : eqRes op b = some v) : (op = .eql ∧ v = .bool b) ∨ (op = .neq ∧ v = .bool (!b)) := by
  cases op <;> simp only [eqRes] at h <;> first | (cases h; done) | (cases h; exact .inl ⟨rfl, rfl⟩) | (cases h; exact .inr ⟨rfl, rfl⟩)
/-- '==' and '!=' by the general equality. -/
theorem eq_bin {op : BinOp} {t : TypeId} {x y : Value} {b : Bool} (h : eqRes op b = some v) (hint : ∀ k n, x ≠ .int k n) (hstr : ∀ s, x ≠ .string s) (hfl : ∀ k n, x ≠ .float k n) (hcx : ∀ k n m, x ≠ .complex k n m)
    (he : (Op.equal t x y).run P w = .ok b w) : ∃ r, (binOp op t x y).run P w = .ok r w ∧ V S v r := by
  rcases eqRes_some h with ⟨rfl, rfl⟩ | ⟨rfl, rfl⟩
  · refine ⟨.bool b, ?_, by simp only [V]⟩
    cases x <;> first
      | exact absurd rfl (hint _ _)
      | exact absurd rfl (hstr _)
      | exact absurd rfl (hfl _ _)
      | exact absurd rfl (hcx _ _ _)
      | (simp [binOp, he])
  · refine ⟨.bool !b, ?_, by simp only [V]⟩
    cases x <;> first
      | exact absurd rfl (hint _ _)
      | exact absurd rfl (hstr _)
      | exact absurd rfl (hfl _ _)
      | exact absurd rfl (hcx _ _ _)
      | (simp [binOp, he])
theorem equal_step (t : TypeId) (x y : Value) : Op.equal t x y = Op.equalIn (9999 + 1) t x y := rfl
end
end Go.CE

namespace Go.CE
section
variable {P : Program} {E : Env} {S : St} {w : World} {at_ : Nat} {look' : Look} {u : Upd} {v : AV} {ρ : Operand → AV} {σ : Operand → Value} {o : Oper}

/-- Two plain values that are held against each other. -/
theorem aeq0_run {a b : AV} {x y : Value} {r : Bool} {k : Nat} (hx : V S a x) (hy : V S b y) (h : aeq0 a b = some r) (ht : tagOf a = k) {t : TypeId} {d : TypeDesc} (hd : P.underlying t = some d)
    (htd : tagD d = some k) (n : Nat) : (Op.equalIn (n + 1) t x y).run P w = .ok r w := by
  unfold aeq0 at h
  split at h
  · rename_i j m
    split at h
    · rename_i j' m'
      obtain ⟨h1, h2⟩ := bsel_none h
      have := keq_eq h1; subst this
      cases h2
      simp only [V] at hx hy; subst hx; subst hy
      subst ht
      cases d <;> simp only [tagD, tagOf] at htd <;> first | (cases htd; done) | (simp at htd; done) | (rw [run_equalIn_int w n t _ _ _ _ hd, ieq_eq])
    · cases h
  · rename_i j m
    split at h
    · cases h
      simp only [V] at hx hy
      obtain ⟨s, rfl, rfl, rfl⟩ := hx
      obtain ⟨s', rfl, rfl, rfl⟩ := hy
      subst ht
      cases d <;> simp only [tagD, tagOf] at htd <;> first | (cases htd; done) | (simp at htd; done) | (rw [run_equalIn_string w n t _ _ hd, beqS_eq, ByteArray.toList_eq, ByteArray.toList_eq])
    · cases h
  · split at h
    · cases h
      simp only [V] at hx hy; subst hx; subst hy
      subst ht
      cases d <;> simp only [tagD, tagOf] at htd <;> first | (cases htd; done) | (simp at htd; done) | (rw [run_equalIn_bool' w n t _ _ hd, beqB_eq])
    · cases h
  · cases h
theorem aeq0_tag {a b : AV} {r : Bool} (h : aeq0 a b = some r) : tagOf b = tagOf a := by
  unfold aeq0 at h
  split at h <;> first
    | (split at h <;> first | rfl | cases h)
    | cases h
theorem aeqL_cons {xs ys : List AV} {p : Nat × Nat} {lv : List (Nat × Nat)} {r : Bool} (h : aeqL xs ys (p :: lv) = some r) :
    ∃ a b t u, xs[p.1]? = some a ∧ ys[p.1]? = some b ∧ tagOf a = p.2 ∧ aeq0 a b = some t ∧ aeqL xs ys lv = some u ∧ r = (t && u) := by
  obtain ⟨a, h1, h2⟩ := obind_eq (show obind (nth xs p.1) (fun a => obind (nth ys p.1) fun b => bsel (Nat.beq (tagOf a) p.2) (obind (aeq0 a b) fun t => obind (aeqL xs ys lv) fun u => some (bsel t u false)) none) = some r from h)
  obtain ⟨b, h3, h4⟩ := obind_eq h2
  obtain ⟨h5, h6⟩ := bsel_none h4
  obtain ⟨t, h7, h8⟩ := obind_eq h6
  obtain ⟨u, h9, h10⟩ := obind_eq h8
  rw [nth_eq] at h1 h3
  refine ⟨a, b, t, u, h1, h3, beq_eq h5, h7, h9, ?_⟩
  cases h10
  cases t <;> rfl
theorem aeqL_append {xs ys : List AV} : ∀ {l1 l2 : List (Nat × Nat)} {r : Bool}, aeqL xs ys (l1 ++ l2) = some r → ∃ r1 r2, aeqL xs ys l1 = some r1 ∧ aeqL xs ys l2 = some r2 ∧ r = (r1 && r2)
  | [], l2, r, h => ⟨true, r, rfl, h, by simp⟩
  | p :: l1, l2, r, h => by
    obtain ⟨a, b, t, u, h1, h2, h3, h4, h5, h6⟩ := aeqL_cons (lv := l1 ++ l2) h
    obtain ⟨r1, r2, h7, h8, h9⟩ := aeqL_append h5
    refine ⟨t && r1, r2, ?_, h8, by rw [h6, h9, Bool.and_assoc]⟩
    show obind (nth xs p.1) (fun a => obind (nth ys p.1) fun b => bsel (Nat.beq (tagOf a) p.2) (obind (aeq0 a b) fun t => obind (aeqL xs ys l1) fun u => some (bsel t u false)) none) = _
    rw [nth_eq, nth_eq, h1, h2]
    simp only [obind_some]
    rw [h3, show Nat.beq p.2 p.2 = true from Nat.beq_refl _, bsel_true, h4, h7]
    simp only [obind_some]
    cases t <;> rfl
theorem aeqL_shift {xs ys : List AV} {off n : Nat} : ∀ {l : List (Nat × Nat)} {r : Bool}, aeqL xs ys (l.map fun p => (off + p.1, p.2)) = some r → (∀ p ∈ l, p.1 < n) →
    aeqL ((xs.drop off).take n) ((ys.drop off).take n) l = some r
  | [], r, h, _ => h
  | p :: l, r, h, hn => by
    rw [List.map_cons] at h
    obtain ⟨a, b, t, u, h1, h2, h3, h4, h5, h6⟩ := aeqL_cons h
    have ih := aeqL_shift (n := n) h5 fun q hq => hn q (by simp [hq])
    have hp := hn p (by simp)
    have g : ∀ zs : List AV, ((zs.drop off).take n)[p.1]? = zs[off + p.1]? := fun zs => by
      rw [List.getElem?_take, if_pos hp, List.getElem?_drop]
    show obind (nth ((xs.drop off).take n) p.1) (fun a => obind (nth ((ys.drop off).take n) p.1) fun b => bsel (Nat.beq (tagOf a) p.2) (obind (aeq0 a b) fun t => obind (aeqL ((xs.drop off).take n) ((ys.drop off).take n) l) fun u => some (bsel t u false)) none) = _
    rw [nth_eq, nth_eq, g, g, h1, h2]
    simp only [obind_some]
    have h3' : tagOf a = p.2 := h3
    rw [h3', show Nat.beq p.2 p.2 = true from Nat.beq_refl _, bsel_true, h4, ih]
    simp only [obind_some]
    rw [h6]
    cases t <;> rfl
theorem info_of_underlying {t : TypeId} {d : TypeDesc} (h : P.underlying t = some d) : ∃ i, P.info? t = some i := by
  unfold Program.underlying at h
  split at h
  · rename_i hh; exact ⟨_, hh⟩
  · rename_i hh; exact ⟨_, hh⟩
  · cases h
/-- The equality of values whose cells are known. -/
theorem equalIn_leaves : ∀ (n : Nat) (t : TypeId) (lv : List (Nat × Nat)), leaves P n t = some lv → ∀ (d : Nat), n ≤ d → ∀ (x y : Value) (as bs : List AV) (r : Bool),
    ((∃ fs, P.underlying t = some (.struct fs)) → (∃ cx cy, x = .agg cx ∧ y = .agg cy)) → (∀ a, as[0]? = some a → (∀ fs, P.underlying t ≠ some (.struct fs)) → V S a x) → (∀ b, bs[0]? = some b → (∀ fs, P.underlying t ≠ some (.struct fs)) → V S b y) →
    (∀ cx, x = .agg cx → VL S as cx.toList) → (∀ cy, y = .agg cy → VL S bs cy.toList) → aeqL as bs lv = some r → (Op.equalIn d t x y).run P w = .ok r w
  | 0, _, _, h, _, _, _, _, _, _, _, _, _, _, _, _, _ => by cases h
  | n + 1, t, lv, h, d, hd, x, y, as, bs, r, hst, hva, hvb, hla, hlb, hr => by
    obtain ⟨d, rfl⟩ : ∃ d', d = d' + 1 := ⟨d - 1, by omega⟩
    unfold leaves at h
    split at h
    · rename_i fs hfs
      obtain ⟨cx, cy, rfl, rfl⟩ := hst ⟨fs, hfs⟩
      have hvx := hla cx rfl
      have hvy := hlb cy rfl
      split at h
      · cases h
      · rename_i hso
        have hso' : P.stoodInHeld t = false := by simpa using hso
        rw [run_equalIn_struct w d t cx cy (by simp [Program.fieldsOf, hfs]) hso']
        have hf : (P.fieldsOf t).toList = fs.toList := by simp [Program.fieldsOf, hfs]
        rw [hf]
        generalize fs.toList = l at h
        clear hfs hf hst hva hvb hla hlb
        induction l generalizing lv r with
        | nil => cases h; cases hr; simp [Op.eqFields]
        | cons f l ih =>
          unfold leavesF at h
          split at h
          · cases h
          · rename_i hname
            split at h
            · rename_i l1 a1 hl1 ha1
              split at h
              · rename_i hall
                cases h
                obtain ⟨r1, r2, hr1, hr2, rfl⟩ := aeqL_append hr
                have hall' : ∀ p ∈ l1, p.1 < P.cellsOf f.type := by simpa using hall
                have hsh := aeqL_shift hr1 hall'
                have ih' := ih a1 r2 hr2 ha1
                -- the field's own values
                have hdF : ∃ dF, P.underlying f.type = some dF := by
                  cases n with
                  | zero => cases hl1
                  | succ n =>
                    unfold leaves at hl1
                    split at hl1
                    · rename_i hh; exact ⟨_, hh⟩
                    · rename_i hh; exact ⟨_, hh⟩
                    · cases hl1
                obtain ⟨dF, hdF⟩ := hdF
                obtain ⟨iF, hiF⟩ := info_of_underlying hdF
                have hsz : P.cellsOf f.type = iF.size := by simp [Program.cellsOf, hiF]
                have hpart : ∀ (cs : Array Value) (zs : List AV), VL S zs cs.toList → (∀ p ∈ l1, ∃ a, ((zs.drop f.offset).take (P.cellsOf f.type))[p.1]? = some a ∧ tagOf a = p.2) →
                    ∃ z, (part f.type cs f.offset).run P w = .ok z w ∧ ((∃ gs, P.underlying f.type = some (.struct gs)) → ∃ cz, z = .agg cz) ∧
                      (∀ a, ((zs.drop f.offset).take (P.cellsOf f.type))[0]? = some a → (∀ gs, P.underlying f.type ≠ some (.struct gs)) → V S a z) ∧
                      (∀ cz, z = .agg cz → VL S ((zs.drop f.offset).take (P.cellsOf f.type)) cz.toList) := by
                  intro cs zs hz hin
                  have hagg : isAggD dF = true ∨ isAggD dF = false := by cases isAggD dF <;> simp
                  rcases hagg with hagg | hagg
                  · refine ⟨_, part_run (P := P) (w := w) (cs := cs) hiF hdF (fun hn => by rw [hagg] at hn; cases hn), ?_⟩
                    rw [hagg, if_pos rfl]
                    refine ⟨fun _ => ⟨_, rfl⟩, fun a _ hns => ?_, fun cz hcz => ?_⟩
                    · exfalso
                      -- an array: it has no leaves
                      cases n with
                      | zero => cases hl1
                      | succ n =>
                        unfold leaves at hl1
                        rw [hdF] at hl1
                        cases dF <;> first
                          | (exact hns _ hdF)
                          | (simp [isAggD] at hagg; done)
                          | (simp [tagD] at hl1; done)
                    · cases hcz
                      have := VL.take (P.cellsOf f.type) (VL.drop f.offset hz)
                      simpa [hsz, List.take_drop] using this
                  · have hl1' : l1 = [(0, (tagD dF).getD 0)] := by
                      cases n with
                      | zero => cases hl1
                      | succ n =>
                        unfold leaves at hl1
                        rw [hdF] at hl1
                        cases dF <;> first
                          | (simp [isAggD] at hagg; done)
                          | (simp [tagD] at hl1; done)
                          | (simp [tagD] at hl1; subst hl1; rfl)
                    obtain ⟨a, ha, htag⟩ := hin (0, (tagD dF).getD 0) (by rw [hl1']; exact List.mem_singleton.2 rfl)
                    have htag2 : tagOf a ≠ 9 := by
                      rw [htag]; cases dF <;> simp [tagD]
                    have ha' : (zs.drop f.offset)[0]? = some a := by
                      rw [List.getElem?_take] at ha
                      split at ha
                      · exact ha
                      · cases ha
                    rw [List.getElem?_drop] at ha'
                    obtain ⟨z, hz1, hz2⟩ := hz.get _ _ ha'
                    have hz1' : cs[f.offset]? = some z := by simpa using hz1
                    refine ⟨z, ?_, fun ⟨gs, hgs⟩ => ?_, fun a' ha'' _ => ?_, fun cz hcz => ?_⟩
                    · rw [part_run (P := P) (w := w) (cs := cs) hiF hdF (fun _ => ⟨z, hz1'⟩), hagg, if_neg (by simp), hz1']
                      rfl
                    · rw [hdF] at hgs; cases hgs; simp [isAggD] at hagg
                    · rw [ha] at ha''; cases ha''; exact hz2
                    · subst hcz
                      exfalso
                      cases a <;> simp only [V] at hz2 <;> first
                        | (cases hz2; done)
                        | (obtain ⟨_, hh, _⟩ := hz2; cases hh; done)
                        | (obtain ⟨_, _, hh, _⟩ := hz2; cases hh; done)
                        | (exact htag2 rfl)
                have hins : ∀ p ∈ l1, (∃ a, ((as.drop f.offset).take (P.cellsOf f.type))[p.1]? = some a ∧ tagOf a = p.2) ∧ (∃ b, ((bs.drop f.offset).take (P.cellsOf f.type))[p.1]? = some b ∧ tagOf b = p.2) := by
                  clear hpart hr1 hall hall' hl1 ih ih' hr
                  induction l1 generalizing r1 with
                  | nil => intro p hp; cases hp
                  | cons q l1 ih1 =>
                    obtain ⟨a, b, t', u', h1, h2, h3, h4, h5, _⟩ := aeqL_cons hsh
                    intro p hp
                    rcases List.mem_cons.1 hp with rfl | hp
                    · exact ⟨⟨a, h1, h3⟩, ⟨b, h2, (aeq0_tag h4).trans h3⟩⟩
                    · exact ih1 _ h5 p hp
                obtain ⟨zx, hx1, hx2, hx3, hx4⟩ := hpart cx as hvx fun p hp => (hins p hp).1
                obtain ⟨zy, hy1, hy2, hy3, hy4⟩ := hpart cy bs hvy fun p hp => (hins p hp).2
                have heq := equalIn_leaves n f.type l1 hl1 d (by omega) zx zy _ _ r1 (fun hh => by
                  obtain ⟨cz, hcz⟩ := hx2 hh
                  obtain ⟨cz', hcz'⟩ := hy2 hh
                  exact ⟨cz, cz', hcz, hcz'⟩) hx3 hy3 hx4 hy4 hsh
                simp only [Op.eqFields, Sem.run_ite, ne_eq, hname, not_false_eq_true, if_true, Sem.run_bind, hx1, hy1, heq, Result.andThen]
                cases r1
                · simp
                · simpa using ih'
              · cases h
            · cases h
    · rename_i dd hns hdd
      split at h
      · rename_i k hk
        cases h
        obtain ⟨a, b, t', u', h1, h2, h3, h4, h5, rfl⟩ := aeqL_cons hr
        cases h5
        rw [Bool.and_true]
        have hns' : ∀ fs, P.underlying t ≠ some (.struct fs) := fun fs e => by rw [hdd] at e; cases e; exact hns _ rfl
        exact aeq0_run (hva a h1 hns') (hvb b h2 hns') h4 h3 hdd hk d
      · cases h
    · cases h
end
end Go.CE

namespace Go.CE
section
variable {P : Program} {E : Env} {S : St} {w : World} {at_ : Nat} {look' : Look} {u : Upd} {v : AV} {ρ : Operand → AV} {σ : Operand → Value} {o : Oper}

theorem kind_of_types {t : TypeId} (h : (mkTI P t).kind ≠ .other) : ∃ d, P.underlying t = some d ∧ (mkTI P t).kind = kindOfT P t d := by
  obtain ⟨i, d, _, h2, _, _, _, h6⟩ := mkTI_size (P := P) (t := t) (.inr (.inr h))
  exact ⟨d, h2, h6⟩
theorem mkTI_bool {t : TypeId} {k : Nat} (h : boolK (mkTI P t).kind = some k) : P.underlying t = some .bool := by
  obtain ⟨d, hd, hk⟩ := kind_of_types (P := P) (t := t) (by intro e; rw [e] at h; cases h)
  rw [hk] at h
  cases d <;> simp only [kindOfT] at h <;> first | exact hd | (cases h; done) | (split at h <;> cases h)
theorem mkTI_flat {t : TypeId} {lv : List (Nat × Nat)} (h : flatK (mkTI P t).kind = some lv) : ∃ fs, P.underlying t = some (.struct fs) ∧ leavesT P t = some lv := by
  obtain ⟨d, hd, hk⟩ := kind_of_types (P := P) (t := t) (by intro e; rw [e] at h; cases h)
  rw [hk] at h
  cases d <;> simp only [kindOfT] at h <;> first | exact ⟨_, hd, h⟩ | (cases h; done) | (split at h <;> cases h)
theorem mkTI_nil {t : TypeId} {c : Nat} (h : nilK (mkTI P t).kind = c) (hc : c ≠ 0) : ∃ d, P.underlying t = some d ∧
    ((c = 1 ∧ ∃ e, d = .pointer e) ∨ (c = 2 ∧ ∃ a b e, d = .func a b e) ∨ (c = 3 ∧ ∃ ms, d = .interface ms) ∨ (c = 4 ∧ ∃ e, d = .slice e) ∨ (c = 5 ∧ ∃ k e, d = .map k e)) := by
  obtain ⟨d, hd, hk⟩ := kind_of_types (P := P) (t := t) (by intro e; rw [e] at h; exact hc h.symm)
  rw [hk] at h
  refine ⟨d, hd, ?_⟩
  cases d <;> simp only [kindOfT] at h <;> first
    | (exact absurd h.symm hc)
    | (subst h; exact .inl ⟨rfl, _, rfl⟩)
    | (subst h; exact .inr (.inl ⟨rfl, _, _, _, rfl⟩))
    | (subst h; exact .inr (.inr (.inl ⟨rfl, _, rfl⟩)))
    | (split at h <;> first | (exact absurd h.symm hc) | (subst h; exact .inr (.inr (.inr (.inl ⟨rfl, _, rfl⟩)))) | (subst h; exact .inr (.inr (.inr (.inr ⟨rfl, _, _, rfl⟩)))))
/-- What a value that can be held against nil looks like. -/
theorem isNil_V {a : AV} {x : Value} {c : Nat} {b : Bool} (hv : V S a x) (h : isNil a = some (c, b)) :
    (c = 1 ∧ ∃ p, x = .pointer p ∧ p.isNone = b) ∨ (c = 4 ∧ ∃ p n m, x = .slice p n m ∧ p.isNone = b) ∨ (c = 5 ∧ ∃ p, x = .map p ∧ p.isNone = b) ∨
    (c = 2 ∧ ((b = true ∧ x = .nilFunc) ∨ (b = false ∧ ∃ f p q, x = .func f p q))) ∨ (c = 3 ∧ ((b = true ∧ x = .nilIface) ∨ (b = false ∧ ∃ t y, x = .iface t y))) := by
  cases a <;> simp only [isNil] at h <;> first
    | (cases h; done)
    | (simp only [Option.some.injEq, Prod.mk.injEq] at h
       obtain ⟨rfl, rfl⟩ := h
       simp only [V] at hv
       first
        | (subst hv; simp; done)
        | (obtain ⟨_, ad, rfl, _⟩ := hv; simp; done)
        | (obtain ⟨_, ad, cap, rfl, _⟩ := hv; simp; done)
        | (obtain ⟨B, s, vs, rfl, _⟩ := hv; simp; done)
        | (obtain ⟨B, s, rfl, _⟩ := hv; simp; done)
        | (obtain ⟨B, rfl, _⟩ := hv; simp; done))
theorem nil_bin {op : BinOp} {t : TypeId} {a b : AV} {x y : Value} {xo yo : Operand} (hE : EnvTypes P E) (hx : V S a x) (hy : V S b y)
    (h : obind (E.ti.get t) (fun ti => nilBin op (nilK ti.kind) (isCon xo || isCon yo) a b) = some v) :
    ∃ r, (do eqGuard op t xo yo x y; binOp op t x y : Sem Value).run P w = .ok r w ∧ V S v r := by
  obtain ⟨ti, h1, h2⟩ := obind_eq h
  have := hE t ti h1; subst this
  obtain ⟨⟨c, ba⟩, h3, h4⟩ := obind_eq h2
  obtain ⟨⟨c', bb⟩, h5, h6⟩ := obind_eq h4
  obtain ⟨h7, h8⟩ := bsel_none h6
  obtain ⟨h9, h10⟩ := bsel_none h8
  have e1 := beq_eq h7; simp only at e1
  have e2 := beq_eq h9; simp only at e2
  have hvx := isNil_V hx h3
  have hvy := isNil_V hy h5
  have hc : c ≠ 0 := by rcases hvx with ⟨rfl, _⟩ | ⟨rfl, _⟩ | ⟨rfl, _⟩ | ⟨rfl, _⟩ | ⟨rfl, _⟩ <;> decide
  obtain ⟨d, hd, hdc⟩ := mkTI_nil (P := P) (t := t) e1.symm hc
  rw [← e1] at e2 h10
  subst e2
  -- what is asked
  have hres : eqRes op (ba && bb) = some v ∧ (c' = 3 → ba = true → bb = true → (isCon xo || isCon yo) = true) ∧ (ba = true ∨ bb = true) := by
    simp only at h10
    cases ba <;> cases bb <;> simp only [bsel_true, bsel_false] at h10
    · cases h10
    · exact ⟨h10, fun _ hh => (Bool.noConfusion hh), .inr rfl⟩
    · exact ⟨h10, fun _ _ hh => (Bool.noConfusion hh), .inl rfl⟩
    · obtain ⟨h11, h12⟩ := bsel_none h10
      refine ⟨h12, fun hc3 _ _ => ?_, .inl rfl⟩
      subst hc3
      exact h11
  obtain ⟨hr, hcon, hone⟩ := hres
  -- the guard says nothing
  have hg : (eqGuard op t xo yo x y).run P w = .ok () w := by
    by_cases hn : x = .nilIface ∧ y = .nilIface
    · obtain ⟨rfl, rfl⟩ := hn
      have hc3 : c' = 3 ∧ ba = true ∧ bb = true := by
        rcases hvx with ⟨_, _, hh, _⟩ | ⟨_, _, _, _, hh, _⟩ | ⟨_, _, hh, _⟩ | ⟨_, ⟨_, hh⟩ | ⟨_, _, _, _, hh⟩⟩ | ⟨hc3, ⟨h1, _⟩ | ⟨_, _, _, hh⟩⟩ <;> first
          | (cases hh; done)
          | (refine ⟨hc3, h1, ?_⟩
             rcases hvy with ⟨_, _, hh, _⟩ | ⟨_, _, _, _, hh, _⟩ | ⟨_, _, hh, _⟩ | ⟨_, ⟨_, hh⟩ | ⟨_, _, _, _, hh⟩⟩ | ⟨_, ⟨h1, _⟩ | ⟨_, _, _, hh⟩⟩ <;> first | (cases hh; done) | exact h1)
      have hcc := hcon hc3.1 hc3.2.1 hc3.2.2
      rcases eqRes_some hr with ⟨rfl, _⟩ | ⟨rfl, _⟩ <;> (cases xo <;> cases yo <;> first | (simp [isCon] at hcc; done) | rfl)
    · refine eqGuard_run hn (fun xs ys hh => ?_)
      obtain ⟨rfl, rfl⟩ := hh
      rcases hvx with ⟨_, _, hh, _⟩ | ⟨_, _, _, _, hh, _⟩ | ⟨_, _, hh, _⟩ | ⟨_, ⟨_, hh⟩ | ⟨_, _, _, _, hh⟩⟩ | ⟨_, ⟨_, hh⟩ | ⟨_, _, _, hh⟩⟩ <;> cases hh
  have hq : (Op.equal t x y).run P w = .ok (ba && bb) w := by
    rw [equal_step]
    generalize (9999 : Nat) = dd
    rcases hvx with ⟨rfl, p, rfl, hp⟩ | ⟨rfl, p, n, m, rfl, hp⟩ | ⟨rfl, p, rfl, hp⟩ | ⟨rfl, hp⟩ | ⟨rfl, hp⟩ <;>
    rcases hvy with ⟨hc2, q, rfl, hq⟩ | ⟨hc2, q, n', m', rfl, hq⟩ | ⟨hc2, q, rfl, hq⟩ | ⟨hc2, hq⟩ | ⟨hc2, hq⟩ <;> first
      | (exact absurd hc2 (by decide))
      | skip
    all_goals
      rcases hdc with ⟨hc3, e, rfl⟩ | ⟨hc3, e1, e2, e3, rfl⟩ | ⟨hc3, ms, rfl⟩ | ⟨hc3, e, rfl⟩ | ⟨hc3, k, e, rfl⟩ <;> first
        | (exact absurd hc3 (by decide))
        | skip
    · cases p <;> cases q <;> simp at hp hq <;> subst hp <;> subst hq <;> first
        | (exfalso; simp at hone; done)
        | (simp [Op.equalIn, underlying_run hd])
    · cases p <;> cases q <;> simp at hp hq <;> subst hp <;> subst hq <;> first
        | (exfalso; simp at hone; done)
        | (simp [Op.equalIn, underlying_run hd])
    · cases p <;> cases q <;> simp at hp hq <;> subst hp <;> subst hq <;> first
        | (exfalso; simp at hone; done)
        | (simp [Op.equalIn, underlying_run hd])
    · rcases hp with ⟨rfl, rfl⟩ | ⟨rfl, f, p, q, rfl⟩ <;> rcases hq with ⟨rfl, rfl⟩ | ⟨rfl, f', p', q', rfl⟩ <;> first
        | (exfalso; simp at hone; done)
        | (simp [Op.equalIn, underlying_run hd])
    · rcases hp with ⟨rfl, rfl⟩ | ⟨rfl, f, p, rfl⟩ <;> rcases hq with ⟨rfl, rfl⟩ | ⟨rfl, f', p', rfl⟩ <;> first
        | (exfalso; simp at hone; done)
        | (simp [Op.equalIn, underlying_run hd])
  obtain ⟨r, hr1, hr2⟩ := eq_bin (P := P) (S := S) (w := w) hr (t := t) (x := x) (y := y)
    (fun k n e => by subst e; rcases hvx with ⟨_, _, hh, _⟩ | ⟨_, _, _, _, hh, _⟩ | ⟨_, _, hh, _⟩ | ⟨_, ⟨_, hh⟩ | ⟨_, _, _, _, hh⟩⟩ | ⟨_, ⟨_, hh⟩ | ⟨_, _, _, hh⟩⟩ <;> cases hh)
    (fun s e => by subst e; rcases hvx with ⟨_, _, hh, _⟩ | ⟨_, _, _, _, hh, _⟩ | ⟨_, _, hh, _⟩ | ⟨_, ⟨_, hh⟩ | ⟨_, _, _, _, hh⟩⟩ | ⟨_, ⟨_, hh⟩ | ⟨_, _, _, hh⟩⟩ <;> cases hh)
    (fun k n e => by subst e; rcases hvx with ⟨_, _, hh, _⟩ | ⟨_, _, _, _, hh, _⟩ | ⟨_, _, hh, _⟩ | ⟨_, ⟨_, hh⟩ | ⟨_, _, _, _, hh⟩⟩ | ⟨_, ⟨_, hh⟩ | ⟨_, _, _, hh⟩⟩ <;> cases hh)
    (fun k n m e => by subst e; rcases hvx with ⟨_, _, hh, _⟩ | ⟨_, _, _, _, hh, _⟩ | ⟨_, _, hh, _⟩ | ⟨_, ⟨_, hh⟩ | ⟨_, _, _, _, hh⟩⟩ | ⟨_, ⟨_, hh⟩ | ⟨_, _, _, hh⟩⟩ <;> cases hh) hq
  exact ⟨r, by simp [hg, hr1], hr2⟩
theorem snd_bin {op : BinOp} {t t' : TypeId} {x y : Operand} (ho : o.op = .binOp op t x y t') (hE : EnvTypes P E) (hS : Rel S) (hw : S.hp = w.heap) (hρ : ∀ x, V S (ρ x) (σ x)) (hl : UpdOK S.look look' at_ u)
    (h : smBin op t x y t' E ρ S.look at_ = some (v, u)) : Done P S w at_ look' u v (execOp σ o) := by
  obtain ⟨h1, rfl⟩ := pure1_some h
  have key : ∃ r, (do eqGuard op t x y (σ x) (σ y); binOp op t (σ x) (σ y) : Sem Value).run P w = .ok r w ∧ V S v r := by
    have hx := hρ x
    have hy := hρ y
    revert h1 hx hy
    unfold binS
    split
    · rename_i k n hex
      split
      · rename_i j m hey
        intro h1 hx hy
        rw [hex] at hx; rw [hey] at hy
        simp only [V] at hx hy
        obtain ⟨r, hr1, hr2⟩ := int_bin (P := P) (S := S) (w := w) (t := t) h1
        exact ⟨r, by rw [hx, hy]; simp [eqGuard_run (P := P) (w := w) (op := op) (t := t) (x := x) (y := y) (a := .int k n) (b := .int j m) (by simp) (by simp), hr1], hr2⟩
      · intro h1; cases h1
    · rename_i n b hex
      split
      · rename_i m c hey
        intro h1 hx hy
        rw [hex] at hx; rw [hey] at hy
        simp only [V] at hx hy
        obtain ⟨s, hx, rfl, rfl⟩ := hx
        obtain ⟨s', hy, rfl, rfl⟩ := hy
        obtain ⟨r, hr1, hr2⟩ := str_bin (P := P) (S := S) (w := w) (t := t) h1
        exact ⟨r, by rw [hx, hy]; simp [eqGuard_run (P := P) (w := w) (op := op) (t := t) (x := x) (y := y) (a := .string s) (b := .string s') (by simp) (by simp), hr1], hr2⟩
      · intro h1; cases h1
    · rename_i a hex
      split
      · rename_i b hey
        intro h1 hx hy
        rw [hex] at hx; rw [hey] at hy
        simp only [V] at hx hy
        obtain ⟨ti, h2, h3⟩ := obind_eq h1
        have := hE t ti h2; subst this
        obtain ⟨k, h4, h5⟩ := obind_eq h3
        have hd := mkTI_bool h4
        obtain ⟨r, hr1, hr2⟩ := eq_bin (P := P) (S := S) (w := w) h5 (t := t) (x := .bool a) (y := .bool b) (by simp) (by simp) (by simp) (by simp) (by rw [equal_step, run_equalIn_bool' w _ t a b hd, beqB_eq])
        exact ⟨r, by rw [hx, hy]; simp [eqGuard_run (P := P) (w := w) (op := op) (t := t) (x := x) (y := y) (a := .bool a) (b := .bool b) (by simp) (by simp), hr1], hr2⟩
      · intro h1; cases h1
    · rename_i xs hex
      split
      · rename_i ys hey
        intro h1 hx hy
        rw [hex] at hx; rw [hey] at hy
        simp only [V] at hx hy
        obtain ⟨cx, hx, hvx, _⟩ := hx
        obtain ⟨cy, hy, hvy, _⟩ := hy
        obtain ⟨ti, h2, h3⟩ := obind_eq h1
        have := hE t ti h2; subst this
        obtain ⟨lv, h4, h5⟩ := obind_eq h3
        obtain ⟨b, h6, h7⟩ := obind_eq h5
        obtain ⟨fs, hd, hlv⟩ := mkTI_flat h4
        unfold leavesT at hlv
        split at hlv
        · cases hlv
        · rename_i hgt
          have hgt' : P.eqGuardType P.depth t = false := by simpa using hgt
          have hq := equalIn_leaves (P := P) (S := S) (w := w) 8 t lv hlv (9999 + 1) (by decide) (.agg cx) (.agg cy) xs ys b (fun _ => ⟨cx, cy, rfl, rfl⟩) (fun a _ hn => absurd hd (hn fs)) (fun a _ hn => absurd hd (hn fs))
            (fun c hc => by cases hc; exact hvx) (fun c hc => by cases hc; exact hvy) h6
          obtain ⟨r, hr1, hr2⟩ := eq_bin (P := P) (S := S) (w := w) h7 (t := t) (x := .agg cx) (y := .agg cy) (by simp) (by simp) (by simp) (by simp) (by rw [equal_step]; exact hq)
          exact ⟨r, by rw [hx, hy]; simp [run_eqGuard_agg (P := P) w op t x y cx cy hgt', hr1], hr2⟩
      · intro h1; cases h1
    · intro h1 hx hy
      exact nil_bin hE hx hy h1
  obtain ⟨r, hr1, hr2⟩ := key
  refine Done.keep hS hw hl (w' := w) (x := r) ?_ rfl hr2
  have he : execOp σ o = (do pure (Next.value (← (do eqGuard op t x y (σ x) (σ y); binOp op t (σ x) (σ y) : Sem Value))) : Sem Next) := by
    unfold execOp; rw [ho]
  rw [he, Sem.run_bind, hr1]
  rfl
theorem snd_un {op : UnOp} {t : TypeId} {x : Operand} (ho : o.op = .unOp op t x) (hS : Rel S) (hw : S.hp = w.heap) (hρ : ∀ x, V S (ρ x) (σ x)) (hl : UpdOK S.look look' at_ u)
    (h : smUn op t x E ρ S.look at_ = some (v, u)) : Done P S w at_ look' u v (execOp σ o) := by
  obtain ⟨h1, rfl⟩ := pure1_some h
  have hx := hρ x
  unfold unS at h1
  split at h1
  · rename_i b he
    cases h1
    rw [he] at hx; simp only [V] at hx
    exact Done.keep hS hw hl (w' := w) (x := .bool !b) (by simp [execOp, ho, hx, Op.unary]) rfl (by simp only [V])
  · rename_i k n he
    cases h1
    rw [he] at hx; simp only [V] at hx
    exact Done.keep hS hw hl (w' := w) (x := .int k (k.wrap (0 - n))) (by simp [execOp, ho, hx, Op.unary, Op.intArith]) rfl (by simp [V, wrapF_eq, subF_eq])
  · rename_i k n he
    rw [he] at hx; simp only [V] at hx
    obtain ⟨h3, h4⟩ := bsel_none h1
    cases h4
    exact Done.keep hS hw hl (w' := w) (by simp only [execOp, ho, hx, Op.unary, Op.intBits]; rfl) rfl (by simp only [V])
  · cases h1
end
end Go.CE

namespace Go.CE
section
variable {P : Program} {E : Env} {S : St} {w : World} {at_ : Nat} {look' : Look} {u : Upd} {v : AV} {ρ : Operand → AV} {σ : Operand → Value} {o : Oper}

theorem mkTI_str {t : TypeId} {k : Nat} (h : strK (mkTI P t).kind = some k) : P.underlying t = some .string := by
  obtain ⟨d, hd, hk⟩ := kind_of_types (P := P) (t := t) (by intro e; rw [e] at h; cases h)
  rw [hk] at h
  cases d <;> simp only [kindOfT] at h <;> first | exact hd | (cases h; done) | (split at h <;> cases h)
theorem kind_str {t : TypeId} (h : (mkTI P t).kind = .string) : P.underlying t = some .string := mkTI_str (k := 0) (by rw [h]; rfl)
theorem kind_int {t : TypeId} {k : IntKind} (h : (mkTI P t).kind = .int k) : P.underlying t = some (.int k) := by
  obtain ⟨d, hd, hk⟩ := kind_of_types (P := P) (t := t) (by intro e; rw [e] at h; cases h)
  rw [hk] at h
  cases d <;> simp only [kindOfT] at h <;> first | (cases h; exact hd) | (cases h; done) | (split at h <;> cases h)
theorem kind_slice {t : TypeId} {es eb : Nat} {ez : List AV} {u8 : Bool} (h : (mkTI P t).kind = .slice es eb ez u8) :
    ∃ e ie, P.underlying t = some (.slice e) ∧ P.info? e = some ie ∧ es = ie.size ∧ eb = ie.bytes ∧ ez = zcellsOf ie ∧ (u8 = true → P.underlying e = some (.int .u8)) := by
  obtain ⟨d, hd, hk⟩ := kind_of_types (P := P) (t := t) (by intro e; rw [e] at h; cases h)
  rw [hk] at h
  cases d <;> simp only [kindOfT] at h <;> first
    | (cases h; done)
    | (split at h
       · rename_i e ie hie
         cases h
         refine ⟨_, ie, hd, hie, rfl, rfl, rfl, fun hu => ?_⟩
         unfold isU8 at hu
         split at hu
         · rename_i hh; exact hh
         · cases hu
       · cases h)
    | (split at h <;> cases h)
theorem kind_map {t : TypeId} {tg : Option Nat} {z : AV} (h : (mkTI P t).kind = .map tg z) :
    ∃ k e ie, P.underlying t = some (.map k e) ∧ P.info? e = some ie ∧ tg = tagT P k ∧ z = zeroOf ie := by
  obtain ⟨d, hd, hk⟩ := kind_of_types (P := P) (t := t) (by intro e; rw [e] at h; cases h)
  rw [hk] at h
  cases d <;> simp only [kindOfT] at h <;> first
    | (cases h; done)
    | (split at h
       · rename_i e ie hie
         cases h
         exact ⟨_, _, ie, hd, hie, rfl, rfl⟩
       · cases h)
    | (split at h <;> cases h)
theorem mkTI_map {t : TypeId} {p : Nat × AV} (h : mapK (mkTI P t).kind = some p) :
    ∃ k e ie d, P.underlying t = some (.map k e) ∧ P.info? e = some ie ∧ P.underlying k = some d ∧ tagD d = some p.1 ∧ p.2 = zeroOf ie := by
  cases hk : (mkTI P t).kind <;> rw [hk] at h <;> try (cases h; done)
  rename_i tg z
  cases tg with
  | none => cases h
  | some tg =>
    cases h
    obtain ⟨k, e, ie, h1, h2, h3, h4⟩ := kind_map hk
    unfold tagT at h3
    split at h3
    · rename_i d hd; exact ⟨k, e, ie, d, h1, h2, hd, h3.symm, h4⟩
    · cases h3
theorem bytes_fold : ∀ (l : List UInt8) (s : ByteArray), ((l.map fun b => (Int.ofNat b.toNat)).foldl (fun r n => r.push (UInt8.ofNat n.toNat)) s).data.toList = s.data.toList ++ l
  | [], s => by simp
  | b :: l, s => by
    rw [List.map_cons, List.foldl_cons, bytes_fold l]
    simp [ByteArray.push]
theorem mapO_bytes : ∀ {l : List AV} {s : List UInt8}, mapO byteOf1 l = some s → ∃ ns : List Nat, l = ns.map (fun n => AV.int .u8 (Int.ofNat n)) ∧ s = ns.map UInt8.ofNat
  | [], s, h => by cases mapO_nil h; exact ⟨[], rfl, rfl⟩
  | a :: l, s, h => by
    obtain ⟨y, r', h1, h2, rfl⟩ := mapO_cons h
    obtain ⟨ns, rfl, rfl⟩ := mapO_bytes h2
    cases a <;> simp only [byteOf1] at h1 <;> try (cases h1; done)
    rename_i k n
    cases k <;> cases n <;> simp only at h1 <;> try (cases h1; done)
    rename_i n
    cases h1
    exact ⟨n :: ns, rfl, rfl⟩
theorem foldl_push (ns : List Nat) : ∀ s : ByteArray, ((ns.map fun n => (Int.ofNat n)).foldl (fun r n => r.push (UInt8.ofNat n.toNat)) s).data.toList = s.data.toList ++ ns.map UInt8.ofNat := by
  induction ns with
  | nil => intro s; simp
  | cons b l ih => intro s; rw [List.map_cons, List.foldl_cons, ih]; simp [ByteArray.push]
/-- The cells of the elements of a slice. -/
theorem elems_sound (hS : Rel S) {e n : Nat} {a : AV} {l : List AV} {x : Value} (hv : V S a x) (h : elemsS S.look e a = some (l, n)) :
    (∃ s, x = .string s ∧ e = 1 ∧ n = s.data.toList.length ∧ l = bytesAV s.data.toList) ∨
    ∃ base cap vs, x = .slice base n cap ∧ n ≤ cap ∧ l.length = n * e ∧ VL S l vs ∧ (∀ u ∈ vs, u.oneCell' = true) ∧
      (base = none → n = 0) ∧ ∀ ad, base = some ad → vs = [] ∨ (ad.spot = none ∧ cellsAt S.hp ad.block ad.off vs) := by
  unfold elemsS at h
  split at h
  · cases h
    simp only [V] at hv
    exact .inr ⟨none, 0, [], hv, Nat.le_refl _, by simp, by simp [VL], by simp, fun _ => rfl, (fun ad h => by cases h)⟩
  · rename_i r g k m e'
    obtain ⟨h1, h2⟩ := bsel_none h
    obtain ⟨l', h3, h4⟩ := obind_eq h2
    cases h4
    have := beq_eq h1; subst this
    simp only [V] at hv
    obtain ⟨hk, ad, cap, rfl, hn, hlv⟩ := hv
    obtain ⟨hlive, h5, vs, h6, h7, h8⟩ := readRow hS hk h3 (fun hl => ⟨(hlv hl).1, (hlv hl).2.1⟩)
    obtain ⟨_, _, h9⟩ := hlv hlive
    refine .inr ⟨some ad, cap, vs, rfl, hn.1, h5, h6, h7, (fun hh => by cases hh), fun ad' he => ?_⟩
    cases he
    rcases h9 with h9 | ⟨rfl, _⟩
    · left
      have : n = 0 := by omega
      subst this
      have h5' : l.length = 0 * e := h5
      rw [Nat.zero_mul] at h5'
      have := h6.length
      exact List.length_eq_zero_iff.1 (by omega)
    · exact .inr ⟨rfl, h8⟩
  · rename_i cs m e'
    obtain ⟨h1, h2⟩ := bsel_none h
    obtain ⟨l', h3, h4⟩ := obind_eq h2
    cases h4
    obtain ⟨h5, rfl⟩ := takeX_some h3
    simp only [V] at hv
    obtain ⟨ad, cap, vs, rfl, hn, hvl, hcs⟩ := hv
    have h1t : cs = [] ∨ ∀ u ∈ vs, u.oneCell' = true := by
      rcases hcs with hcs | ⟨_, _, hc⟩
      · exact .inl hcs
      · refine .inr fun u hu => ?_
        obtain ⟨i, hi⟩ := List.getElem?_of_mem hu
        exact (hc i u hi).2
    have hvs : cs = [] → vs = [] := fun hh => by
      subst hh; exact List.length_eq_zero_iff.1 (by rw [← hvl.length]; rfl)
    refine .inr ⟨some ad, cap, vs.take (n * e), rfl, hn, by have h5' : n * e ≤ cs.length := h5; show (cs.take (n * e)).length = n * e; rw [List.length_take]; omega, VL.take _ hvl, fun u hu => ?_, (fun hh => by cases hh), fun ad' he => ?_⟩
    · rcases h1t with hh | hh
      · rw [hvs hh] at hu; simp at hu
      · exact hh u (List.mem_of_mem_take hu)
    · cases he
      rcases hcs with hh | ⟨h6, _, h7⟩
      · left; rw [hvs hh]; simp
      · refine .inr ⟨h6, fun i u hi => h7 i u ?_⟩
        rw [List.getElem?_take] at hi
        split at hi
        · exact hi
        · cases hi
  · rename_i m b
    obtain ⟨h1, h2⟩ := bsel_none h
    cases h2
    simp only [V] at hv
    obtain ⟨s, rfl, rfl, rfl⟩ := hv
    exact .inl ⟨s, rfl, beq_eq h1, rfl, by rw [sBytes_eq]⟩
  · cases h
theorem appendCap_cut (need old : Nat) (e : TypeId) (t : Nat) : need ≤ Question.cut (.appendCap need old e) t := by
  show need ≤ need + t % (2 ^ 63 - need)
  omega
theorem appendCap_max (need old : Nat) (e : TypeId) (t : Nat) (h : need ≤ 9223372036854775807) : Question.cut (.appendCap need old e) t ≤ 9223372036854775807 := by
  show need + t % (2 ^ 63 - need) ≤ 9223372036854775807
  have := Nat.mod_lt t (show 0 < 2 ^ 63 - need by omega)
  omega
theorem modify_push (hp : Array Obj) (x : Obj) (f : Obj → Obj) : (hp.push x).modify hp.size f = hp.push (f x) := by
  apply Array.ext
  · simp
  · intro i h1 h2
    rw [Array.getElem_modify]
    by_cases hi : hp.size = i
    · subst hi; simp
    · simp only [hi, if_false]
      have : i < hp.size := by simp at h1; omega
      simp [Array.getElem_push, this]
theorem VL.bytes : ∀ {ns : List Nat} {vs : List Value}, VL S (ns.map fun n => AV.int .u8 (Int.ofNat n)) vs → vs = ns.map fun n => Value.int .u8 (Int.ofNat n)
  | [], [], _ => rfl
  | [], _ :: _, h => by simp [VL] at h
  | _ :: _, [], h => by simp [VL] at h
  | n :: ns, v :: vs, h => by
    simp only [List.map_cons, VL, V] at h
    rw [List.map_cons, h.1, VL.bytes h.2]
theorem snd_conv {s d : TypeId} {x : Operand} (ho : o.op = .convert s d x) (hE : EnvTypes P E) (hS : Rel S) (hw : S.hp = w.heap) (hρ : ∀ x, V S (ρ x) (σ x)) (hat : ¬ S.kn at_) (hl : UpdOK S.look look' at_ u)
    (h : smConv s d x E ρ S.look at_ = some (v, u)) : Done P S w at_ look' u v (execOp σ o) := by
  obtain ⟨ts, h1, h2⟩ := obind_eq h
  obtain ⟨td, h3, h4⟩ := obind_eq h2
  have := hE s ts h1; subst this
  have := hE d td h3; subst this
  have hx := hρ x
  unfold convS at h4
  split at h4
  · rename_i k hkd
    split at h4
    · rename_i k' hks
      split at h4
      · rename_i j n he
        cases h4
        rw [he] at hx; simp only [V] at hx
        have hd' := kind_int hkd
        have hs' := kind_int hks
        exact Done.keep hS hw hl (w' := w) (x := .int k (k.wrap n)) (by simp [execOp, ho, hx, convert, underlying_run hd', underlying_run hs', Conv.intToInt]) rfl (by simp [V, wrapF_eq])
      · cases h4
    · cases h4
  · rename_i hkd
    have hd' := kind_str hkd
    split at h4
    · rename_i hks
      have hs' := kind_str hks
      split at h4
      · rename_i n b he
        cases h4
        have hx' := hx
        rw [he] at hx; simp only [V] at hx
        obtain ⟨str, hx, rfl, rfl⟩ := hx
        exact Done.keep hS hw hl (w' := w) (x := .string str) (by simp [execOp, ho, hx, convert, underlying_run hd', underlying_run hs']) rfl (by rw [he]; simp only [V]; exact ⟨str, rfl, rfl, rfl⟩)
      · cases h4
    · rename_i es eb ez u8 hks
      obtain ⟨e, ie, hs', hie, _, _, _, hu8⟩ := kind_slice hks
      obtain ⟨h5, h6⟩ := bsel_none h4
      have hu := hu8 h5
      obtain ⟨⟨l, n⟩, h7, h8⟩ := obind_eq h6
      obtain ⟨bs, h9, h10⟩ := obind_eq h8
      have hns : ∀ str, σ x ≠ .string str := by
        intro str hh
        rw [hh] at hx
        split at h10
        · cases h10
        · rename_i hne
          rcases elems_sound hS hx h7 with ⟨s', hs1, _, _, _⟩ | ⟨base, cap, vs, hs1, _⟩
          · cases hxa : ρ x <;> rw [hxa] at hx h7 <;> simp only [V] at hx <;> first
              | (exact hne _ _ hxa)
              | (cases hx; done)
              | (obtain ⟨_, _, hh, _⟩ := hx; cases hh; done)
              | (obtain ⟨_, _, _, hh, _⟩ := hx; cases hh; done)
              | (obtain ⟨_, hh, _⟩ := hx; cases hh; done)
              | (unfold elemsS at h7; cases h7; done)
          · cases hs1
      have h10' : v = .str n (sNum bs) ∧ u = .keep := by
        split at h10
        · cases h10
        · cases h10; exact ⟨rfl, rfl⟩
      obtain ⟨rfl, rfl⟩ := h10'
      rcases elems_sound hS hx h7 with ⟨s', hs1, _⟩ | ⟨base, cap, vs, hs1, hn, hlen, hvl, hone, hb0, hb1⟩
      · exact absurd hs1 (hns s')
      · obtain ⟨ns, rfl, rfl⟩ := mapO_bytes h9
        have hvs := VL.bytes hvl
        simp only [List.length_map, Nat.mul_one] at hlen
        cases base with
        | none =>
          have hn0 := hb0 rfl
          have : ns = [] := List.length_eq_zero_iff.1 (by omega)
          subst this
          subst hn0
          refine Done.keep hS hw hl (w' := w) (x := .string .empty) ?_ rfl ?_
          · simp [execOp, ho, hs1, run_convert_bytes_string w s d e _ _ _ hs' hu hd', Conv.bytesToString]
          · simp only [V]; exact ⟨.empty, rfl, by simp, by simp⟩
        | some ad =>
          have hload : (loadCells ad n).run P w = .ok ((ns.map Int.ofNat).map (Value.int .u8)).toArray w := by
            rcases hb1 ad rfl with hvn | ⟨hsp, hcell⟩
            · have : ns = [] := by rw [hvs] at hvn; simpa using hvn
              subst this
              have : n = 0 := by simpa using hlen.symm
              subst this
              simp [loadCells, loadCellsFrom]
            · obtain ⟨B, k, sp⟩ := ad
              simp only at hsp hcell; subst hsp
              have := load_run (P := P) (w := w) (B := B) (k := k) (vs := vs) (fun i y hi => by rw [← hw]; exact (hcell i y hi).1)
              rw [hvs] at this
              simp only [List.length_map, hlen] at this
              rw [this]
              simp
          refine Done.keep hS hw hl (w' := w) (x := .string ((ns.map Int.ofNat).foldl (fun r n => r.push (UInt8.ofNat n.toNat)) ByteArray.empty)) ?_ rfl ?_
          · simp [execOp, ho, hs1, run_convert_bytes_string w s d e _ _ _ hs' hu hd', run_bytesToString w ad n cap _ hload]
          · simp only [V]
            have hf := foldl_push ns ByteArray.empty
            refine ⟨_, rfl, ?_, ?_⟩
            · have : (ns.map Int.ofNat) = ns.map fun n => (Int.ofNat n) := rfl
              rw [this, hf]; simp [hlen]
            · have : (ns.map Int.ofNat) = ns.map fun n => (Int.ofNat n) := rfl
              rw [this, hf]; simp
    · rename_i k hks
      have hs' := kind_int hks
      split at h4
      · rename_i j n he
        cases h4
        rw [he] at hx; simp only [V] at hx
        refine Done.keep hS hw hl (w' := w) (x := .string (Utf8.encode n)) (by simp [execOp, ho, hx, convert, underlying_run hd', underlying_run hs', Conv.intToString]) rfl ?_
        simp only [V]; exact ⟨_, rfl, rfl, rfl⟩
      · cases h4
    · cases h4
  · rename_i es eb ez u8 hkd
    obtain ⟨e, ie, hd', hie, _, _, _, hu8⟩ := kind_slice hkd
    obtain ⟨h5, h6⟩ := bsel_none h4
    have hu := hu8 h5
    split at h6
    · rename_i hks
      have hs' := kind_str hks
      split at h6
      · rename_i n b he
        obtain ⟨hbnd, h6'⟩ := bsel_none h6
        cases h6'
        rw [he] at hx; simp only [V] at hx
        obtain ⟨str, hx, rfl, rfl⟩ := hx
        have hbnd' : str.size ≤ 1099511627776 := by rw [← size_data]; exact ble_le hbnd
        rw [sBytes_eq] at hl ⊢
        obtain ⟨cap, hcap⟩ : ∃ cap, cap = Question.cut (.appendCap str.size 0 e) (w.tape w.drawn (.appendCap str.size 0 e)) := ⟨_, rfl⟩
        have hle : str.size ≤ cap := by rw [hcap]; exact appendCap_cut _ _ _ _
        have hle2 : cap ≤ 9223372036854775807 := by rw [hcap]; exact appendCap_max _ _ _ _ (by omega)
        obtain ⟨cB, hcB⟩ : ∃ cB : Array Value, cB = str.data.map (fun b => Value.int .u8 b.toNat) ++ Array.replicate (cap - str.size) (Value.int .u8 0) := ⟨_, rfl⟩
        have hsz : cB.size = cap := by
          rw [hcB]; have := size_data str; simp only [Array.length_toList] at this
          simp [this]; omega
        have hget : ∀ (i : Nat) (b : UInt8), str.data.toList[i]? = some b → cB[i]? = some (.int .u8 b.toNat) := by
          intro i b hb
          have hi : i < str.data.size := by have := (List.getElem?_eq_some_iff.1 hb).1; simpa using this
          rw [hcB, Array.getElem?_append_left (by simpa using hi)]
          have hb' : str.data[i]? = some b := by simpa using hb
          simp [hb']
        refine Done.newCells (cB := cB) (ty := e) (fz := (cap, cap + 1)) (x := .slice (some ⟨w.heap.size, 0, none⟩) str.size cap) hS hw hat hl
          (w' := { w with heap := w.heap.push (.cells cB e (cap, cap + 1)), drawn := w.drawn + 1 }) ?_ rfl (.inr (by rw [hsz]; exact Nat.le_refl _)) ?_ ?_ ?_
        · have hq : Question.forced (.appendCap str.size 0 e) = false := rfl
          simp only [execOp, ho, hx, convert, Sem.run_bind, underlying_run hd', underlying_run hs', underlying_run hu, Result.andThen_ok, Conv.stringToBytes, run_choose, hq, Bool.false_eq_true, if_false, newRow, run_newObj, Sem.run_pure, markStringish]
          rw [← hcap, ← hcB]
          simp [World.shape?, World.freeze, hsz]
          rw [modify_push]
          simp
        · rw [bytesAV_get]; simp only [List.length_map]; rw [hsz, size_data]; exact hle
        · intro i a ha
          rw [bytesAV_get, List.getElem?_map] at ha
          obtain ⟨b, hb, rfl⟩ := Option.map_eq_some_iff.1 ha
          exact ⟨_, hget i b hb, rfl, by simp [V]⟩
        · intro _
          simp only [V]
          refine ⟨⟨.inr rfl, fun row hrow => ?_⟩, _, cap, by rw [size_data], ⟨by rw [size_data]; exact hle, hle2⟩, fun _ => ?_⟩
          · have := hl.2 row hrow; subst this; exact Nat.le_refl _
          · have hG : (S.add look' at_ ⟨w.heap.size, 0, (bytesAV str.data.toList).length⟩ (.cells cB e (cap, cap + 1))).G at_ 0 = ⟨w.heap.size, 0, (bytesAV str.data.toList).length⟩ := by
              show (if at_ = at_ then _ else _) = _; rw [if_pos rfl]
            rw [hG]
            refine ⟨Nat.le_refl _, by rw [bytesAV_get]; simp, .inr ⟨rfl, ?_⟩⟩
            show 0 - 0 + cap * 1 ≤ hlen (S.hp.push _) w.heap.size
            have : (S.hp.push (Obj.cells cB e (cap, cap + 1)))[w.heap.size]? = some (.cells cB e (cap, cap + 1)) := by rw [hw]; simp
            rw [sizeOfBlock this, hsz]; omega
      · cases h6
    · cases h6
  · cases h4
end
end Go.CE

namespace Go.CE
section
variable {P : Program} {E : Env} {S : St} {w : World} {at_ : Nat} {look' : Look} {u : Upd} {v : AV} {ρ : Operand → AV} {σ : Operand → Value} {o : Oper}

theorem snd_index {t : TypeId} {x i : Operand} (ho : o.op = .index t x i) (hE : EnvTypes P E) (hS : Rel S) (hw : S.hp = w.heap) (hρ : ∀ x, V S (ρ x) (σ x)) (hl : UpdOK S.look look' at_ u)
    (h : smIndex t x i E ρ S.look at_ = some (v, u)) : Done P S w at_ look' u v (execOp σ o) := by
  obtain ⟨ti, h1, h2⟩ := obind_eq h
  obtain ⟨_, h3, h4⟩ := obind_eq h2
  obtain ⟨n, h5, h6⟩ := obind_eq h4
  have := hE t ti h1; subst this
  have hd := mkTI_str h3
  obtain ⟨k, hi⟩ := asNat_some (hρ i) h5
  have hx := hρ x
  split at h6
  · rename_i m b he
    obtain ⟨h7, h8⟩ := bsel_none h6
    cases h8
    rw [he] at hx; simp only [V] at hx
    obtain ⟨s, hx, rfl, rfl⟩ := hx
    have hn : n < s.data.toList.length := ble_le h7
    have hn' : n < s.size := by rw [← size_data]; exact hn
    have hr := run_index_string (P := P) w t s k n hd
    have hc : (0 : Int) ≤ (n : Int) ∧ (n : Int) < (s.size : Int) := ⟨Int.natCast_nonneg _, by omega⟩
    rw [dif_pos hc] at hr
    refine Done.keep hS hw hl (w' := w) (x := .int .u8 (s[n]'hn').toNat) ?_ rfl ?_
    · simp [execOp, ho, hx, hi, hr]
    · simp only [V]
      rw [sGet_eq _ _ hn]
      congr 1
  · cases h6
theorem snd_makeMap {t : TypeId} {r : Option Operand} (ho : o.op = .makeMap t r) (hE : EnvTypes P E) (hS : Rel S) (hw : S.hp = w.heap) (hρ : ∀ x, V S (ρ x) (σ x)) (hat : ¬ S.kn at_) (hl : UpdOK S.look look' at_ u)
    (h : smMakeMap t r E ρ S.look at_ = some (v, u)) : Done P S w at_ look' u v (execOp σ o) := by
  obtain ⟨ti, h1, h2⟩ := obind_eq h
  obtain ⟨p, h3, h4⟩ := obind_eq h2
  obtain ⟨n, h5, h6⟩ := obind_eq h4
  cases h6
  have := hE t ti h1; subst this
  obtain ⟨k, e, ie, d, hd, _⟩ := mkTI_map h3
  refine Done.newObj (o := .map #[] 0) (x := .map (some w.heap.size)) hS hw hat hl (w' := { w with heap := w.heap.push (.map #[] 0) }) ?_ rfl (fun _ => ?_) (fun _ => ?_)
  · cases r with
    | none => simp [execOp, ho, Instr.makeMap]
    | some y =>
      obtain ⟨k', hy⟩ := asNat_some (hρ y) h5
      simp [execOp, ho, Instr.makeMap, underlying_run hd, hy, asInt, asIntOf]
  · refine ⟨#[], 0, ?_, by simp [VL], by simp [VL]⟩
    show (S.hp.push _)[(if at_ = at_ then (⟨w.heap.size, 0, 0⟩ : PL) else _).blk]? = _
    rw [if_pos rfl, hw]; simp
  · simp only [V]
    refine ⟨⟨.inr rfl, fun row hrow => ?_⟩, _, rfl, fun _ => ?_⟩
    · have := hl.2 row hrow; subst this; rfl
    · show _ = (if at_ = at_ then (⟨w.heap.size, 0, 0⟩ : PL) else _).blk; rw [if_pos rfl]
theorem repZ_get (z : List AV) : ∀ n, (repZ z n).length = n * z.length ∧ ∀ j, j < n * z.length → (repZ z n)[j]? = z[j % z.length]?
  | 0 => ⟨by rw [show repZ z 0 = [] from rfl]; simp, fun j hj => by simp at hj⟩
  | n + 1 => by
    have h := repZ_get z n
    have he : repZ z (n + 1) = z ++ repZ z n := by show lapp z (repZ z n) = _; rw [lapp_eq]
    refine ⟨by rw [he, List.length_append, h.1, Nat.succ_mul]; omega, fun j hj => ?_⟩
    rw [he]
    by_cases hlt : j < z.length
    · rw [List.getElem?_append_left hlt, Nat.mod_eq_of_lt hlt]
    · have hge : z.length ≤ j := by omega
      rw [List.getElem?_append_right hge, h.2 (j - z.length) (by rw [Nat.succ_mul] at hj; omega)]
      rw [Nat.mod_eq_sub_mod hge]
theorem snd_makeSlice {t : TypeId} {n c : Operand} (ho : o.op = .makeSlice t n c) (hE : EnvTypes P E) (hS : Rel S) (hw : S.hp = w.heap) (hρ : ∀ x, V S (ρ x) (σ x)) (hat : ¬ S.kn at_) (hl : UpdOK S.look look' at_ u)
    (h : smMakeSlice t n c E ρ S.look at_ = some (v, u)) : Done P S w at_ look' u v (execOp σ o) := by
  obtain ⟨ti, h1, h2⟩ := obind_eq h
  obtain ⟨k, h3, h4⟩ := obind_eq h2
  obtain ⟨nn, h5, h6⟩ := obind_eq h4
  obtain ⟨cc, h7, h8⟩ := obind_eq h6
  obtain ⟨h9, h10⟩ := bsel_none' h8
  obtain ⟨h11, h12⟩ := bsel_none h10
  obtain ⟨h13, h14⟩ := bsel_none h12
  obtain ⟨h15, h16⟩ := bsel_none h14
  have := hE t ti h1; subst this
  obtain ⟨e, ie, hd, hie, rfl⟩ := mkTI_slice h3
  obtain ⟨kn, hn⟩ := asNat_some (hρ n) h5
  obtain ⟨kc, hc⟩ := asNat_some (hρ c) h7
  have hbad : anyBad (zcellsOf ie) = false ∧ (zcellsOf ie).length = ie.size := by
    cases hb : anyBad (zcellsOf ie) with
    | true => simp only [hb, bsel_true] at h9; cases h9
    | false =>
      simp only [hb, bsel_false, Bool.not_eq_false'] at h9
      refine ⟨rfl, ?_⟩
      have := beq_eq h9; rwa [llen_eq] at this
  obtain ⟨hbd, hzl⟩ := hbad
  obtain ⟨z, hz1, hz2, hz3⟩ := zcells_ok S hbd
  have hnc : nn ≤ cc := ble_le h11
  have hb1 : ie.bytes * cc ≤ 1099511627776 := ble_le h13
  have hc1 : cc ≤ 1099511627776 := ble_le h15
  simp only [Option.some.injEq, Prod.mk.injEq] at h16
  obtain ⟨rfl, rfl⟩ := h16
  have hzs : z.cells.size = ie.size := by have := hz2.length; rw [hzl] at this; simpa using this.symm
  obtain ⟨cB, hcB⟩ : ∃ cB : Array Value, cB = (Array.range (cc * ie.size)).map (fun i => ((if cc * ie.size = 0 then #[] else z.cells) : Array Value)[i % ((if cc * ie.size = 0 then #[] else z.cells) : Array Value).size]!) := ⟨_, rfl⟩
  have hsz : cB.size = cc * ie.size := by rw [hcB]; simp
  have hget : ∀ i, i < cc * ie.size → ∃ y, cB[i]? = some y ∧ z.cells.toList[i % ie.size]? = some y := by
    intro i hi
    have hne : cc * ie.size ≠ 0 := by omega
    have hs0 : 0 < ie.size := by rcases Nat.eq_zero_or_pos ie.size with h0 | h0; (rw [h0] at hne; simp at hne); exact h0
    have hm : i % ie.size < z.cells.size := by rw [hzs]; exact Nat.mod_lt _ hs0
    refine ⟨z.cells[i % ie.size], ?_, by simp [hm]⟩
    rw [hcB, Array.getElem?_map, Array.getElem?_range, if_pos hi]
    simp only [hne, if_false, Option.map_some, hzs]
    rw [getElem!_pos z.cells (i % ie.size) hm]
  have hrg := repZ_get (zcellsOf ie) nn
  have hle : nn * ie.size ≤ cc * ie.size := Nat.mul_le_mul_right _ hnc
  refine Done.newCells (cB := cB) (ty := e) (fz := (0, 0)) (x := .slice (some ⟨w.heap.size, 0, none⟩) nn cc) hS hw hat hl
    (w' := { w with heap := w.heap.push (.cells cB e) }) ?_ rfl (.inl (Nat.le_refl _)) ?_ ?_ ?_
  · have hw1 : IntKind.i64.wrap (nn : Int) = nn := wrap_id .i64 nn (by show nn ≤ 9223372036854775807; omega)
    have hw2 : IntKind.i64.wrap (cc : Int) = cc := wrap_id .i64 cc (by show cc ≤ 9223372036854775807; omega)
    have hb2 : ¬ ((ie.bytes : Int) * (cc : Int) > 281474976710656) := by
      have : ((ie.bytes * cc : Nat) : Int) ≤ 1099511627776 := by omega
      rw [Int.natCast_mul] at this; omega
    have hcond : (((cc : Int) < 0 || decide ((ie.bytes : Int) * (cc : Int) > 2 ^ 48)) || decide ((nn : Int) < 0) || decide ((nn : Int) > (cc : Int))) = false := by
      have h1 : decide ((cc : Int) < 0) = false := by simp
      have h2 : decide ((nn : Int) < 0) = false := by simp
      have h3 : decide ((nn : Int) > (cc : Int)) = false := by simp; omega
      have h4 : decide ((ie.bytes : Int) * (cc : Int) > 2 ^ 48) = false := by simp; omega
      rw [h1, h2, h3, h4]; rfl
    simp only [execOp, ho, hn, hc, Instr.makeSlice, Sem.run_bind, underlying_run hd, Result.andThen_ok, asInt, asIntOf, Sem.run_pure, typeInfo_run hie, hw1, hw2]
    rw [hcond]
    simp only [Bool.false_eq_true, if_false, Sem.run_bind, run_askRoom, sizeOf_run hie, Result.andThen_ok, Int.toNat_natCast]
    rw [hcB]
    by_cases h0 : cc * ie.size = 0
    · simp [h0, newRow]
    · simp [h0, newRow, zero_run hie hz1]
  · show (repZ (zcellsOf ie) nn).length ≤ _; rw [hrg.1, hzl, hsz]; exact hle
  · intro i a ha
    have hi : i < nn * ie.size := by
      have := (List.getElem?_eq_some_iff.1 ha).1
      rw [hrg.1, hzl] at this; exact this
    obtain ⟨y, hy1, hy2⟩ := hget i (by omega)
    rw [hrg.2 i (by rw [hzl]; exact hi), hzl] at ha
    obtain ⟨y', hy1', hy2'⟩ := hz2.get _ _ ha
    rw [hy2] at hy1'; cases hy1'
    exact ⟨y, hy1, hz3 y (List.mem_of_getElem? hy2), hy2'⟩
  · intro _
    simp only [V]
    refine ⟨⟨.inr rfl, fun row hrow => ?_⟩, _, cc, rfl, ⟨hnc, by omega⟩, fun _ => ?_⟩
    · have := hl.2 row hrow; subst this; exact Nat.le_refl _
    · have hG : (S.add look' at_ ⟨w.heap.size, 0, (repZ (zcellsOf ie) nn).length⟩ (.cells cB e (0, 0))).G at_ 0 = ⟨w.heap.size, 0, (repZ (zcellsOf ie) nn).length⟩ := by
        show (if at_ = at_ then _ else _) = _; rw [if_pos rfl]
      rw [hG]
      refine ⟨Nat.le_refl _, by rw [hrg.1, hzl]; simp, .inr ⟨rfl, ?_⟩⟩
      show 0 - 0 + cc * ie.size ≤ hlen (S.hp.push _) w.heap.size
      have : (S.hp.push (Obj.cells cB e (0, 0)))[w.heap.size]? = some (.cells cB e (0, 0)) := by rw [hw]; simp
      rw [sizeOfBlock this, hsz]; omega

theorem sliceBound_run {k : IntKind} {i y : Nat} {code : BoundsCode} (h : i ≤ y) : (Instr.sliceBound (.int k i) y code).run P w = .ok i w := by
  have h0 : (0 : Int) ≤ (i : Int) ∧ (i : Int) ≤ (y : Int) := ⟨Int.natCast_nonneg _, by omega⟩
  simp only [Instr.sliceBound, Sem.run_bind, asIntOf, Sem.run_pure, Result.andThen_ok, if_pos h0, Int.toNat_natCast]
/-- The bounds of a slice expression without a third index. -/
theorem sliceBounds_run {isS : Bool} {len cap l h : Nat} {lo hi : Option Value} (hlo : (lo = none ∧ l = 0) ∨ ∃ k, lo = some (.int k l)) (hhi : (hi = none ∧ h = len) ∨ ∃ k, hi = some (.int k h))
    (h1 : l ≤ h) (h2 : h ≤ cap) : (Instr.sliceBounds isS len cap lo hi none).run P w = .ok (l, h, cap) w := by
  unfold Instr.sliceBounds
  rcases hlo with ⟨rfl, rfl⟩ | ⟨k, rfl⟩ <;> rcases hhi with ⟨rfl, rfl⟩ | ⟨k', rfl⟩ <;> simp [sliceBound_run, h1, h2]
theorem optNat {lo : Option Operand} {l n0 : Nat} (hρ : ∀ x, V S (ρ x) (σ x)) (h : (Option.rec (motive := fun _ => Option Nat) (some n0) (fun y => asNat (ρ y)) lo) = some l) :
    (lo.map σ = none ∧ l = n0) ∨ ∃ k, lo.map σ = some (.int k l) := by
  cases lo with
  | none => cases h; exact .inl ⟨rfl, rfl⟩
  | some y =>
    obtain ⟨k, hk⟩ := asNat_some (hρ y) h
    exact .inr ⟨k, by simp [hk]⟩
theorem snd_slice {t : TypeId} {x : Operand} {lo hi mx : Option Operand} (ho : o.op = .slice t x lo hi mx) (hE : EnvTypes P E) (hS : Rel S) (hw : S.hp = w.heap) (hρ : ∀ x, V S (ρ x) (σ x)) (hl : UpdOK S.look look' at_ u)
    (h : smSlice t x lo hi mx E ρ S.look at_ = some (v, u)) : Done P S w at_ look' u v (execOp σ o) := by
  unfold smSlice at h
  split at h
  · cases h
  · obtain ⟨ti, h1, h2⟩ := obind_eq h
    obtain ⟨hh, h3, h4⟩ := obind_eq h2
    obtain ⟨ll, h5, h6⟩ := obind_eq h4
    have := hE t ti h1; subst this
    have hlo := optNat hρ h5
    have hx := hρ x
    have hhi : ∀ len, len0 (ρ x) = some len → (hi.map σ = none ∧ hh = len) ∨ ∃ k, hi.map σ = some (.int k hh) := by
      intro len hlen
      rw [hlen] at h3
      exact optNat hρ h3
    split at h6
    · rename_i hk
      obtain ⟨h7, rfl⟩ := pure1_some h6
      have hd := kind_str hk
      unfold sliceStr at h7
      split at h7
      · rename_i n b he
        obtain ⟨h8, h9⟩ := bsel_none h7
        obtain ⟨h10, h11⟩ := bsel_none h9
        cases h11
        rw [he] at hx; simp only [V] at hx
        obtain ⟨s, hx, rfl, rfl⟩ := hx
        have hle1 : ll ≤ hh := ble_le h8
        have hle2 : hh ≤ s.data.toList.length := ble_le h10
        have hle2' : hh ≤ s.size := by rw [← size_data]; exact hle2
        have hb := sliceBounds_run (P := P) (w := w) (isS := false) hlo (hhi s.data.toList.length (by rw [he]; rfl)) hle1 (cap := s.size) hle2'
        rw [size_data] at hb
        refine Done.keep hS hw hl (w' := w) (x := .string (s.extract ll hh)) ?_ rfl ?_
        · simp [execOp, ho, hx, Instr.sliceAt, Instr.slice, underlying_run hd, hb]
        · simp only [V]
          refine ⟨_, rfl, ?_, ?_⟩
          · rw [Lib.extract_data, List.length_take, List.length_drop]; show min (hh - ll) _ = hh - ll; omega
          · rw [Lib.extract_data, sSub_eq]; rfl
      · cases h7
    · rename_i es eb ez u8 hk
      obtain ⟨h7, rfl⟩ := pure1_some h6
      obtain ⟨e, ie, hd, hie, rfl, _⟩ := kind_slice hk
      have hrun : ∀ (ad : Option Addr) (len cap : Nat), σ x = .slice ad len cap → len0 (ρ x) = some len → ll ≤ hh → hh ≤ cap →
          (execOp σ o).run P w = .ok (.value (.slice (if cap = ll then ad else ad.map (·.add (ll * ie.size))) (hh - ll) (cap - ll))) w := by
        intro ad len cap hxx hlen hl1 hl2
        have hb := sliceBounds_run (P := P) (w := w) (isS := true) hlo (hhi len hlen) hl1 hl2
        simp [execOp, ho, hxx, Instr.sliceAt, Instr.slice, underlying_run hd, hb, sizeOf_run hie]
      unfold sliceS at h7
      split at h7
      · rename_i he
        obtain ⟨h8, h9⟩ := bsel_none h7
        cases h9
        have h0 : ll + hh = 0 := beq_eq h8
        rw [he] at hx; simp only [V] at hx
        refine Done.keep hS hw hl (w' := w) (x := .slice none 0 0) ?_ rfl (by simp only [V])
        rw [hrun none 0 0 hx (by rw [he]; rfl) (by omega) (by omega)]
        simp [show ll = 0 by omega, show hh = 0 by omega]
      · rename_i r g k n e' he
        obtain ⟨h8, h9⟩ := bsel_none h7
        obtain ⟨h10, h11⟩ := bsel_none h9
        obtain ⟨h12, h13⟩ := bsel_none h11
        cases h13
        have := beq_eq h8; subst this
        have hl1 : ll ≤ hh := ble_le h10
        have hl2 : hh ≤ n := ble_le h12
        rw [he] at hx; simp only [V] at hx
        obtain ⟨hkn, ad, cap, hx, hn, hlv⟩ := hx
        refine Done.keep hS hw hl (w' := w) (hrun (some ad) n cap hx (by rw [he]; rfl) hl1 (by omega)) rfl ?_
        simp only [V]
        refine ⟨hkn, (if cap = ll then ad else ad.add (ll * ie.size)), cap - ll, ?_, ⟨by show hh - ll ≤ _; omega, by omega⟩, fun hlive => ?_⟩
        · show Value.slice _ (hh - ll) _ = Value.slice _ (hh - ll) _
          congr 1
          by_cases hc : cap = ll
          · rw [if_pos hc, if_pos hc]
          · rw [if_neg hc, if_neg hc]; rfl
        · obtain ⟨h14, h15, h16⟩ := hlv hlive
          have hmul : ll * ie.size + (hh - ll) * ie.size = hh * ie.size := by rw [← Nat.add_mul]; congr 1; omega
          have hmul2 : hh * ie.size ≤ n * ie.size := Nat.mul_le_mul_right _ hl2
          refine ⟨by show _ ≤ k + ll * ie.size; omega, by show k + ll * ie.size + (hh - ll) * ie.size ≤ _; omega, ?_⟩
          by_cases hc : cap = ll
          · exact .inl (by omega)
          · rcases h16 with h16 | ⟨rfl, h16⟩
            · exact .inl (by omega)
            · refine .inr ⟨?_, ?_⟩
              · rw [if_neg hc, add_addr]; show _ = (⟨_, k + ll * ie.size - _, none⟩ : Addr); congr 1; omega
              · have hmul3 : ll * ie.size + (cap - ll) * ie.size = cap * ie.size := by rw [← Nat.add_mul]; congr 1; omega
                show k + ll * ie.size - _ + (cap - ll) * ie.size ≤ _; omega
      · rename_i cs n e' he
        obtain ⟨h8, h9⟩ := bsel_none h7
        obtain ⟨h10, h11⟩ := bsel_none h9
        obtain ⟨h12, h13⟩ := bsel_none h11
        cases h13
        have := beq_eq h8; subst this
        have hl1 : ll ≤ hh := ble_le h10
        have hl2 : hh ≤ n := ble_le h12
        rw [he] at hx; simp only [V] at hx
        obtain ⟨ad, cap, vs, hx, hn, hvl, hcs⟩ := hx
        refine Done.keep hS hw hl (w' := w) (hrun (some ad) n cap hx (by rw [he]; rfl) hl1 (by omega)) rfl ?_
        simp only [V]
        rw [ltake_eq, ldrop_eq]
        refine ⟨(if cap = ll then ad else ad.add (ll * ie.size)), cap - ll, (vs.drop (ll * ie.size)).take ((hh - ll) * ie.size), ?_, by show hh - ll ≤ _; omega, VL.take _ (VL.drop _ hvl), ?_⟩
        · show Value.slice _ (hh - ll) _ = Value.slice _ (hh - ll) _
          congr 1
          by_cases hc : cap = ll
          · rw [if_pos hc, if_pos hc]
          · rw [if_neg hc, if_neg hc]; rfl
        · by_cases hc : cap = ll
          · left
            have h0 : hh - ll = 0 := by omega
            show List.take ((hh - ll) * ie.size) _ = []
            rw [h0, Nat.zero_mul]; rfl
          · rw [if_neg hc]
            rcases hcs with rfl | ⟨h14, h15, h16⟩
            · left; simp
            · right
              obtain ⟨B, off, sp⟩ := ad
              simp only at h14 h15 h16; subst h14
              rw [add_addr]
              refine ⟨rfl, h15, fun i u hu => ?_⟩
              rw [List.getElem?_take] at hu
              split at hu
              · rw [List.getElem?_drop] at hu
                have := h16 _ u hu
                show hcell S.hp B (off + ll * ie.size + i) = _ ∧ _
                rw [Nat.add_assoc]; exact this
              · cases hu
      · cases h7
    · cases h6
end
end Go.CE

namespace Go.CE
section
variable {P : Program} {E : Env} {S : St} {w : World} {at_ : Nat} {look' : Look} {u : Upd} {v : AV} {ρ : Operand → AV} {σ : Operand → Value} {o : Oper}

theorem bytes_same {a b : ByteArray} (h : a.data.toList = b.data.toList) : a = b := by
  cases a; cases b; simp at h; rw [h]
theorem same_key {k a : AV} {x y : Value} {d : TypeDesc} {t : Bool} (hx : V S k x) (hy : V S a y) (h : aeq0 k a = some t) (hd : tagD d = some (tagOf k)) :
    Instr.sameNow d x y = some t ∧ (t = true → x = y) := by
  unfold aeq0 at h
  split at h
  · split at h
    · obtain ⟨h1, h2⟩ := bsel_none h
      have := keq_eq h1; subst this
      simp only [Option.some.injEq] at h2; subst h2
      simp only [V] at hx hy; subst hx; subst hy
      cases d <;> simp only [tagD, tagOf] at hd <;> first | (cases hd; done) | (simp at hd; done) | skip
      refine ⟨by simp [Instr.sameNow, ieq_eq], fun h => ?_⟩
      rw [ieq_eq] at h; rw [eq_of_beq h]
    · cases h
  · split at h
    · simp only [Option.some.injEq] at h; subst h
      simp only [V] at hx hy
      obtain ⟨s, rfl, rfl, rfl⟩ := hx
      obtain ⟨s', rfl, rfl, rfl⟩ := hy
      cases d <;> simp only [tagD, tagOf] at hd <;> first | (cases hd; done) | (simp at hd; done) | skip
      rw [beqS_eq]
      refine ⟨by rw [← ByteArray.toList_eq, ← ByteArray.toList_eq, ← beq_toListBytes]; rfl, fun h => ?_⟩
      rw [bytes_same (eq_of_beq h)]
    · cases h
  · split at h
    · simp only [Option.some.injEq] at h; subst h
      simp only [V] at hx hy; subst hx; subst hy
      cases d <;> simp only [tagD, tagOf] at hd <;> first | (cases hd; done) | (simp at hd; done) | skip
      refine ⟨by simp [Instr.sameNow, beqB_eq], fun h => ?_⟩
      rw [beqB_eq] at h; rw [eq_of_beq h]
    · cases h
  · cases h
theorem mfind_cons {k a b : AV} {ks vs : List AV} {r : Option AV} (h : mfind k (a :: ks) (b :: vs) = some r) :
    ∃ t, aeq0 k a = some t ∧ ((t = true ∧ r = some b) ∨ (t = false ∧ mfind k ks vs = some r)) := by
  obtain ⟨t, h1, h2⟩ := obind_eq (show obind (aeq0 k a) (fun t => bsel t (some (some b)) (mfind k ks vs)) = some r from h)
  cases t with
  | true => cases h2; exact ⟨true, h1, .inl ⟨rfl, rfl⟩⟩
  | false => exact ⟨false, h1, .inr ⟨rfl, h2⟩⟩
theorem mfind_sound {k : AV} {x : Value} {d : TypeDesc} (hx : V S k x) (hd : tagD d = some (tagOf k)) : ∀ {ks vs : List AV} {es : List MapEntry} {r : Option AV} (i : Nat),
    VL S ks (es.map (·.key)) → VL S vs (es.map (·.val)) → mfind k ks vs = some r →
    (r = none ∧ Instr.findNow d x es i = some none) ∨ ∃ b j y, r = some b ∧ Instr.findNow d x es i = some (some (j, y)) ∧ V S b y
  | [], [], [], r, i, _, _, h => by cases h; exact .inl ⟨rfl, rfl⟩
  | a :: ks, b :: vs, e :: es, r, i, hk, hv, h => by
    simp only [List.map_cons, VL] at hk hv
    obtain ⟨t, h1, h2⟩ := mfind_cons h
    obtain ⟨h3, h4⟩ := same_key hx hk.1 h1 hd
    rcases h2 with ⟨rfl, rfl⟩ | ⟨rfl, h2⟩
    · exact .inr ⟨b, i, e.val, rfl, by simp [Instr.findNow, h3], hv.1⟩
    · have := mfind_sound hx hd (i + 1) hk.2 hv.2 h2
      simp only [Instr.findNow, h3]
      exact this
  | [], _, _ :: _, _, _, hk, _, _ => by simp [VL] at hk
  | _ :: _, _, [], _, _, hk, _, _ => by simp [VL] at hk
  | _, [], _ :: _, _, _, _, hv, _ => by simp [VL] at hv
  | _, _ :: _, [], _, _, _, hv, _ => by simp [VL] at hv
theorem checkKey_run {b : Bool} {k : TypeId} {d : TypeDesc} {x : Value} {n : Nat} (hd : P.underlying k = some d) (ht : tagD d ≠ none) : (Instr.checkKey b (n + 1) k x).run P w = .ok () w := by
  simp only [Instr.checkKey, Sem.run_bind, underlying_run hd, Result.andThen_ok]
  cases d <;> first | (exact absurd rfl ht) | rfl
theorem getObj_run {B : Nat} {ob : Obj} (h : w.heap[B]? = some ob) (hc : ∀ c e f, ob ≠ .cells c e f) : (getObj B).run P w = .ok ob w := by
  unfold getObj
  simp only [Sem.run, h]
/-- The entries of a map. -/
theorem mapS_sound (hS : Rel S) (hw : S.hp = w.heap) {a : AV} {x : Value} {es : List AV × List AV} (hv : V S a x) (h : mapS S.look a = some es) :
    (x = .map none ∧ es = ([], [])) ∨ ∃ B ms cl, x = .map (some B) ∧ w.heap[B]? = some (.map ms cl) ∧ VL S es.1 (ms.toList.map (·.key)) ∧ VL S es.2 (ms.toList.map (·.val)) := by
  unfold mapS at h
  split at h
  · cases h; simp only [V] at hv; exact .inl ⟨hv, rfl⟩
  · cases h
    simp only [V] at hv
    obtain ⟨B, ms, cl, rfl, _, h1, h2, h3⟩ := hv
    exact .inr ⟨B, ms, cl, rfl, by rw [← hw]; exact h1, h2, h3⟩
  · rename_i r
    obtain ⟨row, h1, h2⟩ := obind_eq h
    have := mapRow_some h2; subst this
    simp only [V] at hv
    obtain ⟨hk, B, rfl, hlv⟩ := hv
    have hB := hlv ⟨_, h1, rfl⟩
    obtain ⟨ms, cl, h3, h4, h5⟩ := hS.row r _ h1
    exact .inr ⟨B, ms, cl, rfl, by rw [hB, ← hw]; exact h3, h4, h5⟩
  · cases h
theorem V.zero {i : TypeInfo} {z : AV} (hz : z = zeroOf i) : (∀ zv, i.zero = some zv → V S z zv) := by
  intro zv h
  subst hz
  unfold zeroOf
  rw [h]
  exact V.cv S zv
theorem snd_lookup {t : TypeId} {x i : Operand} {ok : Bool} (ho : o.op = .lookup t x i ok) (hE : EnvTypes P E) (hS : Rel S) (hw : S.hp = w.heap) (hρ : ∀ x, V S (ρ x) (σ x)) (hl : UpdOK S.look look' at_ u)
    (h : smLookup t x i ok E ρ S.look at_ = some (v, u)) : Done P S w at_ look' u v (execOp σ o) := by
  obtain ⟨ti, h1, h2⟩ := obind_eq h
  obtain ⟨z, h3, h4⟩ := obind_eq h2
  obtain ⟨h5, h6'⟩ := bsel_none h4
  obtain ⟨hbad, h6⟩ := bsel_none' h6'
  obtain ⟨h7, rfl⟩ := pure1_some h6
  have := hE t ti h1; subst this
  obtain ⟨k, e, ie, d, hd, hie, hkd, htag, hz⟩ := mkTI_map h3
  obtain ⟨es, h8, h9⟩ := obind_eq h7
  obtain ⟨r, h10, h11⟩ := obind_eq h9
  have htg : tagD d = some (tagOf (ρ i)) := by rw [htag, beq_eq h5]
  have hnt : tagD d ≠ none := by rw [htg]; simp
  have hm := mapS_sound (w := w) hS hw (hρ x) h8
  have hfind : ∃ (ms : Array MapEntry), (∀ (res : Option (Nat × Value)), Instr.findNow d (σ i) ms.toList 0 = some res → (Instr.lookup t (σ x) (σ i) ok).run P w =
      ((match res with | some (_, y) => pure (y, true) | none => do pure (← zeroValue e, false) : Sem (Value × Bool)) >>= fun p => pure (if ok then .tuple #[p.1, .bool p.2] else p.1)).run P w) ∧
      ((r = none ∧ Instr.findNow d (σ i) ms.toList 0 = some none) ∨ ∃ b j y, r = some b ∧ Instr.findNow d (σ i) ms.toList 0 = some (some (j, y)) ∧ V S b y) := by
    rcases hm with ⟨hx, rfl⟩ | ⟨B, ms, cl, hx, hB, hk1, hk2⟩
    · refine ⟨#[], fun res hres => ?_, ?_⟩
      · unfold Instr.lookup
        simp only [Sem.run_bind, underlying_run hd, Result.andThen_ok, hx, Sem.run_pure]
        rw [show (10000 : Nat) = 9999 + 1 from rfl, checkKey_run hkd hnt]
        simp only [Result.andThen_ok, Instr.findKey, Sem.run_bind, underlying_run hkd, hres]
        cases res with
        | none => cases hzr : (zeroValue e).run P w <;> simp [hzr, Result.andThen]
        | some p => simp
      · cases h10
        exact .inl ⟨rfl, rfl⟩
    · refine ⟨ms, fun res hres => ?_, mfind_sound (hρ i) htg 0 hk1 hk2 h10⟩
      unfold Instr.lookup
      simp only [Sem.run_bind, underlying_run hd, Result.andThen_ok, hx, getObj_run (P := P) hB (by simp), Sem.run_pure]
      rw [show (10000 : Nat) = 9999 + 1 from rfl, checkKey_run hkd hnt]
      simp only [Result.andThen_ok, Instr.findKey, Sem.run_bind, underlying_run hkd, hres]
      cases res with
      | none => cases hzr : (zeroValue e).run P w <;> simp [hzr, Result.andThen]
      | some p => simp
  obtain ⟨ms, hlook, hres⟩ := hfind
  rcases hres with ⟨rfl, hf⟩ | ⟨b, j, y, rfl, hf, hby⟩
  · -- the zero value
    cases hzz : ie.zero with
    | none =>
      rw [hz] at hbad; unfold zeroOf at hbad; rw [hzz] at hbad; cases hbad
    | some zv =>
      have hzV := V.zero (S := S) hz zv hzz
      have hr := hlook none hf
      simp only [Sem.run_bind, zero_run hie hzz, Result.andThen_ok, Sem.run_pure] at hr
      cases ok with
      | true =>
        simp only [bsel_true, Option.some.injEq] at h11; subst h11
        refine Done.keep hS hw hl (w' := w) (x := .tuple #[zv, .bool false]) (by simp [execOp, ho, hr]) rfl ?_
        simp only [V]; exact ⟨_, rfl, by simp [VL, V, hzV]⟩
      | false =>
        simp only [bsel_false, Option.some.injEq] at h11; subst h11
        exact Done.keep hS hw hl (w' := w) (x := zv) (by simp [execOp, ho, hr]) rfl hzV
  · have hr := hlook (some (j, y)) hf
    simp only [Sem.run_bind, Result.andThen_ok, Sem.run_pure] at hr
    cases ok with
    | true =>
      simp only [bsel_true, Option.some.injEq] at h11; subst h11
      refine Done.keep hS hw hl (w' := w) (x := .tuple #[y, .bool true]) (by simp [execOp, ho, hr]) rfl ?_
      simp only [V]; exact ⟨_, rfl, by simp [VL, V, hby]⟩
    | false =>
      simp only [bsel_false, Option.some.injEq] at h11; subst h11
      exact Done.keep hS hw hl (w' := w) (x := y) (by simp [execOp, ho, hr]) rfl hby
end
end Go.CE
