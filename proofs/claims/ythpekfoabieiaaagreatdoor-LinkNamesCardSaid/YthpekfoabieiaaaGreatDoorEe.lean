import Derived.Test.YthpekfoabieiaaaGreatDoorEd
import Derived.Below
import Derived.Shelf.Strconv.Itoa3
import Derived.Shelf.Strconv.Atoi
import Derived.Shelf.Strings.OnBuilder
import Derived.Shelf.Strings.Split
import Derived.Lib.Bytealg
set_option linter.all false
namespace Go.CE
variable {GI : GInv}

theorem Free.plain_wide {F : Fence} (h : Free F) : F.plain = Fence.wide := by
  obtain ⟨fn, depth, alive, round⟩ := F
  have h1 : fn = fun _ => True := funext fun f => propext ⟨fun _ => trivial, fun _ => h.fn f⟩
  have h2 : depth = none := h.depth
  have h3 : alive = false := h.alive
  subst h1; subst h2; subst h3
  rfl
/-- What a proof over no fence says. -/
theorem callsIn_of_calls {F : Fence} (hF : Free F) {P : Program} {f : FuncId} {args : Array Value} {w : World} {R : Ending → World → Prop} (h : Calls P f args w R) : CallsIn F 0 P f args w R := by
  show CallsIn F.plain 0 P f args w R
  rw [hF.plain_wide]
  exact callsIn_wide.2 h

/-! ### new blocks that no row owns -/
def St.grown (S : St) (hp : Array Obj) : St := ⟨S.look, S.kn, S.G, hp⟩
section
variable {S : St} {hp : Array Obj}
theorem Ext.grown (h : Rel S) (hs : S.hp.size ≤ hp.size) (hk : ∀ B, B < S.hp.size → hp[B]? = S.hp[B]?) : Ext S (S.grown hp) := by
  refine ⟨fun _ h => h, fun r row _ hl => ⟨row, hl, Nat.le_refl _, Nat.le_refl _⟩, fun _ _ _ _ _ => rfl, hs, fun B hB => ⟨⟨Nat.lt_of_lt_of_le hB.1 hs, hB.2⟩, hk B hB.1⟩, fun r g _ hl _ => ?_⟩
  show hlen S.hp _ ≤ hlen hp _
  unfold hlen; rw [hk _ (h.blk r g hl)]; exact Nat.le_refl _
theorem Rel.grown (h : Rel S) (hs : S.hp.size ≤ hp.size) (hk : ∀ B, B < S.hp.size → hp[B]? = S.hp[B]?) : Rel (S.grown hp) :=
  ⟨h.lt, fun r g hl => Nat.lt_of_lt_of_le (h.blk r g hl) hs, h.inj, fun r row hl => RowOK.ext (Ext.grown h hs hk) (fun _ _ => rfl) (fun g hg => hk _ (h.blk r g ⟨row, hl, hg⟩)) (h.row r row hl)⟩
theorem Keep.grown (h : Rel S) (hk : ∀ B, B < S.hp.size → hp[B]? = S.hp[B]?) (lo : Nat) : Keep lo S (S.grown hp) := fun r _ _ => ⟨rfl, fun g hg => ⟨rfl, hk _ (h.blk r g hg)⟩⟩
theorem grown_imm (h : Rel S) {B : Nat} (h1 : S.hp.size ≤ B) (h2 : B < hp.size) : (S.grown hp).imm B := ⟨h2, fun r g hl e => by
  have := h.blk r g hl
  have e' : (S.G r g).blk = B := e
  omega⟩
end
theorem At.grown {S : St} {h : Heap} {w w' : World} (hAt : At GI S h w) (hs : w.heap.size ≤ w'.heap.size) (hk : ∀ B, B < w.heap.size → w'.heap[B]? = w.heap[B]?) (ho : SameOut w w') :
    At GI (S.grown w'.heap) h w' ∧ Behind S h (S.grown w'.heap) h := by
  have hs' : S.hp.size ≤ w'.heap.size := by rw [hAt.hp]; exact hs
  have hk' : ∀ B, B < S.hp.size → w'.heap[B]? = S.hp[B]? := by rw [hAt.hp]; exact hk
  exact ⟨⟨hAt.rel.grown hs' hk', rfl, hAt.look, hAt.kn, hAt.met.ext (Ext.grown hAt.rel hs' hk'), hAt.ok, hAt.out.trans ho⟩, ⟨Ext.grown hAt.rel hs' hk', fun r hr => .inl hr, Keep.grown hAt.rel hk' _, Nat.le_refl _, Nat.le_refl _⟩⟩
theorem At.below {S : St} {h : Heap} {w w' : World} (hAt : At GI S h w) (hb : Go.RowKit.Below w.heap.size w w') : At GI (S.grown w'.heap) h w' ∧ Behind S h (S.grown w'.heap) h :=
  hAt.grown hb.size hb.block ⟨hb.os, hb.output⟩
/-- A text is a text. -/
theorem V.str_mk {S : St} {l : List UInt8} {a : Array UInt8} (h : a.toList = l) : V S (.str l.length (sNum l)) (.string ⟨a⟩) := by
  simp only [V]; exact ⟨_, rfl, by rw [h], by rw [h]⟩
end Go.CE

namespace Go.CE
variable {GI : GInv} {P : Program}

/-- What a call leaves: new blocks alone. -/
def Grows (w w' : World) : Prop := w.heap.size ≤ w'.heap.size ∧ (∀ B, B < w.heap.size → w'.heap[B]? = w.heap[B]?) ∧ SameOut w w'
theorem Grows.refl (w : World) : Grows w w := ⟨Nat.le_refl _, fun _ _ => rfl, ⟨rfl, rfl⟩⟩
theorem Grows.below {w w' : World} (h : RowKit.Below w.heap.size w w') : Grows w w' := ⟨h.size, h.block, ⟨h.os, h.output⟩⟩
theorem Grows.alloc (w : World) (o : Obj) : Grows w (w.alloc o) := ⟨by show w.heap.size ≤ (w.heap.push o).size; simp, fun B hB => push_old hB, ⟨rfl, rfl⟩⟩
theorem known_of_calls {B : Nat} {f : FuncId} {fn : Func} {c : Code} {args : List AV} {v : AV} (hf : P.funcs[f]? = some fn) (hn : (fn.name == "runtime.NumGoroutine") = false) (hb : fn.body = some c)
    (h : ∀ (S : St) (h : Heap) (w : World) (vs : Array Value), At GI S h w → VL S args vs.toList → Calls P f vs w fun e w' => ∃ x, e = .returned x ∧ Grows w w' ∧ V (S.grown w'.heap) v x) : Known GI P B f args v := by
  intro F hF S hp w vs _ hAt hv
  refine ⟨callFunc_enter hf hn hb, CallsIn.mono (callsIn_of_calls hF (h S hp w vs hAt hv)) fun e w' hx => ?_⟩
  obtain ⟨x, rfl, hg, hV⟩ := hx
  obtain ⟨h1, h2⟩ := hAt.grown hg.1 hg.2.1 hg.2.2
  exact ⟨_, h1, h2, hV⟩
theorem VL.one' {S : St} {a : AV} {vs : Array Value} (h : VL S [a] vs.toList) : ∃ x, vs = #[x] ∧ V S a x := by
  obtain ⟨l⟩ := vs
  match l, h with
  | [x], h => exact ⟨x, rfl, by simp only [VL] at h; exact h.1⟩
theorem VL.two' {S : St} {a b : AV} {vs : Array Value} (h : VL S [a, b] vs.toList) : ∃ x y, vs = #[x, y] ∧ V S a x ∧ V S b y := by
  obtain ⟨l⟩ := vs
  match l, h with
  | [x, y], h => exact ⟨x, y, rfl, by simp only [VL] at h; exact ⟨h.1, h.2.1⟩⟩

open Go.Proofs Go.Shelf

theorem Grows.tape (w : World) (k : Nat) (os : Array Obj) : Grows w (Go.Sort.grow (w.drewN k) os) := by
  refine ⟨by show w.heap.size ≤ (w.heap ++ os).size; simp, fun B hB => ?_, ⟨rfl, rfl⟩⟩
  show (w.heap ++ os)[B]? = _
  rw [Array.getElem?_append_left hB]
theorem known_itoa_small {B : Nat} {ρ : Ren} {fn : Func} {c : Code} (L : Lays.n171 P ρ) (hf : P.funcs[ρ.f 171]? = some fn) (hn : (fn.name == "runtime.NumGoroutine") = false) (hb : fn.body = some c) (i : Nat) (l : List UInt8) (hi : i < 100) (hl : Lib.decDigits i = l) :
    Known GI P B (ρ.f 171) [.int .i64 i] (.str l.length (sNum l)) :=
  known_of_calls hf hn hb fun S h w vs hAt hv => by
    obtain ⟨x, rfl, hx⟩ := hv.one'
    simp only [V] at hx
    subst hx
    refine (Any.strconv_Itoa_small L i hi w).mono fun e w' ⟨he, hw⟩ => ?_
    subst hw
    exact ⟨_, he, Grows.refl _, V.str_mk (by rw [hl])⟩
theorem known_itoa {B : Nat} {ρ : Ren} {fn : Func} {c : Code} (L : LaysM.n171 P ρ) (hf : P.funcs[ρ.f 171]? = some fn) (hn : (fn.name == "runtime.NumGoroutine") = false) (hb : fn.body = some c)
    (htab : ∀ w : World, GI.ok w.heap → Lib.TabIs P w "internal/strconv.uint64pow10" .u64 Lib.pow10Tab) (i : Int) (l : List UInt8) (h0 : -9223372036854775808 ≤ i) (h1 : i ≤ 9223372036854775807) (hl : Lib.itoa i = l) :
    Known GI P B (ρ.f 171) [.int .i64 i] (.str l.length (sNum l)) :=
  known_of_calls hf hn hb fun S h w vs hAt hv => by
    obtain ⟨x, rfl, hx⟩ := hv.one'
    simp only [V] at hx
    subst hx
    refine (Any.strconv_Itoa L i h0 h1 w (htab w (hAt.hp ▸ hAt.met.2))).mono fun e w' ⟨he, k, os, hw⟩ => ?_
    subst hw
    exact ⟨_, he, Grows.tape _ _ _, V.str_mk (by rw [hl])⟩
theorem V.pair {S : St} {a b : AV} {x y : Value} (ha : V S a x) (hb : V S b y) : V S (.tuple [a, b]) (.tuple #[x, y]) := by
  simp only [V]; exact ⟨_, rfl, by simp only [VL]; exact ⟨ha, hb, trivial⟩⟩
theorem V.str_get {S : St} {l : List UInt8} {x : Value} (h : V S (.str l.length (sNum l)) x) : ∃ s : ByteArray, x = .string s ∧ s.data.toList = l := by
  simp only [V] at h
  obtain ⟨s, h0, h1, h2⟩ := h
  refine ⟨s, h0, ?_⟩
  have e1 := sBytes_eq s.data.toList
  have e2 := sBytes_eq l
  rw [h1, h2] at e1
  exact e1.symm.trans e2
theorem size_of_list {s : ByteArray} {l : List UInt8} (h : s.data.toList = l) : s.size = l.length := by rw [← h]; exact (Array.length_toList (xs := s.data)).symm
theorem known_atoi {B : Nat} {ρ : Ren} {fn : Func} {c : Code} (L : Lays.n172 P ρ) (hf : P.funcs[ρ.f 172]? = some fn) (hn : (fn.name == "runtime.NumGoroutine") = false) (hb : fn.body = some c) (l : List UInt8) (i : Int) (hl : l.length ≤ 18) (hi : Lib.atoi l = some i) :
    Known GI P B (ρ.f 172) [.str l.length (sNum l)] (.tuple [.int .i64 i, .niliface]) := by
  refine known_of_calls hf hn hb fun S h w vs hAt hv => ?_
  obtain ⟨x, hvs, hx⟩ := hv.one'
  obtain ⟨s, hxs, hsl⟩ := hx.str_get
  have h1 : s.size ≤ 18 := by rw [size_of_list hsl]; exact hl
  have h2 : Lib.atoi s.data.toList = some i := by rw [hsl]; exact hi
  rw [hvs, hxs]
  refine (Any.strconv_Atoi L s i h1 h2 w).mono fun e w' hx => ?_
  obtain ⟨he, t, hw⟩ := hx
  have hg : Grows w w' := by
    rw [hw]
    exact ⟨by rw [Lib.bytesWorld_size]; omega, fun B hB => Lib.bytesWorld_at_old w _ _ B hB, ⟨rfl, rfl⟩⟩
  exact ⟨_, he, hg, V.pair (by simp only [V]) (by simp only [V])⟩
theorem bytes_of_list {s : ByteArray} {l : List UInt8} (h : s.data.toList = l) : s = ⟨⟨l⟩⟩ := by
  obtain ⟨⟨x⟩⟩ := s
  have : x = l := h
  rw [this]
noncomputable def strsAV (ps : List (List UInt8)) : List AV := ps.map fun p => .str p.length (sNum p)
theorem strs_VL {S : St} : ∀ ps : List (List UInt8), VL S (strsAV ps) (ps.map fun p => Value.string ⟨⟨p⟩⟩)
  | [] => by simp [strsAV, VL]
  | p :: ps => by
    have h1 : V S (.str p.length (sNum p)) (Value.string ⟨⟨p⟩⟩) := V.str_mk rfl
    have h2 := strs_VL (S := S) ps
    show VL S (.str p.length (sNum p) :: strsAV ps) (Value.string ⟨⟨p⟩⟩ :: ps.map fun p => Value.string ⟨⟨p⟩⟩)
    simp only [VL]; exact ⟨h1, h2⟩
theorem known_split {B : Nat} {ρ : Ren} {fn : Func} {c : Code} (L : Lays.n146 P ρ) (hi9 : (P.info? (ρ.t 9)).map (fun i => (i.zero, i.size, i.bytes)) = some (some (.string ByteArray.empty), 1, 16))
    (hf : P.funcs[ρ.f 146]? = some fn) (hn : (fn.name == "runtime.NumGoroutine") = false) (hb : fn.body = some c)
    (hm : ∀ w : World, GI.ok w.heap → ∃ m, w.cell? ⟨ρ.g 1, 0, none⟩ = some (.int .i64 m)) (l sep : List UInt8) (ps : List (List UInt8)) (h1 : l.length < 4294967281) (h2 : 1 ≤ sep.length)
    (hps : Lib.splitB ⟨⟨sep⟩⟩ 0 (Lib.countB ⟨⟨l⟩⟩ ⟨⟨sep⟩⟩) ⟨⟨l⟩⟩ = ps.map fun p => ⟨⟨p⟩⟩) (hc : Lib.countB ⟨⟨l⟩⟩ ⟨⟨sep⟩⟩ + 1 = ps.length) :
    Known GI P B (ρ.f 146) [.str l.length (sNum l), .str sep.length (sNum sep)] (.pslice (strsAV ps) ps.length 1) := by
  refine known_of_calls hf hn hb fun S h w vs hAt hv => ?_
  obtain ⟨x, y, hvs, hx, hy⟩ := hv.two'
  obtain ⟨s, hxs, hsl⟩ := hx.str_get
  obtain ⟨p, hyp, hpl⟩ := hy.str_get
  have es := bytes_of_list hsl
  have ep := bytes_of_list hpl
  obtain ⟨m, hm⟩ := hm w (hAt.hp ▸ hAt.met.2)
  rw [hvs, hxs, hyp]
  refine (Any.strings_Split L hi9 s p m w (by rw [size_of_list hsl]; exact h1) hm (by rw [size_of_list hpl]; exact h2)).mono fun e w' hx => ?_
  obtain ⟨he, hw⟩ := hx
  rw [es, ep, hc, hps] at *
  have hg : Grows w w' := by rw [hw]; exact Grows.alloc _ _
  have hsz : w'.heap.size = w.heap.size + 1 := by rw [hw]; show (w.heap.push _).size = _; simp
  have hnew : w'.heap[w.heap.size]? = some (.cells ((ps.map fun p => Value.string ⟨⟨p⟩⟩).toArray) (ρ.t 9) (0, 0)) := by
    rw [hw, List.map_map]
    show (w.heap.push _)[w.heap.size]? = _
    simp [Function.comp_def]
  refine ⟨_, he, hg, ?_⟩
  simp only [V]
  refine ⟨_, _, ps.map fun p => Value.string ⟨⟨p⟩⟩, rfl, Nat.le_refl _, strs_VL ps, .inr ⟨rfl, grown_imm hAt.rel (by rw [hAt.hp]; exact Nat.le_refl _) (by show w.heap.size < w'.heap.size; rw [hsz]; exact Nat.lt_succ_self _), fun i v hi => ?_⟩⟩
  show hcell w'.heap w.heap.size (0 + i) = some v ∧ v.oneCell' = true
  unfold hcell
  rw [hnew, Nat.zero_add]
  have hi' : (ps.map fun p => Value.string ⟨⟨p⟩⟩)[i]? = some v := hi
  refine ⟨by simpa using hi', ?_⟩
  rw [List.getElem?_map] at hi'
  cases hp : ps[i]? with
  | none => rw [hp] at hi'; cases hi'
  | some q => rw [hp] at hi'; cases hi'; rfl
end Go.CE

namespace Go.CE
variable {GI : GInv} {P : Program}
open Go.Proofs Go.Shelf

/-! ### strings.Join -/
noncomputable def strOf1 (a : AV) : Option (List UInt8) := match a with | .str n b => some (sBytes n b) | _ => none
noncomputable def joinT (sep : List UInt8) (l : List (List UInt8)) : List UInt8 := List.rec (motive := fun _ => List UInt8) [] (fun x _ ih => sep ++ (x ++ ih)) l
noncomputable def joinR (sep : List UInt8) (l : List (List UInt8)) : List UInt8 := List.rec (motive := fun _ => List UInt8) [] (fun x xs _ => x ++ joinT sep xs) l
theorem joinR_eq (sep : List UInt8) (l : List (List UInt8)) : joinR sep l = Lib.join l sep := by
  have ht : ∀ (xs : List (List UInt8)) (x : List UInt8), x ++ joinT sep xs = Lib.join (x :: xs) sep := by
    intro xs
    induction xs with
    | nil => intro x; show x ++ [] = _; rw [Lib.join_one]; simp
    | cons y xs ih =>
      intro x
      show x ++ (sep ++ (y ++ joinT sep xs)) = _
      rw [ih y]
      simp [Lib.join, List.intercalate, List.intersperse]
  cases l with
  | nil => rfl
  | cons x xs => exact ht xs x
noncomputable def notStr (a : AV) : Bool := match a with | .str _ _ => false | _ => true
noncomputable def hkJoin : Hook := fun args h => match args with
  | [x, .str n b] => bsel (notStr x) (obind (elemsS h.rows.get 1 x) fun p => obind (mapO strOf1 p.1) fun ls =>
      bsel (bsel (Nat.ble p.2 140737488355328) (Nat.ble (llen (joinR (sBytes n b) ls)) 140737488355328) false) (some (.str (llen (joinR (sBytes n b) ls)) (sNum (joinR (sBytes n b) ls)), h)) none) none
  | _ => none
theorem strs_of {S : St} : ∀ {l : List AV} {ls : List (List UInt8)} {vs : List Value}, mapO strOf1 l = some ls → VL S l vs → vs = ls.map fun p => Value.string ⟨⟨p⟩⟩
  | [], ls, vs, h, hv => by
    have := mapO_nil h; subst this
    have := hv.length
    exact List.length_eq_zero_iff.1 this.symm
  | a :: l, ls, vs, h, hv => by
    obtain ⟨p, ls', h1, h2, rfl⟩ := mapO_cons h
    match vs, hv with
    | v :: vs, hv =>
      simp only [VL] at hv
      rw [strs_of h2 hv.2]
      unfold strOf1 at h1
      split at h1
      · cases h1
        have hv1 := hv.1
        simp only [V] at hv1
        obtain ⟨s, h3, h4, h5⟩ := hv1
        rw [h3, ← h4, ← h5, sBytes_eq]
        rfl
      · cases h1
theorem upon_calls {F : Fence} (hF : Free F) {f : FuncId} {fn : Func} {c : Code} {vs : Array Value} {w : World} {R : Value → World → Prop} (hf : P.funcs[f]? = some fn) (hn : (fn.name == "runtime.NumGoroutine") = false) (hb : fn.body = some c)
    (h : Calls P f vs w fun e w' => ∃ x, e = .returned x ∧ R x w') : Upon F P R ((callFunc f vs).run P w) := by
  rw [callFunc_enter hf hn hb]
  exact CallsIn.mono (callsIn_of_calls hF h) fun e w' ⟨x, he, hx⟩ => by subst he; exact hx
theorem hcell_lt {hp : Array Obj} {B i : Nat} {v : Value} (h : hcell hp B i = some v) : B < hp.size := by
  unfold hcell at h
  cases hB : hp[B]? with
  | none => rw [hB] at h; cases h
  | some o => exact (Array.getElem?_eq_some_iff.1 hB).1
theorem hkJoin_ok {ρ : Ren} {fn : Func} {c : Code} (L : Lays.n156 P ρ) (X : Builder.Extra P ρ) (hf : P.funcs[ρ.f 156]? = some fn) (hn : (fn.name == "runtime.NumGoroutine") = false) (hb : fn.body = some c)
    {args : List AV} {h : Heap} {v : AV} {h' : Heap} (he : hkJoin args h = some (v, h')) {F : Fence} (hF : Free F) {S : St} {w : World} {vs : Array Value} (hAt : At GI S h w) (hv : VL S args vs.toList) :
    Upon F P (fun x w' => ∃ S', At GI S' h' w' ∧ Behind S h S' h' ∧ V S' v x) ((callFunc (ρ.f 156) vs).run P w) := by
  unfold hkJoin at he
  split at he
  · rename_i x n b
    obtain ⟨hns, h1⟩ := bsel_none he
    obtain ⟨p, h2, h3⟩ := obind_eq h1
    obtain ⟨ls, h4, h5⟩ := obind_eq h3
    obtain ⟨hlim, h6⟩ := bsel_none h5
    obtain ⟨hl1, hl2⟩ := wf_two hlim
    cases h6
    obtain ⟨vx, vy, hvs, hx, hy⟩ := hv.two'
    simp only [V] at hy
    obtain ⟨sp, hsp, hs1, hs2⟩ := hy
    have hsep : sBytes n b = sp.data.toList := by rw [← hs1, ← hs2, sBytes_eq]
    rw [hsep] at hl2 ⊢
    rw [llen_eq] at hl2 ⊢
    rw [joinR_eq] at hl2 ⊢
    obtain ⟨l, m⟩ := p
    have hl1' : m ≤ 140737488355328 := ble_le hl1
    have hl2' := ble_le hl2
    have res : ∀ (t : ByteArray) (w' : World), t = ⟨(Lib.join ls sp.data.toList).toArray⟩ → Grows w w' → ∃ S', At GI S' h w' ∧ Behind S h S' h ∧ V S' (.str (Lib.join ls sp.data.toList).length (sNum (Lib.join ls sp.data.toList))) (.string t) := fun t w' ht hg => by
      obtain ⟨g1, g2⟩ := hAt.grown hg.1 hg.2.1 hg.2.2
      exact ⟨_, g1, g2, by rw [ht]; exact V.str_mk rfl⟩
    rw [← hAt.look] at h2
    refine upon_calls hF hf hn hb ?_
    rw [hvs, hsp]
    rcases elems_sound hAt.rel hx h2 with ⟨s, hxs, _⟩ | ⟨base, cap, us, rfl, hnc, hl, hvl, h1', hb', hc'⟩
    · exfalso
      subst hxs
      unfold elemsS at h2
      split at h2
      · simp only [V] at hx; cases hx
      · simp only [V] at hx; obtain ⟨_, _, _, e, _⟩ := hx; cases e
      · simp only [V] at hx; obtain ⟨_, _, _, e, _⟩ := hx; cases e
      · cases hns
      · cases h2
    · have hus := strs_of h4 hvl
      have hlen : ls.length = m := by
        have := hvl.length
        rw [hl, hus] at this
        simpa using this.symm
      by_cases h0 : m = 0
      · subst h0
        have hls : ls = [] := List.length_eq_zero_iff.1 hlen
        refine (Any.strings_Join_none L X base cap sp w).mono fun e w' hx => ?_
        obtain ⟨he, hw⟩ := hx
        subst hw
        exact ⟨_, he, res _ _ (by rw [hls]; rfl) (Grows.refl _)⟩
      · cases base with
        | none => exact absurd (hb' rfl) h0
        | some ad =>
          obtain ⟨B, k, spt⟩ := ad
          rcases hc' _ rfl with hz | ⟨hspt, hcells⟩
          · rw [hz] at hus
            have : ls.length = 0 := by
              have := congrArg List.length hus
              simpa using this.symm
            omega
          · simp only at hspt hcells
            subst hspt
            have hget : ∀ (j : Nat) x, (ls.map fun p => (⟨⟨p⟩⟩ : ByteArray))[j]? = some x → hcell S.hp B (k + j) = some (.string x) := fun j x hj => by
              refine (hcells j _ ?_).1
              rw [hus]
              rw [List.getElem?_map] at hj ⊢
              cases hp : ls[j]? with
              | none => rw [hp] at hj; cases hj
              | some q => rw [hp] at hj; cases hj; rfl
            have hdl : (ls.map fun p => (⟨⟨p⟩⟩ : ByteArray)).map (·.data.toList) = ls := by
              rw [List.map_map]
              show ls.map (fun p => p) = ls
              simp
            have hbk : B < w.heap.size := by
              rw [← hAt.hp]
              have h0' : 0 < ls.length := by omega
              exact hcell_lt (hget 0 ⟨⟨ls[0]⟩⟩ (by simp [h0']))
            have hcall := Any.strings_Join L X B k cap (ls.map fun p => (⟨⟨p⟩⟩ : ByteArray)) sp w (fun j x hj => by rw [cell_hcell, ← hAt.hp]; exact hget j x hj) hbk (by rw [List.length_map, hlen]; exact hl1') (by rw [List.length_map, hlen]; exact hnc) (by rw [hdl]; exact hl2')
            rw [hdl, List.length_map, hlen] at hcall
            refine hcall.mono fun e w' hx => ?_
            obtain ⟨he, hw⟩ := hx
            exact ⟨_, he, res _ _ rfl (Grows.below hw)⟩
  · cases he
theorem hkJoin_good (args : List AV) (b : Nat) (h : Heap) : GoodAt Prod.mk b (hkJoin args) h := by
  intro y e
  have e0 := e
  unfold hkJoin at e
  split at e
  · rename_i x n bb
    obtain ⟨hns, h1⟩ := bsel_none e
    obtain ⟨p, h2, h3⟩ := obind_eq h1
    obtain ⟨ls, h4, h5⟩ := obind_eq h3
    obtain ⟨hlim, h6⟩ := bsel_none h5
    cases h6
    refine ⟨_, h, rfl, After.refl b h, fun x' h2' hf => ⟨h2', ?_, hf⟩⟩
    unfold hkJoin
    simp only [hns, bsel_true, elemsS_mono hf.le p h2, obind_some, h4, hlim]
  · cases e
end Go.CE

namespace Go.CE
variable {GI : GInv} {P : Program}

/-! ### internal/bytealg.IndexByteString -/
noncomputable def ixB (c : Nat) (l : List UInt8) : Nat → Int := List.rec (motive := fun _ => Nat → Int) (fun _ => -1) (fun b _ ih i => bsel (Nat.beq b.toNat c) (.ofNat i) (ih (Nat.succ i))) l
theorem ixB_eq (c : UInt8) : ∀ (l : List UInt8) (i : Nat), ixB c.toNat l i = if Lib.indexByte l c = -1 then -1 else Lib.indexByte l c + i
  | [], i => by simp [ixB, Lib.indexByte]
  | b :: l, i => by
    show bsel (Nat.beq b.toNat c.toNat) (.ofNat i) (ixB c.toNat l (i + 1)) = _
    have hge := Lib.indexByte_ge l c
    unfold Lib.indexByte
    cases hb : Nat.beq b.toNat c.toNat with
    | true =>
      have e : b = c := UInt8.toNat_inj.1 (beq_eq hb)
      simp [e]
    | false =>
      have e : ¬ b = c := fun e => beq_ne hb (by rw [e])
      rw [bsel_false, ixB_eq c l (i + 1)]
      simp only [beq_iff_eq, e, if_false]
      by_cases h1 : Lib.indexByte l c = -1
      · simp [h1]
      · simp only [h1, if_false]
        rw [if_neg (by omega)]
        omega
noncomputable def hkIx : Hook := fun args h => match args with
  | [.str n b, .int .u8 (.ofNat c)] => bsel (Nat.ble c 255) (some (.int .i64 (ixB c (sBytes n b) 0), h)) none
  | _ => none
theorem hkIx_good (args : List AV) (b : Nat) (h : Heap) : GoodAt Prod.mk b (hkIx args) h := by
  intro y e
  have e0 := e
  unfold hkIx at e
  split at e
  · obtain ⟨h1, h2⟩ := bsel_none e
    cases h2
    refine ⟨_, h, rfl, After.refl b h, fun x' h2' hf => ⟨h2', ?_, hf⟩⟩
    unfold hkIx
    simp only [h1, bsel_true]
  · cases e
theorem callFunc_extern {f : FuncId} {fn : Func} {e : Array Value → Sem Value} {vs : Array Value} {w w' : World} {x : Value} (hf : P.funcs[f]? = some fn) (hn : (fn.name == "runtime.NumGoroutine") = false) (hb : fn.body = none)
    (h1 : Extern.findNext fn = none) (h2 : Extern.find fn = some e) (h3 : (e vs).run P w = .ok x w') : (callFunc f vs).run P w = .ok (.value x) w' := by
  unfold callFunc
  rw [Sem.run_bind, run_program]
  simp only [Result.andThen, hf, hn, hb, Option.isNone_none, if_true, Bool.false_eq_true, if_false, h1, h2]
  rw [Sem.run_bind, run_mark]
  simp only [Result.andThen]
  rw [Sem.run_bind, h3]
  rfl
theorem hkIx_ok {f : FuncId} {fn : Func} (hf : P.funcs[f]? = some fn) (hn : (fn.name == "runtime.NumGoroutine") = false) (hb : fn.body = none) (h1 : Extern.findNext fn = none) (h2 : Extern.find fn = some Extern.BytealgIndexByte.indexByte)
    {args : List AV} {h : Heap} {v : AV} {h' : Heap} (he : hkIx args h = some (v, h')) {F : Fence} {S : St} {w : World} {vs : Array Value} (hAt : At GI S h w) (hv : VL S args vs.toList) :
    Upon F P (fun x w' => ∃ S', At GI S' h' w' ∧ Behind S h S' h' ∧ V S' v x) ((callFunc f vs).run P w) := by
  unfold hkIx at he
  split at he
  · rename_i n b c
    obtain ⟨hc, h3⟩ := bsel_none he
    have hc' : c ≤ 255 := ble_le hc
    cases h3
    obtain ⟨vx, vy, hvs, hx, hy⟩ := hv.two'
    simp only [V] at hx hy
    obtain ⟨s, hs, hs1, hs2⟩ := hx
    rw [hvs, hs, hy]
    have hrun := callFunc_extern (vs := #[.string s, .int .u8 (Int.ofNat c)]) hf hn hb h1 h2 (Lib.run_indexByteString s (Int.ofNat c) w)
    rw [hrun]
    refine ⟨S, hAt, Behind.refl S h, ?_⟩
    simp only [V]
    rw [← hs1, ← hs2, sBytes_eq]
    have e1 : (Int.ofNat c).toNat.toUInt8.toNat = c := by
      show (UInt8.ofNat c).toNat = c
      simp
      omega
    have e2 := ixB_eq (Int.ofNat c).toNat.toUInt8 s.data.toList 0
    rw [e1] at e2
    rw [e2]
    have hge := Lib.indexByte_ge s.data.toList (Int.ofNat c).toNat.toUInt8
    congr 1
    split
    · rename_i e3; exact e3
    · simp
  · cases he
end Go.CE
