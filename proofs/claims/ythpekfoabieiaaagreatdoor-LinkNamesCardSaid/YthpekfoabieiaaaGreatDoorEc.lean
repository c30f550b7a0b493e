import Derived.Test.YthpekfoabieiaaaGreatDoorEb
import Derived.Laws.Append
set_option linter.all false
namespace Go.CE
section
variable {P : Program} {E : Env} {S : St} {w : World} {at_ : Nat} {look' : Look} {u : Upd} {v : AV} {ρ : Operand → AV} {σ : Operand → Value} {o : Oper}

theorem sameBits_self {n : Nat} {k : AV} {x : Value} {d : TypeDesc} (hx : V S k x) (hd : tagD d = some (tagOf k)) : Instr.sameBits (n + 1) x x = true := by
  cases k <;> simp only [tagOf] at hd <;> simp only [V] at hx <;> first
    | (subst hx; simp [Instr.sameBits]; done)
    | (obtain ⟨s, rfl, _⟩ := hx; simp [Instr.sameBits, beq_toListBytes]; done)
    | (exfalso; cases d <;> simp [tagD] at hd)
theorem mput_cons {k v a b : AV} {ks vs : List AV} {p : Bool × List AV} (h : mput k v (a :: ks) (b :: vs) = some p) :
    ∃ t, aeq0 k a = some t ∧ ((t = true ∧ p = (true, v :: vs)) ∨ (t = false ∧ ∃ q, mput k v ks vs = some q ∧ p = (q.1, b :: q.2))) := by
  obtain ⟨t, h1, h2⟩ := obind_eq (show obind (aeq0 k a) (fun t => bsel t (some (true, v :: vs)) (obind (mput k v ks vs) fun p => some (p.1, b :: p.2))) = some p from h)
  cases t with
  | true => cases h2; exact ⟨true, h1, .inl ⟨rfl, rfl⟩⟩
  | false =>
    obtain ⟨q, h3, h4⟩ := obind_eq (show obind (mput k v ks vs) (fun p => some (p.1, b :: p.2)) = some p from h2)
    cases h4
    exact ⟨false, h1, .inr ⟨rfl, q, h3, rfl⟩⟩
/-- Where a key is put. -/
theorem mput_sound {k v : AV} {x y : Value} {d : TypeDesc} (hx : V S k x) (hy : V S v y) (hd : tagD d = some (tagOf k)) : ∀ {ks vs : List AV} {es : List MapEntry} {p : Bool × List AV} (i : Nat),
    VL S ks (es.map (·.key)) → VL S vs (es.map (·.val)) → mput k v ks vs = some p →
    (p = (false, vs) ∧ Instr.findNow d x es i = some none) ∨ ∃ j z, Instr.findNow d x es i = some (some (i + j, z)) ∧ p.1 = true ∧ j < es.length ∧ (es[j]?).map (·.key) = some x ∧ p.2 = vs.set j v
  | [], [], [], p, i, _, _, h => by cases h; exact .inl ⟨rfl, rfl⟩
  | a :: ks, b :: vs, e :: es, p, i, hk, hv, h => by
    simp only [List.map_cons, VL] at hk hv
    obtain ⟨t, h1, h2⟩ := mput_cons h
    obtain ⟨h3, h4⟩ := same_key hx hk.1 h1 hd
    rcases h2 with ⟨rfl, rfl⟩ | ⟨rfl, q, h2, rfl⟩
    · exact .inr ⟨0, e.val, by simp [Instr.findNow, h3], rfl, by simp, by simp [h4 rfl], rfl⟩
    · rcases mput_sound hx hy hd (i + 1) hk.2 hv.2 h2 with ⟨rfl, h5⟩ | ⟨j, z, h5, h6, h7, h8, h9⟩
      · exact .inl ⟨rfl, by simp only [Instr.findNow, h3]; exact h5⟩
      · refine .inr ⟨j + 1, z, ?_, h6, by simp; omega, by simpa using h8, ?_⟩
        · simp only [Instr.findNow, h3]
          rw [show i + (j + 1) = i + 1 + j by omega]; exact h5
        · show b :: q.2 = _; rw [h9]; rfl
  | [], _, _ :: _, _, _, hk, _, _ => by simp [VL] at hk
  | _ :: _, _, [], _, _, hk, _, _ => by simp [VL] at hk
  | _, [], _ :: _, _, _, _, hv, _ => by simp [VL] at hv
  | _, _ :: _, [], _, _, _, hv, _ => by simp [VL] at hv
theorem VL.set {as : List AV} {vs : List Value} (h : VL S as vs) (j : Nat) {a : AV} {v : Value} (hv : V S a v) : VL S (as.set j a) (vs.set j v) := by
  refine VL.mk (by simp [h.length]) fun i x y hx hy => ?_
  rw [List.getElem?_set] at hx hy
  by_cases hij : j = i
  · subst hij
    rw [if_pos rfl] at hx hy
    split at hx
    · split at hy
      · cases hx; cases hy; exact hv
      · cases hy
    · cases hx
  · rw [if_neg hij] at hx hy
    obtain ⟨z, hz1, hz2⟩ := h.get i x hx
    rw [hy] at hz1; cases hz1; exact hz2
theorem setObj_run {B : Nat} {ob ob' : Obj} (h : w.heap[B]? = some ob) (hc : ∀ c e f, ob ≠ .cells c e f) :
    (setObj B ob').run P w = .ok () { w with heap := w.heap.setIfInBounds B ob' } := by
  unfold setObj
  simp only [Sem.run, h]
/-- A row that is an object, changed in place. -/
theorem objChange (hS : Rel S) (hw : S.hp = w.heap) {r : Nat} {row row' : Row} {ob' : Obj} (h0 : S.look r = some row) (hU : UpdOK S.look look' at_ (.set r row'))
    (hnc : ∀ g, liveRow row g ↔ g = 0) (hnc' : ∀ g, liveRow row' g ↔ g = 0) (hlen : hlen S.hp (S.G r 0).blk = 0) :
    Change S look' S.G (w.heap.setIfInBounds (S.G r 0).blk ob') r row row' := by
  obtain ⟨h1, h2⟩ := hU
  have hg : gminOf row = 0 ∧ gmaxOf row = 0 := by
    have := (live_iff (row := row) (g := 0)).1 ((hnc 0).2 rfl)
    refine ⟨by omega, ?_⟩
    rcases Nat.eq_zero_or_pos (gmaxOf row) with h | h
    · exact h
    · exfalso
      have : liveRow row (gmaxOf row) := live_iff.2 ⟨by omega, Nat.le_refl _⟩
      have := (hnc _).1 this; omega
  have hg' : gminOf row' = 0 ∧ gmaxOf row' = 0 := by
    have := (live_iff (row := row') (g := 0)).1 ((hnc' 0).2 rfl)
    refine ⟨by omega, ?_⟩
    rcases Nat.eq_zero_or_pos (gmaxOf row') with h | h
    · exact h
    · exfalso
      have : liveRow row' (gmaxOf row') := live_iff.2 ⟨by omega, Nat.le_refl _⟩
      have := (hnc' _).1 this; omega
  refine ⟨h0, h1, h2, fun _ _ _ => rfl, by omega, by omega, fun _ _ _ => rfl, fun g hg => .inl ⟨0, (hnc 0).2 rfl, ?_⟩, by rw [hw]; simp, fun B hB hne => ?_, fun g hg => ?_⟩
  · have := (hnc' g).1 hg; subst this; exact ⟨rfl, rfl⟩
  · have : (S.G r 0).blk ≠ B := hne 0 ((hnc 0).2 rfl)
    rw [hw, Array.getElem?_setIfInBounds, if_neg this]
  · have := (hnc g).1 hg; subst this; rw [hlen]; exact Nat.zero_le _
theorem VL.append1 {as : List AV} {vs : List Value} (h : VL S as vs) {a : AV} {v : Value} (hv : V S a v) : VL S (as ++ [a]) (vs ++ [v]) :=
  VL.append h (by simp [VL, hv])
theorem map_upd (hS : Rel S) (hw : S.hp = w.heap) {t : TypeId} {k e : TypeId} {d : TypeDesc} {am ak av : AV} {xm xk xv : Value} (hd : P.underlying t = some (.map k e)) (hkd : P.underlying k = some d)
    (hm : V S am xm) (hk : V S ak xk) (hv : V S av xv) (htag : tagD d = some (tagOf ak)) (hl : UpdOK S.look look' at_ u) (h : mapUpd S.look am ak av = some (v, u)) :
    ∃ (S' : St) (w' : World), (Instr.mapUpdate t xm xk xv).run P w = .ok () w' ∧ SameOut w w' ∧ v = .undef ∧ S'.hp = w'.heap ∧ Rel S' ∧ Ext S S' ∧ S'.look = look' ∧ (∀ r, S'.kn r ↔ S.kn r ∨ (u.isNew ∧ r = at_)) ∧ ∀ lo, u.above lo → Keep lo S S' := by
  unfold mapUpd at h
  split at h
  · rename_i r
    obtain ⟨es, h1, h2⟩ := obind_eq h
    obtain ⟨row, h3, h4⟩ := obind_eq h1
    have := mapRow_some h4; subst this
    obtain ⟨p, h5, h6⟩ := obind_eq h2
    simp only [Option.some.injEq, Prod.mk.injEq] at h6
    obtain ⟨rfl, rfl⟩ := h6
    simp only [V] at hm
    obtain ⟨hkn, B, rfl, hlv⟩ := hm
    have hlive : S.live r 0 := ⟨_, h3, rfl⟩
    have hB := hlv hlive
    subst hB
    obtain ⟨ms, cl, hB, hks, hvs⟩ := hS.row r _ h3
    have hB' : w.heap[(S.G r 0).blk]? = some (.map ms cl) := by rw [← hw]; exact hB
    have hlt : (S.G r 0).blk < w.heap.size := (Array.getElem?_eq_some_iff.1 hB').1
    have hlen0 : hlen S.hp (S.G r 0).blk = 0 := by unfold hlen; rw [hB]
    have hnt : tagD d ≠ none := by rw [htag]; simp
    have hrun : ∀ res, Instr.findNow d xk ms.toList 0 = some res → (Instr.mapUpdate t (.map (some (S.G r 0).blk)) xk xv).run P w =
        ((match res with
          | some (i, _) => do
            let key ← Instr.keyThatStays (((ms[i]?).map (·.key)).getD xk) xk
            setObj (S.G r 0).blk (.map (ms.modify i fun e => { e with key, val := xv }) cl)
          | none => setObj (S.G r 0).blk (.map (ms.push { key := xk, val := xv, born := cl }) (cl + 1))) : Sem Unit).run P w := by
      intro res hres
      unfold Instr.mapUpdate
      simp only [Sem.run_bind, underlying_run hd, Result.andThen_ok, getObj_run (P := P) hB' (by simp)]
      rw [show (10000 : Nat) = 9999 + 1 from rfl, checkKey_run hkd hnt]
      simp only [Result.andThen_ok, Instr.findKey, Sem.run_bind, underlying_run hkd, hres, Sem.run_pure]
      cases res <;> rfl
    rcases mput_sound hk hv htag 0 hks hvs h5 with ⟨hp, hf⟩ | ⟨j, z, hf, hp1, hj, hkey, hp2⟩
    · -- a new entry
      have hp' : p = (false, es.2) := hp
      subst hp'
      simp only [bsel_false] at hl ⊢
      have hr := hrun none hf
      simp only at hr
      rw [setObj_run hB' (by simp)] at hr
      have hch := objChange (at_ := at_) (ob' := .map (ms.push { key := xk, val := xv, born := cl }) (cl + 1)) hS hw h3 hl (fun g => by simp [liveRow]) (fun g => by simp [liveRow]) hlen0
      refine ⟨_, _, hr, ⟨rfl, rfl⟩, trivial, rfl, hch.rel hS (fun hx => ?_), hch.ext hS, rfl, fun r => by simp [Upd.isNew], fun lo hlo => hch.keep hS hlo⟩
      refine ⟨_, _, by show (w.heap.setIfInBounds _ _)[_]? = _; rw [Array.getElem?_setIfInBounds_self_of_lt hlt], ?_, ?_⟩
      · rw [lapp_eq]; simp only [Array.toList_push, List.map_append, List.map_cons, List.map_nil]
        exact VL.append1 (VL.ext hx hks) (V.ext hx hk)
      · rw [lapp_eq]; simp only [Array.toList_push, List.map_append, List.map_cons, List.map_nil]
        exact VL.append1 (VL.ext hx hvs) (V.ext hx hv)
    · rw [hp1] at hl ⊢
      simp only [bsel_true] at hl ⊢
      rw [Nat.zero_add] at hf
      have hr := hrun (some (j, z)) hf
      simp only at hr
      have hje : (ms[j]?).map (·.key) = some xk := by simpa using hkey
      have hst : (Instr.keyThatStays xk xk).run P w = .ok xk w := by
        unfold Instr.keyThatStays
        rw [show (10000 : Nat) = 9999 + 1 from rfl, sameBits_self hk htag]
        simp
      rw [hje] at hr
      simp only [Option.getD_some, Sem.run_bind, hst, Result.andThen_ok] at hr
      rw [setObj_run hB' (by simp)] at hr
      have hch := objChange (at_ := at_) (ob' := .map (ms.modify j fun e => { e with key := xk, val := xv }) cl) hS hw h3 hl (fun g => by simp [liveRow]) (fun g => by simp [liveRow]) hlen0
      refine ⟨_, _, hr, ⟨rfl, rfl⟩, trivial, rfl, hch.rel hS (fun hx => ?_), hch.ext hS, rfl, fun r => by simp [Upd.isNew], fun lo hlo => hch.keep hS hlo⟩
      have hmk : (ms.modify j fun e => { e with key := xk, val := xv }).toList.map (·.key) = ms.toList.map (·.key) := by
        apply List.ext_getElem?
        intro i
        simp only [Array.toList_modify, List.getElem?_map, List.getElem?_modify]
        by_cases hij : j = i
        · subst hij
          have hkey' : (ms.toList[j]?).map (·.key) = some xk := hkey
          cases hmj : ms.toList[j]? with
          | none => simp
          | some e => rw [hmj] at hkey'; simp at hkey' ⊢; exact hkey'.symm
        · simp [hij]
      have hmv : (ms.modify j fun e => { e with key := xk, val := xv }).toList.map (·.val) = (ms.toList.map (·.val)).set j xv := by
        apply List.ext_getElem?
        intro i
        simp only [Array.toList_modify, List.getElem?_map, List.getElem?_modify, List.getElem?_set]
        by_cases hij : j = i
        · subst hij
          have hj' : j < ms.toList.length := hj
          simp [hj']
          simp at hj'
          simp [hj']
        · simp [hij]
      refine ⟨_, _, by show (w.heap.setIfInBounds _ _)[_]? = _; rw [Array.getElem?_setIfInBounds_self_of_lt hlt], ?_, ?_⟩
      · rw [hmk]; exact VL.ext hx hks
      · rw [hmv, hp2]; exact VL.set (VL.ext hx hvs) j (V.ext hx hv)
  · cases h
theorem snd_mapUpdate {t : TypeId} {m k y : Operand} (ho : o.op = .mapUpdate t m k y ∨ o.op = .insert t m k y) (hE : EnvTypes P E) (hS : Rel S) (hw : S.hp = w.heap) (hρ : ∀ x, V S (ρ x) (σ x)) (hl : UpdOK S.look look' at_ u)
    (h : smMapUpdate t m k y E ρ S.look at_ = some (v, u)) : Done P S w at_ look' u v (execOp σ o) := by
  obtain ⟨ti, h1, h2⟩ := obind_eq h
  obtain ⟨z, h3, h4⟩ := obind_eq h2
  obtain ⟨h5, h6⟩ := bsel_none h4
  have := hE t ti h1; subst this
  obtain ⟨kt, e, ie, d, hd, hie, hkd, htag, hz⟩ := mkTI_map h3
  obtain ⟨S', w', hr, hso, rfl, h7, h8, h9, h10, h11, h12⟩ := map_upd (P := P) hS hw hd hkd (hρ m) (hρ k) (hρ y) (by rw [htag, beq_eq h5]) hl h6
  refine ⟨S', w', .skip, ?_, h7, h8, h9, h10, h11, h12, .inr ⟨rfl, rfl⟩, hso⟩
  rcases ho with ho | ho <;> simp [execOp, ho, hr]
theorem snd_range {t : TypeId} {x : Operand} (ho : o.op = .range t x) (hE : EnvTypes P E) (hS : Rel S) (hw : S.hp = w.heap) (hρ : ∀ x, V S (ρ x) (σ x)) (hat : ¬ S.kn at_) (hl : UpdOK S.look look' at_ u)
    (h : smRange t x E ρ S.look at_ = some (v, u)) : Done P S w at_ look' u v (execOp σ o) := by
  obtain ⟨ti, h1, h2⟩ := obind_eq h
  have := hE t ti h1; subst this
  have hx := hρ x
  split at h2
  · rename_i n b he
    obtain ⟨z, h3, h4⟩ := obind_eq h2
    have hd := mkTI_str h3
    cases h4
    rw [he] at hx; simp only [V] at hx
    obtain ⟨s, hx, rfl, rfl⟩ := hx
    rw [sBytes_eq] at hl ⊢
    have hs : (⟨⟨s.data.toList⟩⟩ : ByteArray) = s := bytes_same rfl
    refine Done.newObj (o := .stringIter s 0) (x := .pointer (some ⟨w.heap.size, 0, none⟩)) hS hw hat hl (w' := { w with heap := w.heap.push (.stringIter s 0) }) ?_ rfl (fun _ => ?_) (fun _ => ?_)
    · simp [execOp, ho, hx, Instr.range, underlying_run hd]
    · show (S.hp.push _)[(if at_ = at_ then (⟨w.heap.size, 0, 0⟩ : PL) else _).blk]? = _
      rw [if_pos rfl, hw, hs]; simp
    · simp only [V]
      refine ⟨⟨.inr rfl, fun row hrow => ?_⟩, _, rfl, fun _ => ?_⟩
      · have := hl.2 row hrow; subst this; rfl
      · have hG : (S.add look' at_ ⟨w.heap.size, 0, 0⟩ (.stringIter s 0)).G at_ 0 = ⟨w.heap.size, 0, 0⟩ := by
          show (if at_ = at_ then _ else _) = _; rw [if_pos rfl]
        rw [hG]; exact ⟨rfl, Nat.le_refl _, Nat.le_refl _⟩
  · obtain ⟨z, h3, h4⟩ := obind_eq h2
    obtain ⟨es, h5, h6⟩ := obind_eq h4
    obtain ⟨_, h7, h8⟩ := obind_eq h6
    obtain ⟨kt, e, ie, d, hd, hie, hkd, htag, hz⟩ := mkTI_map h3
    cases h8
    obtain ⟨mo, cl, hxm, hrun⟩ : ∃ mo cl, σ x = .map mo ∧ (execOp σ o).run P w = .ok (.value (.pointer (some ⟨w.heap.size, 0, none⟩))) { w with heap := w.heap.push (.mapIter mo cl #[] cl) } := by
      rcases mapS_sound (w := w) hS hw hx h5 with ⟨hxm, _⟩ | ⟨B, ms, cl, hxm, hB, _, _⟩
      · exact ⟨none, 0, hxm, by simp [execOp, ho, hxm, Instr.range, underlying_run hd]⟩
      · exact ⟨some B, cl, hxm, by simp [execOp, ho, hxm, Instr.range, underlying_run hd, getObj_run (P := P) hB]⟩
    rw [hxm] at hx
    refine Done.newObj (o := .mapIter mo cl #[] cl) (x := .pointer (some ⟨w.heap.size, 0, none⟩)) hS hw hat hl (w' := { w with heap := w.heap.push (.mapIter mo cl #[] cl) }) hrun rfl (fun hxx => ?_) (fun _ => ?_)
    · refine ⟨mo, cl, cl, ?_, V.ext hxx hx⟩
      show (S.hp.push _)[(if at_ = at_ then (⟨w.heap.size, 0, 0⟩ : PL) else _).blk]? = _
      rw [if_pos rfl, hw]; simp
    · simp only [V]
      refine ⟨⟨.inr rfl, fun row hrow => ?_⟩, _, rfl, fun _ => ?_⟩
      · have := hl.2 row hrow; subst this; rfl
      · have hG : (S.add look' at_ ⟨w.heap.size, 0, 0⟩ (.mapIter mo cl #[] cl)).G at_ 0 = ⟨w.heap.size, 0, 0⟩ := by
          show (if at_ = at_ then _ else _) = _; rw [if_pos rfl]
        rw [hG]; exact ⟨rfl, Nat.le_refl _, Nat.le_refl _⟩
theorem noneIn_nil {es : List AV × List AV} {n : Nat} (h : noneIn es = some n) : es.1 = [] := by
  unfold noneIn at h
  split at h
  · assumption
  · cases h
theorem snd_next {x : Operand} {st : Bool} (ho : o.op = .next x st) (hS : Rel S) (hw : S.hp = w.heap) (hρ : ∀ x, V S (ρ x) (σ x)) (hl : UpdOK S.look look' at_ u)
    (h : smNext x st E ρ S.look at_ = some (v, u)) : Done P S w at_ look' u v (execOp σ o) := by
  have hx := hρ x
  unfold smNext at h
  split at h
  · rename_i r m he
    obtain ⟨row, h3, h4⟩ := obind_eq h
    rw [he] at hx; simp only [V] at hx
    obtain ⟨hk, ad, hx, hlv⟩ := hx
    unfold nextRow at h4
    split at h4
    · rename_i s pos
      obtain ⟨hst, h4'⟩ := bsel_none h4
      subst hst
      clear h4
      have h4 := h4'
      clear h4'
      have hlive : S.live r 0 := ⟨_, h3, rfl⟩
      obtain ⟨rfl, hsh, _⟩ := hlv hlive
      have hB : S.hp[(S.G r 0).blk]? = some (.stringIter s pos) := hS.row r _ h3
      have hB' : w.heap[(S.G r 0).blk]? = some (.stringIter s pos) := by rw [← hw]; exact hB
      have hlt : (S.G r 0).blk < w.heap.size := (Array.getElem?_eq_some_iff.1 hB').1
      have hlen0 : hlen S.hp (S.G r 0).blk = 0 := by unfold hlen; rw [hB]
      have hx' : σ x = .pointer (some ⟨(S.G r 0).blk, 0, none⟩) := by rw [hx, Nat.zero_sub]
      have hcase : (Nat.ble (Nat.succ pos) s.size = true ∧ (v, u) = (.tuple [.bool true, .int .i64 (.ofNat pos), .int .i32 (Utf8.decode s pos).1], .set r (.siter s (pos + (Utf8.decode s pos).2)))) ∨
          (Nat.ble (Nat.succ pos) s.size = false ∧ (v, u) = (.tuple [.bool false], .keep)) := by
        cases hb : Nat.ble (Nat.succ pos) s.size <;> rw [hb] at h4
        · simp only [bsel_false, Option.some.injEq] at h4; exact .inr ⟨rfl, h4.symm⟩
        · simp only [bsel_true, Option.some.injEq] at h4; exact .inl ⟨rfl, h4.symm⟩
      rcases hcase with ⟨hb, hvu⟩ | ⟨hb, hvu⟩
      · cases hvu
        have hlt' : pos < s.size := ble_le hb
        have hch := objChange (at_ := at_) (ob' := .stringIter s (pos + (Utf8.decode s pos).2)) hS hw h3 hl (fun g => by simp [liveRow]) (fun g => by simp [liveRow]) hlen0
        refine Done.change (n := .value (.tuple #[.bool true, .int .i64 pos, .int .i32 (Utf8.decode s pos).1])) (w' := { w with heap := w.heap.setIfInBounds (S.G r 0).blk (.stringIter s (pos + (Utf8.decode s pos).2)) }) hS hch ?_ (fun hxx => ?_) (fun _ => .inl ⟨_, rfl, ?_⟩)
        · simp [execOp, ho, hx', Instr.next, getObj_run (P := P) hB' (by simp), hlt', setObj_run (P := P) hB' (by simp), goInt]
        · show (w.heap.setIfInBounds _ _)[_]? = _
          rw [Array.getElem?_setIfInBounds_self_of_lt hlt]
        · simp only [V]; exact ⟨_, rfl, by simp [VL, V]⟩
      · cases hvu
        have hlt' : ¬ pos < s.size := by have := ble_lt hb; omega
        refine Done.keep hS hw hl (w' := w) (x := .tuple #[.bool false]) ?_ rfl ?_
        · simp [execOp, ho, hx', Instr.next, getObj_run (P := P) hB' (by simp), hlt']
        · simp only [V]; exact ⟨_, rfl, by simp [VL, V]⟩
    · rename_i mm
      obtain ⟨hst, h5⟩ := bsel_none' h4
      subst hst
      obtain ⟨es, h6, h7⟩ := obind_eq h5
      obtain ⟨_, h8, h9⟩ := obind_eq h7
      cases h9
      have hlive : S.live r 0 := ⟨_, h3, rfl⟩
      obtain ⟨rfl, hsh, _⟩ := hlv hlive
      obtain ⟨mo, since, cl, hB, hV⟩ := hS.row r _ h3
      have hB' : w.heap[(S.G r 0).blk]? = some (.mapIter mo since #[] cl) := by rw [← hw]; exact hB
      have hx' : σ x = .pointer (some ⟨(S.G r 0).blk, 0, none⟩) := by rw [hx, Nat.zero_sub]
      refine Done.keep hS hw hl (w' := w) (x := .tuple #[.bool false]) ?_ rfl (by simp only [V]; exact ⟨_, rfl, by simp [VL, V]⟩)
      rcases mapS_sound (w := w) hS hw hV h6 with ⟨hxm, _⟩ | ⟨B, ms, cl2, hxm, hB2, hk2, _⟩
      · cases hxm
        simp [execOp, ho, hx', Instr.next, getObj_run (P := P) hB' (by simp)]
      · cases hxm
        rw [noneIn_nil h8] at hk2
        have hms : ms = #[] := by
          have := hk2.length
          simp at this
          exact Array.eq_empty_of_size_eq_zero this.symm
        subst hms
        simp [execOp, ho, hx', Instr.next, getObj_run (P := P) hB' (by simp), getObj_run (P := P) hB2 (by simp), Question.forced]
    · cases h4
  · cases h
end
end Go.CE

namespace Go.CE
section
variable {P : Program} {E : Env} {S : St} {w : World} {at_ : Nat} {look' : Look} {u : Upd} {v : AV} {ρ : Operand → AV} {σ : Operand → Value} {o : Oper}

inductive F2 {α β : Type} (R : α → β → Prop) : List α → List β → Prop where
  | nil : F2 R [] []
  | cons {a b as bs} : R a b → F2 R as bs → F2 R (a :: as) (b :: bs)
theorem fold_list (off : Nat) : ∀ (vs : List Value) (k : Nat) (cs : Array Value), off + k + vs.length ≤ cs.size →
    ((vs.zipIdx k).foldl (fun cs (p : Value × Nat) => cs.setIfInBounds (off + p.2) p.1) cs).toList = cs.toList.take (off + k) ++ vs ++ cs.toList.drop (off + k + vs.length)
  | [], k, cs, h => by simp
  | v :: vs, k, cs, h => by
    simp only [List.zipIdx_cons, List.foldl_cons, List.length_cons] at h ⊢
    rw [fold_list off vs (k + 1) _ (by simp; omega)]
    have hlt : off + k < cs.toList.length := by simp; omega
    simp only [Array.toList_setIfInBounds]
    have e1 : (cs.toList.set (off + k) v).take (off + (k + 1)) = cs.toList.take (off + k) ++ [v] := by
      rw [← Nat.add_assoc, List.take_set, List.take_succ_eq_append_getElem hlt, List.set_append]
      rw [if_neg (by simp; omega), List.length_take, Nat.min_eq_left (Nat.le_of_lt hlt)]; simp
    have e2 : (cs.toList.set (off + k) v).drop (off + (k + 1) + vs.length) = cs.toList.drop (off + k + (vs.length + 1)) := by
      rw [List.drop_set_of_lt (by omega)]; congr 1; omega
    rw [e1, e2]; simp
theorem fold_arr (off : Nat) (vs : Array Value) (cs : Array Value) (h : off + vs.size ≤ cs.size) :
    (vs.zipIdx.foldl (fun cs (p : Value × Nat) => cs.setIfInBounds (off + p.2) p.1) cs).toList = cs.toList.take off ++ vs.toList ++ cs.toList.drop (off + vs.size) := by
  rw [← Array.foldl_toList, Array.toList_zipIdx, fold_list off vs.toList 0 cs (by simpa using h)]
  simp
theorem fill_sound {place : Nat → Option (Nat × Nat)} : ∀ (ps : List (Nat × List AV)) (qs : List (Nat × Value)) (at_ : Nat) (z r : List AV) (cells : Array Value) (pre zs : List Value),
    putParts ps at_ z = some r → cells.toList = pre ++ zs → pre.length = at_ → VL S z zs → (∀ x ∈ zs, x.oneCell' = true) →
    F2 (fun (p : Nat × List AV) (q : Nat × Value) => place q.1 = some (p.1, p.2.length) ∧ VL S p.2 q.2.cells.toList ∧ ∀ x ∈ q.2.cells.toList, x.oneCell' = true) ps qs →
    ∃ cells' rs, Instr.fill place cells qs = some cells' ∧ cells'.toList = pre ++ rs ∧ VL S r rs ∧ ∀ x ∈ rs, x.oneCell' = true
  | [], [], at_, z, r, cells, pre, zs, h, hc, hp, hv, h1, _ => by
    cases h
    exact ⟨cells, zs, rfl, hc, hv, h1⟩
  | p :: ps, (i, v) :: qs, at_, z, r, cells, pre, zs, h, hc, hp, hv, h1, hf => by
    cases hf
    rename_i ha hb
    obtain ⟨ha1, ha2, ha3⟩ := ha
    obtain ⟨h2, h3⟩ := bsel_none (show bsel (Nat.ble at_ p.1) (obind (takeX (Nat.sub p.1 at_) z) fun z1 => obind (takeX (llen p.2) (ldrop (Nat.sub p.1 at_) z)) fun _ =>
       obind (putParts ps (Nat.add p.1 (llen p.2)) (ldrop (Nat.add (Nat.sub p.1 at_) (llen p.2)) z)) fun r => some (lapp z1 (lapp p.2 r))) none = some r from h)
    obtain ⟨z1, h4, h5⟩ := obind_eq h3
    obtain ⟨z2, h6, h7⟩ := obind_eq h5
    obtain ⟨r1, h8, h9⟩ := obind_eq h7
    cases h9
    have hle : at_ ≤ p.1 := ble_le h2
    rw [ldrop_eq, llen_eq] at h6
    rw [ldrop_eq, llen_eq] at h8
    obtain ⟨h10, rfl⟩ := takeX_some h4
    obtain ⟨h11, _⟩ := takeX_some h6
    rw [lapp_eq, lapp_eq]
    have hsub : Nat.sub p.1 at_ = p.1 - at_ := rfl
    rw [hsub] at h10 h11 h8 ⊢
    rw [List.length_drop] at h11
    have hzl := hv.length
    have hvl := ha2.length
    have hcs : cells.size = pre.length + zs.length := by rw [← Array.length_toList, hc]; simp
    have hvs : v.cells.size = p.2.length := by simpa using hvl.symm
    have hfit : p.1 + v.cells.size ≤ cells.size := by omega
    have hfold := fold_arr p.1 v.cells cells hfit
    have e1 : cells.toList.take p.1 = pre ++ zs.take (p.1 - at_) := by rw [hc, List.take_append, hp]; rw [List.take_of_length_le (by omega)]
    have e2 : cells.toList.drop (p.1 + v.cells.size) = zs.drop (p.1 - at_ + p.2.length) := by
      rw [hc, List.drop_append, hp, List.drop_of_length_le (by omega), hvs]; simp only [List.nil_append]; congr 1; omega
    rw [e1, e2] at hfold
    obtain ⟨cells', rs, h12, h13, h14, h15⟩ := fill_sound (place := place) ps qs _ _ r1 _ (pre ++ zs.take (p.1 - at_) ++ v.cells.toList) (zs.drop (p.1 - at_ + p.2.length)) h8 hfold
      (by simp only [List.length_append, List.length_take, Array.length_toList, hvs]; show _ = p.1 + p.2.length; omega) (VL.drop _ hv) (fun x hx => h1 x (List.mem_of_mem_drop hx)) hb
    refine ⟨cells', zs.take (p.1 - at_) ++ (v.cells.toList ++ rs), ?_, by rw [h13]; simp, VL.append (VL.take _ hv) (VL.append ha2 h14), ?_⟩
    · simp only [Instr.fill, ha1]
      rw [if_neg (by simp only [Bool.or_eq_true, decide_eq_true_eq, ne_eq, not_or]; omega)]
      exact h12
    · intro x hx
      rcases List.mem_append.1 hx with hx | hx
      · exact h1 x (List.mem_of_mem_take hx)
      · rcases List.mem_append.1 hx with hx | hx
        · exact ha3 x hx
        · exact h15 x hx
theorem fill_seq {place : Nat → Option (Nat × Nat)} : ∀ (ps : List (Nat × List AV)) (qs : List (Nat × Value)) (z r : List AV) (cells : Array Value),
    putSeq ps z = some r → VL S z cells.toList → (∀ x ∈ cells.toList, x.oneCell' = true) →
    F2 (fun (p : Nat × List AV) (q : Nat × Value) => place q.1 = some (p.1, p.2.length) ∧ VL S p.2 q.2.cells.toList ∧ ∀ x ∈ q.2.cells.toList, x.oneCell' = true) ps qs →
    ∃ cells', Instr.fill place cells qs = some cells' ∧ VL S r cells'.toList ∧ ∀ x ∈ cells'.toList, x.oneCell' = true
  | [], [], z, r, cells, h, hv, h1, _ => by
    cases h
    exact ⟨cells, rfl, hv, h1⟩
  | p :: ps, (i, v) :: qs, z, r, cells, h, hv, h1, hf => by
    cases hf
    rename_i ha hb
    obtain ⟨ha1, ha2, ha3⟩ := ha
    obtain ⟨z1, h4, h5⟩ := obind_eq (show obind (takeX p.1 z) (fun z1 => obind (takeX (llen p.2) (ldrop p.1 z)) fun _ => putSeq ps (lapp z1 (lapp p.2 (ldrop (Nat.add p.1 (llen p.2)) z)))) = some r from h)
    obtain ⟨z2, h6, h7⟩ := obind_eq h5
    rw [ldrop_eq, llen_eq] at h6
    rw [ldrop_eq, llen_eq, lapp_eq, lapp_eq] at h7
    obtain ⟨h10, rfl⟩ := takeX_some h4
    obtain ⟨h11, _⟩ := takeX_some h6
    rw [List.length_drop] at h11
    have hzl := hv.length
    have hvl := ha2.length
    have hvs : v.cells.size = p.2.length := by simpa using hvl.symm
    have hcz : cells.toList.length = cells.size := Array.length_toList
    have hfit : p.1 + v.cells.size ≤ cells.size := by omega
    have hfold := fold_arr p.1 v.cells cells hfit
    rw [hvs] at hfold
    obtain ⟨cells', h12, h13, h14⟩ := fill_seq (place := place) ps qs _ r (v.cells.zipIdx.foldl (fun cs (p' : Value × Nat) => cs.setIfInBounds (p.1 + p'.2) p'.1) cells) h7
      (by rw [hfold, List.append_assoc]; exact VL.append (VL.take _ hv) (VL.append ha2 (VL.drop _ hv)))
      (fun x hx => by
        rw [hfold] at hx
        rcases List.mem_append.1 hx with hx | hx
        · rcases List.mem_append.1 hx with hx | hx
          · exact h1 x (List.mem_of_mem_take hx)
          · exact ha3 x hx
        · exact h1 x (List.mem_of_mem_drop hx)) hb
    refine ⟨cells', ?_, h13, h14⟩
    simp only [Instr.fill, ha1]
    rw [if_neg (by simp only [Bool.or_eq_true, decide_eq_true_eq, ne_eq, not_or]; omega)]
    exact h12
theorem putParts_length : ∀ {ps : List (Nat × List AV)} {at_ : Nat} {z r : List AV}, putParts ps at_ z = some r → r.length = z.length
  | [], _, _, _, h => by cases h; rfl
  | p :: ps, at_, z, r, h => by
    obtain ⟨h2, h3⟩ := bsel_none (show bsel (Nat.ble at_ p.1) (obind (takeX (Nat.sub p.1 at_) z) fun z1 => obind (takeX (llen p.2) (ldrop (Nat.sub p.1 at_) z)) fun _ =>
       obind (putParts ps (Nat.add p.1 (llen p.2)) (ldrop (Nat.add (Nat.sub p.1 at_) (llen p.2)) z)) fun r => some (lapp z1 (lapp p.2 r))) none = some r from h)
    obtain ⟨z1, h4, h5⟩ := obind_eq h3
    obtain ⟨z2, h6, h7⟩ := obind_eq h5
    obtain ⟨r1, h8, h9⟩ := obind_eq h7
    cases h9
    rw [ldrop_eq, llen_eq] at h6
    rw [ldrop_eq, llen_eq] at h8
    obtain ⟨h10, rfl⟩ := takeX_some h4
    obtain ⟨h11, _⟩ := takeX_some h6
    have := putParts_length h8
    rw [lapp_eq, lapp_eq]
    simp only [List.length_append, List.length_take, List.length_drop] at this h11 ⊢
    have e : ((p.1.sub at_).add p.2.length) = p.1.sub at_ + p.2.length := rfl
    rw [e] at this
    omega
theorem mapO_forall {α β γ : Type} {f : α → Option β} {g : α → γ} {R : β → γ → Prop} (hR : ∀ a b, f a = some b → R b (g a)) : ∀ {l : List α} {r : List β}, mapO f l = some r → F2 R r (l.map g)
  | [], r, h => by rw [mapO_nil h]; exact .nil
  | a :: l, r, h => by
    obtain ⟨b, r', h1, h2, h3⟩ := mapO_cons h
    subst h3
    exact .cons (hR a b h1) (mapO_forall hR h2)
theorem fieldsOk_mem : ∀ {fs : List FI}, fieldsOk fs = true → ∀ f ∈ fs, f.ok = true
  | [], _, f, hf => by simp at hf
  | x :: fs, h, f, hf => by
    have h' : bsel x.ok (fieldsOk fs) false = true := h
    cases hx : x.ok with
    | false => rw [hx] at h'; cases h'
    | true =>
      rw [hx] at h'
      rcases List.mem_cons.1 hf with rfl | hf
      · exact hx
      · exact fieldsOk_mem h' f hf
theorem mapM_places (w : World) : ∀ (l : List Field), (∀ f ∈ l, (P.info? f.type).isSome = true) →
    (l.mapM (fun f : Field => Prod.mk f.offset <$> sizeOf f.type)).run P w = .ok (l.map fun f => (f.offset, P.cellsOf f.type)) w
  | [], _ => by simp
  | f :: l, h => by
    obtain ⟨i, hi⟩ := Option.isSome_iff_exists.1 (h f (by simp))
    have := mapM_places w l (fun f hf => h f (by simp [hf]))
    simp [List.mapM_cons, sizeOf_run hi, this, Program.cellsOf, hi]
theorem snd_build {t : TypeId} {ps : Array (Nat × Operand)} (ho : o.op = .build t ps) (hE : EnvTypes P E) (hS : Rel S) (hw : S.hp = w.heap) (hρ : ∀ x, V S (ρ x) (σ x)) (hl : UpdOK S.look look' at_ u)
    (h : smBuild t ps E ρ S.look at_ = some (v, u)) : Done P S w at_ look' u v (execOp σ o) := by
  obtain ⟨ti, h1, h2⟩ := obind_eq h
  obtain ⟨fs, h3, h4⟩ := obind_eq h2
  obtain ⟨h5, h6⟩ := bsel_none' h4
  obtain ⟨l, h7, h8⟩ := obind_eq h6
  obtain ⟨cs, h9, h10⟩ := obind_eq h8
  cases h10
  have := hE t ti h1; subst this
  obtain ⟨i, Fs, hi, hd, hfs, hz, _⟩ := mkTI_struct h3
  rw [hz] at h9
  have hok : fieldsOk fs = true ∧ anyBad (zcellsOf i) = false := by
    cases hb : fieldsOk fs with
    | false => rw [hb] at h5; cases h5
    | true => rw [hb, bsel_true, hz] at h5; exact ⟨rfl, h5⟩
  obtain ⟨hok, hbd⟩ := hok
  subst hfs
  have hall : ∀ f ∈ Fs.toList, (P.info? f.type).isSome = true := fun f hf => by
    have := fieldsOk_mem hok _ (List.mem_map_of_mem hf)
    simp only [Bool.and_eq_true] at this; exact this.1
  obtain ⟨z, hz1, hz2, hz3⟩ := zcells_ok S hbd
  have hF := mapO_forall (R := fun (p : Nat × List AV) (q : Nat × Value) => (Option.map (fun f => (f.offset, P.cellsOf f.type)) Fs[q.1]? = some (p.1, p.2.length)) ∧ VL S p.2 q.2.cells.toList ∧ ∀ x ∈ q.2.cells.toList, x.oneCell' = true)
    (g := fun p : Nat × Operand => (p.1, σ p.2)) (fun p q hpq => by
      obtain ⟨f, h1, h2⟩ := obind_eq hpq
      obtain ⟨l, h3, h4⟩ := obind_eq h2
      obtain ⟨h5, h6⟩ := bsel_none h4
      cases h6
      rw [nth_eq, List.getElem?_map] at h1
      obtain ⟨F, hF1, rfl⟩ := Option.map_eq_some_iff.1 h1
      have := V.cells (hρ p.2) h3
      refine ⟨?_, this.1, this.2⟩
      have he := beq_eq h5; rw [llen_eq] at he
      rw [show Fs[p.1]? = some F by simpa using hF1, he]; rfl) h7
  have hcase : ∃ cells, Instr.fill (fun i => Option.map (fun f => (f.offset, P.cellsOf f.type)) Fs[i]?) z.cells (ps.toList.map fun p : Nat × Operand => (p.1, σ p.2)) = some cells ∧ VL S cs cells.toList ∧ ∀ x ∈ cells.toList, x.oneCell' = true := by
    cases hp : putParts l 0 (zcellsOf i) with
    | some r =>
      have e : some r = some cs := by unfold putAny at h9; rw [hp] at h9; exact h9
      cases e
      obtain ⟨cells, rs, h13, h14, h15, h16⟩ := fill_sound (place := fun i => Option.map (fun f => (f.offset, P.cellsOf f.type)) Fs[i]?) _ _ 0 _ _ z.cells [] _ hp rfl rfl hz2 hz3 hF
      have : cells.toList = rs := by simpa using h14
      exact ⟨cells, h13, by rw [this]; exact h15, by rw [this]; exact h16⟩
    | none =>
      have e : putSeq l (zcellsOf i) = some cs := by unfold putAny at h9; rw [hp] at h9; exact h9
      exact fill_seq _ _ _ _ _ e hz2 hz3 hF
  obtain ⟨cells, h13, h15, h16⟩ := hcase
  refine Done.keep hS hw hl (w' := w) (x := .agg cells) ?_ rfl ?_
  · have hm := mapM_places (P := P) w Fs.toList hall
    have hm' : (Fs.mapM (fun f : Field => Prod.mk f.offset <$> sizeOf f.type)).run P w = .ok (Fs.map fun f => (f.offset, P.cellsOf f.type)) w := by
      rw [← Array.toArray_toList (xs := Fs), List.mapM_toArray] 
      simp [hm]; apply Array.ext'; simp
    simp [execOp, ho, Instr.build, underlying_run hd, zero_run hi hz1, hm', h13]
  · simp only [V]
    exact ⟨cells, rfl, h15, h16⟩
theorem ble_two {x y : Bool} (h : bsel x y false = true) : x = true ∧ y = true := by cases x <;> simp_all [bsel]
theorem snd_buildSlice {t : TypeId} {n : Nat} {ps : Array (Nat × Operand)} (ho : o.op = .buildSlice t n ps) (hE : EnvTypes P E) (hS : Rel S) (hw : S.hp = w.heap) (hρ : ∀ x, V S (ρ x) (σ x)) (hat : ¬ S.kn at_) (hl : UpdOK S.look look' at_ u)
    (h : smBuildSlice t n ps E ρ S.look at_ = some (v, u)) : Done P S w at_ look' u v (execOp σ o) := by
  obtain ⟨ti, h1, h2⟩ := obind_eq h
  obtain ⟨k, h3, h4⟩ := obind_eq h2
  obtain ⟨l, h5, h6⟩ := obind_eq h4
  obtain ⟨cs, h7, h8⟩ := obind_eq h6
  obtain ⟨h9, h10⟩ := bsel_none' h8
  obtain ⟨h11, h12⟩ := bsel_none h10
  cases h12
  have := hE t ti h1; subst this
  obtain ⟨e, ie, hd, hie, rfl⟩ := mkTI_slice h3
  simp only at h5 h7 h9 h11 hl ⊢
  have hsz0 : n * ie.size ≤ 16777216 := ble_le (ble_two h11).1
  have hsz9 : n ≤ 16777216 := ble_le (ble_two h11).2
  have hF := mapO_forall (R := fun (p : Nat × List AV) (q : Nat × Value) => (some (q.1 * ie.size, ie.size) = some (p.1, p.2.length)) ∧ VL S p.2 q.2.cells.toList ∧ ∀ x ∈ q.2.cells.toList, x.oneCell' = true)
    (g := fun p : Nat × Operand => (p.1, σ p.2)) (fun p q hpq => by
      obtain ⟨l, h3, h4⟩ := obind_eq hpq
      obtain ⟨h5, h6⟩ := bsel_none h4
      cases h6
      have := V.cells (hρ p.2) h3
      refine ⟨?_, this.1, this.2⟩
      have he := beq_eq h5; rw [llen_eq] at he
      simp only [he]; rfl) h5
  have hbad : anyBad (zcellsOf ie) = false ∧ (zcellsOf ie).length = ie.size := by
    cases hb : anyBad (zcellsOf ie) with
    | true => simp only [hb, bsel_true] at h9; cases h9
    | false =>
      simp only [hb, bsel_false, Bool.not_eq_false'] at h9
      refine ⟨rfl, ?_⟩
      have := beq_eq h9; rwa [llen_eq] at this
  obtain ⟨hbd, hzl⟩ := hbad
  obtain ⟨z, hz1, hz2, hz3⟩ := zcells_ok S hbd
  have hzs : z.cells.size = ie.size := by have := hz2.length; rw [hzl] at this; simpa using this.symm
  obtain ⟨cB, hcB⟩ : ∃ cB : Array Value, cB = (Array.range (n * ie.size)).map (fun i => ((if n * ie.size = 0 then #[] else z.cells) : Array Value)[i % ((if n * ie.size = 0 then #[] else z.cells) : Array Value).size]!) := ⟨_, rfl⟩
  have hsz : cB.size = n * ie.size := by rw [hcB]; simp
  have hget : ∀ i, i < n * ie.size → ∃ y, cB[i]? = some y ∧ z.cells.toList[i % ie.size]? = some y := by
    intro i hi
    have hne : n * ie.size ≠ 0 := by omega
    have hs0 : 0 < ie.size := by rcases Nat.eq_zero_or_pos ie.size with h0 | h0; (rw [h0] at hne; simp at hne); exact h0
    have hm : i % ie.size < z.cells.size := by rw [hzs]; exact Nat.mod_lt _ hs0
    refine ⟨z.cells[i % ie.size], ?_, by simp [hm]⟩
    rw [hcB, Array.getElem?_map, Array.getElem?_range, if_pos hi]
    simp only [hne, if_false, Option.map_some, hzs]
    rw [getElem!_pos z.cells (i % ie.size) hm]
  have hrg := repZ_get (zcellsOf ie) n
  have hvz : VL S (repZ (zcellsOf ie) n) cB.toList := by
    refine VL.mk (by rw [hrg.1, hzl]; simp [hsz]) fun i a y ha hy => ?_
    have hi : i < n * ie.size := by
      have := (List.getElem?_eq_some_iff.1 ha).1
      rw [hrg.1, hzl] at this; exact this
    obtain ⟨y1, hy1, hy2⟩ := hget i hi
    rw [hrg.2 i (by rw [hzl]; exact hi), hzl] at ha
    obtain ⟨y', hy1', hy2'⟩ := hz2.get _ _ ha
    rw [hy2] at hy1'; cases hy1'
    rw [Array.getElem?_toList, hy1] at hy; cases hy
    exact hy2'
  have hone : ∀ x ∈ cB.toList, x.oneCell' = true := by
    intro x hx
    obtain ⟨i, hi, hxi⟩ := List.getElem_of_mem hx
    have hi' : i < n * ie.size := by rw [← hsz]; simpa using hi
    obtain ⟨y, hy1, hy2⟩ := hget i hi'
    have : x = y := by
      have : cB.toList[i]? = some x := by rw [List.getElem?_eq_getElem hi, hxi]
      rw [Array.getElem?_toList, hy1] at this; cases this; rfl
    rw [this]; exact hz3 y (List.mem_of_getElem? hy2)
  obtain ⟨cells, rs, h13, h14, h15, h16⟩ := fill_sound (place := fun i => some (i * ie.size, ie.size)) _ _ 0 _ _ cB [] _ h7 rfl rfl hvz hone hF
  have hcl : cells.toList = rs := by simpa using h14
  have hcl2 : cs.length = n * ie.size := by rw [putParts_length h7, hrg.1, hzl]
  refine Done.newCells (cB := cells) (ty := e) (fz := (0, 0)) (x := .slice (some ⟨w.heap.size, 0, none⟩) n n) hS hw hat hl
    (w' := { w with heap := w.heap.push (.cells cells e) }) ?_ rfl (.inl (Nat.le_refl _)) ?_ ?_ ?_
  · have hlt : ¬ n * ie.size > 2 ^ 24 := by omega
    simp only [execOp, ho, Instr.buildSlice, Sem.run_bind, underlying_run hd, sizeOf_run hie, Result.andThen_ok, hlt, if_false]
    by_cases h0 : n * ie.size = 0
    · rw [if_pos h0] at hcB
      simp [h0] at hcB
      subst hcB
      simp [h0, h13, newRow]
    · rw [if_neg h0] at hcB
      simp [h0, zero_run hie hz1, ← hcB, h13, newRow]
  · rw [h15.length, ← hcl]; simp
  · intro j a ha
    obtain ⟨x, hx1, hx2⟩ := h15.get j a ha
    rw [← hcl] at hx1
    exact ⟨x, by simpa using hx1, h16 x (hcl ▸ List.mem_of_getElem? hx1), hx2⟩
  · intro _
    simp only [V]
    refine ⟨⟨.inr rfl, fun row hrow => ?_⟩, _, n, rfl, ⟨Nat.le_refl _, by omega⟩, fun _ => ?_⟩
    · have := hl.2 row hrow; subst this; exact Nat.le_refl _
    · have hG : (S.add look' at_ ⟨w.heap.size, 0, cs.length⟩ (.cells cells e (0, 0))).G at_ 0 = ⟨w.heap.size, 0, cs.length⟩ := by
        show (if at_ = at_ then _ else _) = _; rw [if_pos rfl]
      rw [hG]
      refine ⟨Nat.le_refl _, by rw [hcl2]; simp, .inr ⟨rfl, ?_⟩⟩
      show 0 - 0 + n * ie.size ≤ hlen (S.hp.push _) w.heap.size
      have : (S.hp.push (Obj.cells cells e (0, 0)))[w.heap.size]? = some (.cells cells e (0, 0)) := by rw [hw]; simp
      rw [sizeOfBlock this]
      have := h15.length; rw [hcl2, ← hcl] at this; simp at this; omega
end
end Go.CE

namespace Go.CE
section
variable {P : Program} {E : Env} {S : St} {w : World} {at_ : Nat} {look' : Look} {u : Upd} {v : AV} {ρ : Operand → AV} {σ : Operand → Value} {o : Oper}

theorem elems_run (hS : Rel S) {e n : Nat} {a : AV} {l : List AV} {x : Value} (hv : V S a x) (h : elemsS S.look e a = some (l, n)) :
    l.length = n * e ∧ (∀ w, (Builtin.lenOf x).run P w = .ok n w) ∧ ∀ m, m ≤ n → ∃ cs, (∀ w, S.hp = w.heap → (Builtin.firstCells e m x).run P w = .ok cs w) ∧ VL S (l.take (m * e)) cs.toList ∧ ∀ u ∈ cs.toList, u.oneCell' = true := by
  rcases elems_sound hS hv h with ⟨s, rfl, rfl, rfl, rfl⟩ | ⟨base, cap, vs, rfl, hn, hl, hvl, h1, hb, hc⟩
  · refine ⟨by rw [bytesAV_get]; simp, ?_, fun m hm => ?_⟩
    · simp [Builtin.lenOf]
    · refine ⟨_, fun _ _ => rfl, ?_, ?_⟩
      · rw [bytesAV_get]
        have : (((s.extract 0 m).data.map fun b => Value.int .u8 b.toNat) : Array Value).toList = (s.data.toList.take m).map fun b => Value.int .u8 b.toNat := by
          simp [ByteArray.data_extract]
        rw [this, Nat.mul_one, ← List.map_take]
        generalize s.data.toList.take m = q
        induction q with
        | nil => simp [VL]
        | cons b q ih => simp only [List.map_cons, VL, V]; exact ⟨rfl, ih⟩
      · intro u hu
        simp at hu
        obtain ⟨b, _, rfl⟩ := List.mem_map.1 (List.mem_of_mem_take hu)
        rfl
  · refine ⟨hl, by simp [Builtin.lenOf], fun m hm => ?_⟩
    cases base with
    | none =>
      have := hb rfl; subst this
      have : m = 0 := by omega
      subst this
      exact ⟨#[], by simp [Builtin.firstCells], by simp [VL], by simp⟩
    | some ad =>
      have hvlen : vs.length = n * e := by rw [← hvl.length, hl]
      have hme : m * e ≤ n * e := Nat.mul_le_mul_right _ hm
      refine ⟨(vs.take (m * e)).toArray, ?_, by simpa using VL.take _ hvl, fun u hu => h1 u (List.mem_of_mem_take (by simpa using hu))⟩
      have hlen : (vs.take (m * e)).length = m * e := by rw [List.length_take]; omega
      rcases hc ad rfl with h0 | ⟨hsp, hcells⟩
      · subst h0
        have : m * e = 0 := by simp at hlen; omega
        simp [Builtin.firstCells, this, loadCells, loadCellsFrom]
      · obtain ⟨B, k, sp⟩ := ad
        simp only at hsp; subst hsp
        intro w hw
        have := load_run (P := P) (w := w) (B := B) (k := k) (vs := vs.take (m * e)) (fun i y hi => by
          rw [List.getElem?_take] at hi
          split at hi
          · rw [← hw]; exact (hcells i y hi).1
          · cases hi)
        rw [hlen] at this
        simpa [Builtin.firstCells] using this

theorem bl_len {ats : Array TypeId} {ty : TypeId} {args : Array Value} {ts : List TypeId} {x y : AV} {vx : Value} (hats : ats.toList = ts) (ha : args[0]? = some vx) (hx : V S x vx)
    (hE : EnvTypes P E) (hS : Rel S) (hw : S.hp = w.heap) (hl : UpdOK S.look look' at_ u) (h : biLen E S.look at_ ts x y = some (v, u)) :
    Done P S w at_ look' u v (do pure (.value (← Builtin.len_ ats ty args))) := by
  unfold biLen at h
  split at h
  · rename_i t ts'
    obtain ⟨ti, h1, h2⟩ := obind_eq h
    have := hE t ti h1; subst this
    have ht : ats[0]? = some t := by rw [← Array.getElem?_toList, hats]; rfl
    split at h2
    · rename_i hk
      have hd := kind_str hk
      split at h2
      · rename_i n b
        cases h2
        simp only [V] at hx
        obtain ⟨s, rfl, rfl, rfl⟩ := hx
        refine Done.keep hS hw hl (w' := w) (x := .int .i64 (Int.ofNat s.data.toList.length)) ?_ rfl (by simp only [V])
        simp [Builtin.len_, ht, ha, underlying_run hd, goInt]
      · cases h2
    · rename_i es eb ez u8 hk
      obtain ⟨e, ie, hd, _⟩ := kind_slice hk
      split at h2
      · rename_i n _
        cases h2
        simp only [V] at hx
        obtain ⟨_, ad, cap, rfl, _⟩ := hx
        refine Done.keep hS hw hl (w' := w) (x := .int .i64 (Int.ofNat n)) ?_ rfl (by simp only [V])
        simp [Builtin.len_, ht, ha, underlying_run hd, goInt]
      · rename_i n _
        cases h2
        simp only [V] at hx
        obtain ⟨ad, cap, vs, rfl, _⟩ := hx
        refine Done.keep hS hw hl (w' := w) (x := .int .i64 (Int.ofNat n)) ?_ rfl (by simp only [V])
        simp [Builtin.len_, ht, ha, underlying_run hd, goInt]
      · cases h2
        simp only [V] at hx
        subst hx
        refine Done.keep hS hw hl (w' := w) (x := .int .i64 0) ?_ rfl (by simp only [V])
        simp [Builtin.len_, ht, ha, underlying_run hd, goInt]
      · cases h2
    · rename_i tg z hk
      obtain ⟨k, e, ie, hd, _⟩ := kind_map hk
      obtain ⟨es, h3, h4⟩ := obind_eq h2
      cases h4
      rcases mapS_sound hS hw hx h3 with ⟨rfl, rfl⟩ | ⟨B, ms, cl, rfl, h5, h6, h7⟩
      · refine Done.keep hS hw hl (w' := w) (x := .int .i64 0) ?_ rfl (by simp only [V]; rfl)
        simp [Builtin.len_, ht, ha, underlying_run hd, goInt]
      · refine Done.keep hS hw hl (w' := w) (x := .int .i64 (Int.ofNat (llen es.1))) ?_ rfl (by simp only [V])
        have := h6.length
        simp at this
        simp [Builtin.len_, ht, ha, underlying_run hd, goInt, getObj_run (P := P) h5, llen_eq, this]
    · cases h2
  · cases h

theorem bl_copy {ats : Array TypeId} {ty : TypeId} {args : Array Value} {ts : List TypeId} {x y : AV} {vx vy : Value} (hats : ats.toList = ts) (ha : args[0]? = some vx) (hx : V S x vx) (hb : args[1]? = some vy) (hy : V S y vy)
    (hE : EnvTypes P E) (hS : Rel S) (hw : S.hp = w.heap) (hl : UpdOK S.look look' at_ u) (h : biCopy E S.look at_ ts x y = some (v, u)) :
    Done P S w at_ look' u v (do pure (.value (← Builtin.copy_ ats ty args))) := by
  unfold biCopy at h
  split at h
  · rename_i t ts'
    obtain ⟨ti, h1, h2⟩ := obind_eq h
    obtain ⟨k, h3, h4⟩ := obind_eq h2
    have := hE t ti h1; subst this
    have ht : ats[0]? = some t := by rw [← Array.getElem?_toList, hats]; rfl
    obtain ⟨e, ie, hd, hie, rfl⟩ := mkTI_slice h3
    split at h4
    · rename_i r g o n e'
      obtain ⟨h5, h6⟩ := bsel_none h4
      have := beq_eq h5; subst this
      obtain ⟨p, h7, h8⟩ := obind_eq h6
      obtain ⟨l, n'⟩ := p
      obtain ⟨hll, hlen, hfc⟩ := elems_run (P := P) hS hy h7
      simp only at h8
      simp only [V] at hx
      obtain ⟨hkn, ad, cap, rfl, hnc, hlv⟩ := hx
      have hmin : Nat.min n' n = Nat.min n n' := Nat.min_comm _ _
      simp only at hll hlen hfc
      obtain ⟨cs, hcs1, hcs2, hcs3⟩ := hfc (Nat.min n n') (Nat.min_le_right _ _)
      have hrun : (Builtin.copy_ ats ty args).run P w = ((do storeCells ad cs.toList; pure (goInt (Nat.min n n'))) : Sem Value).run P w := by
        simp only [Builtin.copy_, ht, ha, hb, Sem.run_bind, underlying_run hd, Result.andThen_ok, hlen, sizeOf_run hie, hmin, hcs1 w hw]
      cases hz : Nat.beq (Nat.min n n') 0 with
      | true =>
        rw [hz, bsel_true] at h8
        cases h8
        have h0 := beq_eq hz
        have hcs0 : cs.toList = [] := by
          have := hcs2.length
          rw [h0, Nat.zero_mul, List.take_zero] at this
          exact List.length_eq_zero_iff.1 this.symm
        refine Done.keep hS hw hl (w' := w) (x := .int .i64 0) ?_ rfl (by simp only [V])
        simp only [Sem.run_bind, hrun, hcs0, storeCells, h0]
        simp [goInt]
      | false =>
        rw [hz, bsel_false] at h8
        have h0 := beq_ne hz
        obtain ⟨h9, rfl⟩ := upd1_some h8
        have hmn : Nat.min n n' ≤ n := Nat.min_le_left _ _
        have hle : Nat.min n n' * ie.size ≤ n * ie.size := Nat.mul_le_mul_right _ hmn
        rw [ltake_eq] at h9
        have hle2 : Nat.min n n' * ie.size ≤ n' * ie.size := Nat.mul_le_mul_right _ (Nat.min_le_right _ _)
        have htl : (l.take (Nat.mul (Nat.min n n') ie.size)).length = Nat.min n n' * ie.size := by
          show (l.take (Nat.min n n' * ie.size)).length = _
          rw [List.length_take, hll]; exact Nat.min_eq_left hle2
        obtain ⟨hlive, w', hr, hso, row, row', rfl, hch⟩ := write_sound (P := P) (look' := look') (at_ := at_) hS hw (k := o) hcs2 hcs3 hkn (fun hlv' => ⟨(hlv hlv').1, by have h1 := (hlv hlv').2.1; have h2 : (l.take (Nat.min n n' * ie.size)).length = Nat.min n n' * ie.size := htl; rw [h2]; exact Nat.le_trans (Nat.add_le_add_left hle o) h1⟩) h9
        obtain ⟨hch1, hch2⟩ := hch hl
        have had : ad = ⟨(S.G r g).blk, o - (S.G r g).sh, none⟩ := by
          rcases (hlv hlive).2.2 with h0' | h0'
          · omega
          · exact h0'.1
        refine Done.change (n := .value (.int .i64 (Int.ofNat (Nat.min n n')))) hS hch1 ?_ hch2 (fun _ => .inl ⟨_, rfl, by simp only [V]⟩) hso
        simp only [Sem.run_bind, hrun, had, hr, Result.andThen_ok]
        simp [goInt]
    · cases h4
  · cases h
theorem mdel_cons {k a b : AV} {ks vs : List AV} {p : List AV × List AV} (h : mdel k (a :: ks) (b :: vs) = some p) :
    ∃ t, aeq0 k a = some t ∧ ((t = true ∧ p = (ks, vs)) ∨ (t = false ∧ ∃ q, mdel k ks vs = some q ∧ p = (a :: q.1, b :: q.2))) := by
  obtain ⟨t, h1, h2⟩ := obind_eq (show obind (aeq0 k a) (fun t => bsel t (some (ks, vs)) (obind (mdel k ks vs) fun p => some (a :: p.1, b :: p.2))) = some p from h)
  cases t with
  | true => cases h2; exact ⟨true, h1, .inl ⟨rfl, rfl⟩⟩
  | false =>
    obtain ⟨q, h3, h4⟩ := obind_eq (show obind (mdel k ks vs) (fun p => some (a :: p.1, b :: p.2)) = some p from h2)
    cases h4
    exact ⟨false, h1, .inr ⟨rfl, q, h3, rfl⟩⟩
theorem mdel_sound {k : AV} {x : Value} {d : TypeDesc} (hx : V S k x) (hd : tagD d = some (tagOf k)) : ∀ {ks vs : List AV} {es : List MapEntry} {p : List AV × List AV} (i : Nat),
    VL S ks (es.map (·.key)) → VL S vs (es.map (·.val)) → mdel k ks vs = some p →
    (p = (ks, vs) ∧ Instr.findNow d x es i = some none) ∨ ∃ j z, Instr.findNow d x es i = some (some (i + j, z)) ∧ p = (ks.eraseIdx j, vs.eraseIdx j)
  | [], [], [], p, i, _, _, h => by cases h; exact .inl ⟨rfl, rfl⟩
  | a :: ks, b :: vs, e :: es, p, i, hk, hv, h => by
    simp only [List.map_cons, VL] at hk hv
    obtain ⟨t, h1, h2⟩ := mdel_cons h
    obtain ⟨h3, h4⟩ := same_key hx hk.1 h1 hd
    rcases h2 with ⟨rfl, rfl⟩ | ⟨rfl, q, h2, rfl⟩
    · exact .inr ⟨0, e.val, by simp [Instr.findNow, h3], rfl⟩
    · rcases mdel_sound hx hd (i + 1) hk.2 hv.2 h2 with ⟨rfl, h5⟩ | ⟨j, z, h5, rfl⟩
      · exact .inl ⟨rfl, by simp only [Instr.findNow, h3]; exact h5⟩
      · refine .inr ⟨j + 1, z, ?_, rfl⟩
        · simp only [Instr.findNow, h3]
          rw [show i + (j + 1) = i + 1 + j by omega]; exact h5
  | [], _, _ :: _, _, _, hk, _, _ => by simp [VL] at hk
  | _ :: _, _, [], _, _, hk, _, _ => by simp [VL] at hk
  | _, [], _ :: _, _, _, _, hv, _ => by simp [VL] at hv
  | _, _ :: _, [], _, _, _, hv, _ => by simp [VL] at hv
theorem VL.eraseIdx : ∀ {as : List AV} {vs : List Value} (j : Nat), VL S as vs → VL S (as.eraseIdx j) (vs.eraseIdx j)
  | [], [], _, h => h
  | _ :: _, _ :: _, 0, h => by simp only [VL] at h; exact h.2
  | _ :: _, _ :: _, j + 1, h => by simp only [VL] at h; simp only [List.eraseIdx_cons_succ, VL]; exact ⟨h.1, VL.eraseIdx j h.2⟩
  | [], _ :: _, _, h => by simp [VL] at h
  | _ :: _, [], _, h => by simp [VL] at h
theorem map_eraseIdx' {α β : Type} (f : α → β) : ∀ (l : List α) (j : Nat), (l.eraseIdx j).map f = (l.map f).eraseIdx j
  | [], _ => rfl
  | _ :: _, 0 => rfl
  | a :: l, j + 1 => by simp [map_eraseIdx' f l j]
theorem bl_delete {ats : Array TypeId} {ty : TypeId} {args : Array Value} {ts : List TypeId} {x y : AV} {vx vy : Value} (hats : ats.toList = ts) (ha : args[0]? = some vx) (hx : V S x vx) (hb : args[1]? = some vy) (hy : V S y vy)
    (hE : EnvTypes P E) (hS : Rel S) (hw : S.hp = w.heap) (hl : UpdOK S.look look' at_ u) (h : biDelete E S.look at_ ts x y = some (v, u)) :
    Done P S w at_ look' u v (do pure (.value (← Builtin.delete_ ats ty args))) := by
  unfold biDelete at h
  split at h
  · rename_i t ts'
    obtain ⟨ti, h1, h2⟩ := obind_eq h
    obtain ⟨z, h3, h4⟩ := obind_eq h2
    have := hE t ti h1; subst this
    have ht : ats[0]? = some t := by rw [← Array.getElem?_toList, hats]; rfl
    obtain ⟨kt, e, ie, d, hd, hie, hkd, htag, hz⟩ := mkTI_map h3
    split at h4
    · rename_i r
      obtain ⟨h5, h6⟩ := bsel_none h4
      obtain ⟨es, h7, h8⟩ := obind_eq h6
      obtain ⟨p, h9, h10⟩ := obind_eq h8
      cases h10
      obtain ⟨row, h11, h12⟩ := obind_eq h7
      have := mapRow_some h12; subst this
      simp only [V] at hx
      obtain ⟨hkn, B, rfl, hlv⟩ := hx
      have hlive : S.live r 0 := ⟨_, h11, rfl⟩
      have hB := hlv hlive
      subst hB
      obtain ⟨ms, cl, hB, hks, hvs⟩ := hS.row r _ h11
      have hB' : w.heap[(S.G r 0).blk]? = some (.map ms cl) := by rw [← hw]; exact hB
      have hlt : (S.G r 0).blk < w.heap.size := (Array.getElem?_eq_some_iff.1 hB').1
      have hlen0 : hlen S.hp (S.G r 0).blk = 0 := by unfold hlen; rw [hB]
      have htag' : tagD d = some (tagOf y) := by rw [htag, beq_eq h5]
      have hnt : tagD d ≠ none := by rw [htag]; simp
      have hrun : ∀ res, Instr.findNow d vy ms.toList 0 = some res → (Builtin.delete_ ats ty args).run P w =
          ((do setObj (S.G r 0).blk (.map (match res with | some (i, _) => ms.eraseIdxIfInBounds i | none => ms) cl); pure (.tuple #[])) : Sem Value).run P w := by
        intro res hres
        simp only [Builtin.delete_, ht, ha, hb, Sem.run_bind, underlying_run hd, Result.andThen_ok, getObj_run (P := P) hB' (by simp)]
        rw [show (10000 : Nat) = 9999 + 1 from rfl, checkKey_run hkd hnt]
        simp only [Result.andThen_ok, Instr.findKey, Sem.run_bind, underlying_run hkd, hres, Sem.run_pure]
        cases res <;> simp only [Sem.run_bind, Sem.run_pure]
      have hfin : ∀ (ms' : Array MapEntry) (p : List AV × List AV), UpdOK S.look look' at_ (.set r (.map p.1 p.2)) → (Builtin.delete_ ats ty args).run P w = ((do setObj (S.G r 0).blk (.map ms' cl); pure (.tuple #[])) : Sem Value).run P w →
          VL S p.1 (ms'.toList.map (·.key)) → VL S p.2 (ms'.toList.map (·.val)) → Done P S w at_ look' (.set r (.map p.1 p.2)) (.tuple []) (do pure (.value (← Builtin.delete_ ats ty args))) := by
        intro ms' p hl hr hp1 hp2
        have hch := objChange (at_ := at_) (ob' := .map ms' cl) hS hw h11 hl (fun g => by simp [liveRow]) (fun g => by simp [liveRow]) hlen0
        refine Done.change (n := .value (.tuple #[])) (w' := { w with heap := w.heap.setIfInBounds (S.G r 0).blk (.map ms' cl) }) hS hch ?_ (fun hx => ?_) (fun _ => .inl ⟨_, rfl, by simp only [V]; exact ⟨_, rfl, by simp [VL]⟩⟩)
        · simp only [Sem.run_bind, hr, setObj_run (P := P) hB' (by simp), Result.andThen_ok, Sem.run_pure]
        · exact ⟨_, _, by show (w.heap.setIfInBounds _ _)[_]? = _; rw [Array.getElem?_setIfInBounds_self_of_lt hlt], VL.ext hx hp1, VL.ext hx hp2⟩
      rcases mdel_sound hy htag' 0 hks hvs h9 with ⟨rfl, h13⟩ | ⟨j, q, h13, rfl⟩
      · exact hfin ms _ hl (hrun none h13) hks hvs
      · rw [Nat.zero_add] at h13
        refine hfin (ms.eraseIdxIfInBounds j) _ hl (hrun _ h13) ?_ ?_
        · have : (ms.eraseIdxIfInBounds j).toList = ms.toList.eraseIdx j := by simp
          rw [this, map_eraseIdx']; exact VL.eraseIdx j hks
        · have : (ms.eraseIdxIfInBounds j).toList = ms.toList.eraseIdx j := by simp
          rw [this, map_eraseIdx']; exact VL.eraseIdx j hvs
    · cases h4
  · cases h
theorem VL.repZ {z : List AV} {zs : Array Value} (hz : VL S z zs.toList) (n : Nat) : VL S (repZ z n) (Builtin.zeroCells zs n).toList := by
  have hl : zs.size = z.length := by rw [hz.length]; simp
  have hrg := repZ_get z n
  refine VL.mk (by rw [hrg.1]; simp [Builtin.zeroCells, hl]) fun i a y ha hy => ?_
  have hi : i < n * z.length := by rw [← hrg.1]; exact (List.getElem?_eq_some_iff.1 ha).1
  rw [hrg.2 i hi] at ha
  obtain ⟨y1, hy1, hy2⟩ := hz.get _ a ha
  have hpos : 0 < z.length := by rcases Nat.eq_zero_or_pos z.length with h0 | h0; (rw [h0] at hi; simp at hi); exact h0
  have hm : i % z.length < zs.size := by rw [hl]; exact Nat.mod_lt _ hpos
  have : (Builtin.zeroCells zs n).toList[i]? = some y1 := by
    unfold Builtin.zeroCells
    rw [Array.getElem?_toList, Array.getElem?_map, Array.getElem?_range, if_pos (by rw [hl]; exact hi)]
    simp only [Option.map_some, hl, getElem!_pos zs (i % z.length) hm]
    rw [Array.getElem?_toList, Array.getElem?_eq_getElem hm] at hy1
    exact hy1
  rw [this] at hy; cases hy; exact hy2
theorem zeroCells_one {zs : Array Value} (h1 : ∀ x ∈ zs.toList, x.oneCell' = true) (n : Nat) : ∀ x ∈ (Builtin.zeroCells zs n).toList, x.oneCell' = true := by
  intro x hx
  unfold Builtin.zeroCells at hx
  rw [Array.toList_map] at hx
  obtain ⟨i, hi, rfl⟩ := List.mem_map.1 hx
  have hi' : i < n * zs.size := by simpa using hi
  have hpos : 0 < zs.size := by rcases Nat.eq_zero_or_pos zs.size with h0 | h0; (rw [h0] at hi'; simp at hi'); exact h0
  have hm := Nat.mod_lt i hpos
  rw [getElem!_pos zs (i % zs.size) hm]
  exact h1 _ (by simp)
theorem bl_clear {ats : Array TypeId} {ty : TypeId} {args : Array Value} {ts : List TypeId} {x y : AV} {vx : Value} (hats : ats.toList = ts) (ha : args[0]? = some vx) (hx : V S x vx)
    (hE : EnvTypes P E) (hS : Rel S) (hw : S.hp = w.heap) (hl : UpdOK S.look look' at_ u) (h : biClear E S.look at_ ts x y = some (v, u)) :
    Done P S w at_ look' u v (do pure (.value (← Builtin.clear_ ats ty args))) := by
  unfold biClear at h
  split at h
  · rename_i t ts'
    obtain ⟨ti, h1, h2⟩ := obind_eq h
    obtain ⟨k, h3, h4⟩ := obind_eq h2
    have := hE t ti h1; subst this
    have ht : ats[0]? = some t := by rw [← Array.getElem?_toList, hats]; rfl
    obtain ⟨e, ie, hd, hie, rfl⟩ := mkTI_slice h3
    split at h4
    · rename_i r g o n e'
      obtain ⟨h5, h6⟩ := bsel_none h4
      have := beq_eq h5; subst this
      simp only [V] at hx
      obtain ⟨hkn, ad, cap, rfl, hnc, hlv⟩ := hx
      cases hz : Nat.beq n 0 with
      | true =>
        have h0 := beq_eq hz; subst h0
        rw [hz, bsel_true] at h6
        cases h6
        refine Done.keep hS hw hl (w' := w) (x := .tuple #[]) ?_ rfl (by simp only [V]; exact ⟨_, rfl, by simp [VL]⟩)
        simp [Builtin.clear_, ht, ha, underlying_run hd]
      | false =>
        rw [hz, bsel_false] at h6
        have h0 := beq_ne hz
        obtain ⟨h7, h8⟩ := bsel_none' h6
        obtain ⟨h9, rfl⟩ := upd1_some h8
        have hbad : anyBad (zcellsOf ie) = false ∧ (zcellsOf ie).length = ie.size := by
          cases hb : anyBad (zcellsOf ie) with
          | true => simp only [hb, bsel_true] at h7; cases h7
          | false =>
            simp only [hb, bsel_false, Bool.not_eq_false'] at h7
            refine ⟨rfl, ?_⟩
            have := beq_eq h7; rwa [llen_eq] at this
        obtain ⟨hbd, hzl⟩ := hbad
        obtain ⟨z, hz1, hz2, hz3⟩ := zcells_ok S hbd
        have hvz := VL.repZ hz2 n
        obtain ⟨row0, hl0, hl1⟩ := obind_eq h9
        have hbnd : S.live r g → (S.G r g).sh ≤ o ∧ o + (repZ (zcellsOf ie) n).length ≤ (S.G r g).lim := fun hlv' => by
          have h1 := (hlv hlv').2.1
          refine ⟨(hlv hlv').1, ?_⟩
          rw [(repZ_get _ n).1, hzl]; exact h1
        obtain ⟨hlive, w', hr, hso, row, row', rfl, hch⟩ := write_sound (P := P) (look' := look') (at_ := at_) hS hw (k := o) hvz (zeroCells_one hz3 n) hkn hbnd h9
        obtain ⟨hch1, hch2⟩ := hch hl
        have had : ad = ⟨(S.G r g).blk, o - (S.G r g).sh, none⟩ := by
          rcases (hlv hlive).2.2 with h0' | h0'
          · omega
          · exact h0'.1
        refine Done.change (n := .value (.tuple #[])) hS hch1 ?_ hch2 (fun _ => .inl ⟨_, rfl, by simp only [V]; exact ⟨_, rfl, by simp [VL]⟩⟩) hso
        obtain ⟨m, rfl⟩ : ∃ m, n = m + 1 := ⟨n - 1, by omega⟩
        rw [had] at ha
        simp only [Builtin.clear_, ht, ha, Sem.run_bind, underlying_run hd, Result.andThen_ok, zero_run hie hz1, hr, Sem.run_pure]
    · cases h4
  · cases h
end
end Go.CE

namespace Go.CE
section
variable {P : Program} {E : Env} {S : St} {w : World} {at_ : Nat} {look' : Look} {u : Upd} {v : AV} {ρ : Operand → AV} {σ : Operand → Value} {o : Oper}

theorem append_in {ats : Array TypeId} {ty t ut e : TypeId} {ie : TypeInfo} {d : TypeDesc} {args : Array Value} {base : Option Addr} {n m cap : Nat} {vy : Value} {cs : Array Value}
    (ht : ats[0]? = some t) (hu : ats[1]? = some ut) (ha : args[0]? = some (.slice base n cap)) (hb : args[1]? = some vy) (hd : P.underlying t = some (.slice e)) (hud : P.underlying ut = some d) (hdi : ∀ k, d ≠ .int k)
    (hie : P.info? e = some ie) (hlen : (Builtin.lenOf vy).run P w = .ok m w) (hcs : (Builtin.firstCells ie.size m vy).run P w = .ok cs w) (hle : n + m ≤ cap) :
    (Builtin.append_ ats ty args).run P w = ((do if let some a := base then storeCells (a.add (n * ie.size)) cs.toList
                                                 pure (.slice base (n + m) cap)) : Sem Value).run P w := by
  have hz : (match d with | .int _ => true | _ => false) = false := by cases d <;> first | rfl | exact absurd rfl (hdi _)
  simp only [Builtin.append_, ht, hu, ha, hb, Sem.run_bind, underlying_run hd, underlying_run hud, Result.andThen_ok, sizeOf_run hie, Sem.run_pure, hz, Bool.false_eq_true, if_false, hlen, hle, if_true, Bool.not_false, hcs]
  cases base <;> rfl
theorem append_grow {ats : Array TypeId} {ty t ut e : TypeId} {ie : TypeInfo} {d : TypeDesc} {z : Value} {args : Array Value} {base : Option Addr} {n m cap : Nat} {vy : Value} {os cs : Array Value}
    (ht : ats[0]? = some t) (hu : ats[1]? = some ut) (ha : args[0]? = some (.slice base n cap)) (hb : args[1]? = some vy) (hd : P.underlying t = some (.slice e)) (hud : P.underlying ut = some d) (hdi : ∀ k, d ≠ .int k)
    (hie : P.info? e = some ie) (hz1 : ie.zero = some z) (hlen : (Builtin.lenOf vy).run P w = .ok m w) (hcs : ∀ w', w'.heap = w.heap → (Builtin.firstCells ie.size m vy).run P w' = .ok cs w') (hos : ∀ w', w'.heap = w.heap → (Builtin.firstCells ie.size n (.slice base n cap)).run P w' = .ok os w')
    (hle : ¬ n + m ≤ cap) (h1 : n + m ≤ 1099511627776) (h2 : (n + m) * ie.bytes ≤ 1099511627776) :
    ∃ nc w', (n + m ≤ nc ∧ nc ≤ 9223372036854775807) ∧ (Builtin.append_ ats ty args).run P w = .ok (.slice (some ⟨w.heap.size, 0, none⟩) (n + m) nc) w' ∧ w'.heap = w.heap.push (.cells (os ++ cs ++ Builtin.zeroCells z.cells (nc - (n + m))) e) ∧ SameOut w w' := by
  have hz : (match d with | .int _ => true | _ => false) = false := by cases d <;> first | rfl | exact absurd rfl (hdi _)
  have hb1 : ¬ Builtin.nextslicecap (n + m) cap * ie.bytes > 2 ^ 48 := by
    have := growslice_fits (need := n + m) (old := cap) (bytes := ie.bytes) (by omega) (by omega)
    omega
  have hb2 : ¬ ((n + m : Nat) : Int) > IntKind.i64.max := by
    show ¬ ((n + m : Nat) : Int) > 9223372036854775807; omega
  obtain ⟨nc, hnc⟩ : ∃ nc, nc = Question.cut (.appendCap (n + m) cap e) (w.tape w.drawn (.appendCap (n + m) cap e)) := ⟨_, rfl⟩
  have hq : Question.forced (.appendCap (n + m) cap e) = false := rfl
  refine ⟨nc, { w with heap := w.heap.push (.cells (os ++ cs ++ Builtin.zeroCells z.cells (nc - (n + m))) e), drawn := w.drawn + 1 }, ⟨by rw [hnc]; exact appendCap_cut _ _ _ _, by rw [hnc]; exact appendCap_max _ _ _ _ (by omega)⟩, ?_, rfl, ⟨rfl, rfl⟩⟩
  have hcs' := hcs { w with drawn := w.drawn + 1 } rfl
  have hos' := hos { w with drawn := w.drawn + 1 } rfl
  simp only [Builtin.append_, ht, hu, ha, hb, Sem.run_bind, underlying_run hd, underlying_run hud, Result.andThen_ok, sizeOf_run hie, Sem.run_pure, hz, Bool.false_eq_true, if_false, hlen, hle, Bool.not_false, if_true, typeInfo_run hie, hb1, hb2, false_and, if_false, run_choose, hq]
  rw [← hnc]
  simp only [run_askRoom, Result.andThen_ok, hos', hcs', zero_run hie hz1, newRow]
  simp
  exact ⟨rfl, rfl, rfl⟩
/-- The row behind an append in place. -/
theorem app_place (hS : Rel S) (hw : S.hp = w.heap) {r g k : Nat} {l : List AV} {vs : List Value} {c : T AV} {len gmin : Nat} (hvl : VL S l vs) (h1 : ∀ x ∈ vs, x.oneCell' = true) (hl0 : S.look r = some (.cells c len gmin g))
    (hsh : (S.G r g).sh ≤ k) (hk : k ≤ (S.G r g).lim) (hfit : k - (S.G r g).sh + l.length ≤ hlen S.hp (S.G r g).blk)
    (hU : UpdOK S.look look' at_ (.set r (.cells (T.write c k l) (k + l.length) (bsel (Nat.beq k len) gmin (Nat.succ g)) (Nat.succ g)))) :
    ∃ w', (storeCells ⟨(S.G r g).blk, k - (S.G r g).sh, none⟩ vs).run P w = .ok () w' ∧ SameOut w w' ∧ ∃ G', (∀ r' g', (r' ≠ r ∨ g' ≠ g + 1) → G' r' g' = S.G r' g') ∧ G' r (g + 1) = ⟨(S.G r g).blk, (S.G r g).sh, k + l.length⟩ ∧
      hlen w'.heap (S.G r g).blk = hlen S.hp (S.G r g).blk ∧
      Change S look' G' w'.heap r (.cells c len gmin g) (.cells (T.write c k l) (k + l.length) (bsel (Nat.beq k len) gmin (Nat.succ g)) (Nat.succ g)) ∧
      (Ext S ⟨look', S.kn, G', w'.heap⟩ → RowOK ⟨look', S.kn, G', w'.heap⟩ r (.cells (T.write c k l) (k + l.length) (bsel (Nat.beq k len) gmin (Nat.succ g)) (Nat.succ g))) := by
  obtain ⟨hmm, hlim, hrow⟩ := hS.row r _ hl0
  obtain ⟨_, _, cB, ty, fz, hB, hfz, hcells⟩ := hrow g hmm (Nat.le_refl _)
  have hvlen := hvl.length
  rw [sizeOfBlock hB] at hfit
  rw [hw] at hB
  obtain ⟨w', ha, hsz, hso, hoth, cur', hcB, hcs, hout, hin⟩ := store_run (P := P) (o := k - (S.G r g).sh) vs 0 cB w hB hfz (by omega) h1
  have hin' : ∀ (j : Nat) (v : Value), vs[j]? = some v → cur'[k - (S.G r g).sh + j]? = some v := fun j v hj => by have := hin j v hj; rwa [Nat.add_zero] at this
  have hout' : ∀ j, (j < k - (S.G r g).sh ∨ k - (S.G r g).sh + vs.length ≤ j) → cur'[j]? = cB[j]? := fun j hj => hout j (by omega)
  have hlen' : hlen w'.heap (S.G r g).blk = hlen S.hp (S.G r g).blk := by rw [sizeOfBlock hcB, hw, sizeOfBlock hB, hcs]
  obtain ⟨G', hG'⟩ : ∃ G' : Nat → Nat → PL, G' = fun r' g' => if r' = r ∧ g' = g + 1 then ⟨(S.G r g).blk, (S.G r g).sh, k + l.length⟩ else S.G r' g' := ⟨_, rfl⟩
  have hG1 : ∀ r' g', (r' ≠ r ∨ g' ≠ g + 1) → G' r' g' = S.G r' g' := fun r' g' h => by
    rw [hG']; show (if _ then _ else _) = _; rw [if_neg (by omega)]
  have hG2 : G' r (g + 1) = ⟨(S.G r g).blk, (S.G r g).sh, k + l.length⟩ := by rw [hG']; show (if _ then _ else _) = _; rw [if_pos ⟨rfl, rfl⟩]
  have hlv0 : liveRow (.cells c len gmin g) g := ⟨hmm, Nat.le_refl _⟩
  have hmin : gmin ≤ bsel (Nat.beq k len) gmin (Nat.succ g) ∧ bsel (Nat.beq k len) gmin (Nat.succ g) ≤ g + 1 ∧ (k = len ∨ bsel (Nat.beq k len) gmin (Nat.succ g) = g + 1) := by
    cases hb : Nat.beq k len with
    | true => rw [bsel_true]; exact ⟨Nat.le_refl _, by omega, .inl (beq_eq hb)⟩
    | false => rw [bsel_false]; exact ⟨by omega, Nat.le_refl _, .inr rfl⟩
  obtain ⟨hm1, hm2, hm3⟩ := hmin
  generalize bsel (Nat.beq k len) gmin (Nat.succ g) = gm at hU hm1 hm2 hm3 ⊢
  refine ⟨w', ha, hso, G', hG1, hG2, hlen', ?_, fun hx => ?_⟩
  · obtain ⟨hU1, hU2⟩ := hU
    refine ⟨hl0, hU1, hU2, fun r' hr' g' => hG1 r' g' (.inl hr'), hm1, by show g ≤ g + 1; omega, fun g' hg' _ => hG1 r g' (.inr (by have := hg'.2; omega)), fun g' hg' => .inl ?_, by rw [hw, hsz]; exact Nat.le_refl _, fun B hB' hne => ?_, fun g' hg' => ?_⟩
    · by_cases hgg : g' = g + 1
      · subst hgg; exact ⟨g, hlv0, by rw [hG2], by rw [hG2]⟩
      · have h2 : g' ≤ g + 1 := hg'.2
        have h3 : gm ≤ g' := hg'.1
        exact ⟨g', ⟨by omega, by omega⟩, by rw [hG1 r g' (.inr hgg)], by rw [hG1 r g' (.inr hgg)]⟩
    · rw [hw]; exact hoth B (fun e => hne g hlv0 e.symm)
    · by_cases he : (S.G r g').blk = (S.G r g).blk
      · rw [he, hlen']; exact Nat.le_refl _
      · unfold hlen; rw [hoth _ he, hw]; exact Nat.le_refl _
  · refine ⟨hm2, ?_, fun g' hg1 hg2 => ?_⟩
    · show (G' r (g + 1)).lim = _; rw [hG2]
    · by_cases hgg : g' = g + 1
      · subst hgg
        show (G' r (g + 1)).lim ≤ _ ∧ (G' r (g + 1)).sh ≤ (G' r (g + 1)).lim ∧ _
        rw [hG2]
        refine ⟨Nat.le_refl _, by show (S.G r g).sh ≤ k + l.length; omega, cur', ty, fz, ?_, ?_, fun j hj1 hj2 => ?_⟩
        · show w'.heap[(G' r (g + 1)).blk]? = _; rw [hG2]; exact hcB
        · rcases hfz with h0 | h0
          · exact .inl h0
          · exact .inr (by rw [hcs]; exact h0)
        · have hj1' : (S.G r g).sh ≤ j := by have : (G' r (g + 1)).sh ≤ j := hj1; rwa [hG2] at this
          have hj2' : j < k + l.length := by have : j < (G' r (g + 1)).lim := hj2; rwa [hG2] at this
          have hshe : (St.G ⟨look', S.kn, G', w'.heap⟩ r (g + 1)).sh = (S.G r g).sh := by show (G' r (g + 1)).sh = _; rw [hG2]
          by_cases hjk : k ≤ j
          · have hjl : j - k < vs.length := by omega
            have hv : vs[j - k]? = some vs[j - k] := by simp [hjl]
            have hc' := hin' (j - k) _ hv
            refine ⟨vs[j - k], ?_, h1 _ (List.getElem_mem hjl), fun a haj => ?_⟩
            · rw [hshe, show j - (S.G r g).sh = k - (S.G r g).sh + (j - k) by omega]; exact hc'
            · rcases T.get_write l c k j a haj with ⟨_, _, h3⟩ | ⟨h3, _⟩
              · obtain ⟨x, hx1, hx2⟩ := hvl.get (j - k) a h3
                rw [hv] at hx1; cases hx1
                exact V.ext hx hx2
              · omega
          · obtain ⟨x, hx1, hx2, hx3⟩ := hcells j hj1' (by omega)
            refine ⟨x, by rw [hshe, hout' _ (by omega)]; exact hx1, hx2, fun a haj => ?_⟩
            rcases T.get_write l c k j a haj with ⟨h3, h4, _⟩ | ⟨_, h3⟩
            · omega
            · exact V.ext hx (hx3 a h3)
      · have hg1' : gm ≤ g' := hg1
        have hg2' : g' ≤ g + 1 := hg2
        have hkl : k = len := by omega
        obtain ⟨h4, h5, cB2, ty2, fz2, hB2, hfz2, hcells2⟩ := hrow g' (by omega) (by omega)
        have hGe : (St.G ⟨look', S.kn, G', w'.heap⟩ r g') = S.G r g' := hG1 r g' (.inr hgg)
        rw [hGe]
        refine ⟨by omega, h5, ?_⟩
        by_cases he : (S.G r g').blk = (S.G r g).blk
        · have hsh2 : (S.G r g').sh = (S.G r g).sh := (hS.inj r g' r g ⟨_, hl0, by omega, by omega⟩ ⟨_, hl0, hmm, Nat.le_refl _⟩ he).2
          refine ⟨cur', ty, fz, by rw [he]; exact hcB, ?_, fun j hj1 hj2 => ?_⟩
          · rcases hfz with h0 | h0
            · exact .inl h0
            · exact .inr (by rw [hcs]; exact h0)
          · obtain ⟨x, hx1, hx2, hx3⟩ := hcells2 j hj1 hj2
            have hBB : cB2 = cB := by rw [he, hw, hB] at hB2; cases hB2; rfl
            subst hBB
            refine ⟨x, by rw [hout' _ (by omega)]; exact hx1, hx2, fun a haj => ?_⟩
            rcases T.get_write l c k j a haj with ⟨h3, h4, _⟩ | ⟨_, h3⟩
            · omega
            · exact V.ext hx (hx3 a h3)
        · refine ⟨cB2, ty2, fz2, by show w'.heap[_]? = _; rw [hoth _ he, ← hw]; exact hB2, hfz2, fun j hj1 hj2 => ?_⟩
          obtain ⟨x, hx1, hx2, hx3⟩ := hcells2 j hj1 hj2
          refine ⟨x, hx1, hx2, fun a haj => ?_⟩
          rcases T.get_write l c k j a haj with ⟨h3, h4, _⟩ | ⟨_, h3⟩
          · omega
          · exact V.ext hx (hx3 a h3)
/-- The row behind an append that moves. -/
theorem app_move (hS : Rel S) (hw : S.hp = w.heap) {r g k0 k : Nat} {l : List AV} {c : T AV} {len gmin : Nat} {cN : Array Value} {ty : TypeId} (hl0 : S.look r = some (.cells c len gmin g))
    (hk0 : k0 ≤ k) (hk : k ≤ (S.G r g).lim)
    (hN : ∀ j, k0 ≤ j → j < k + l.length → ∃ v, cN[j - k0]? = some v ∧ v.oneCell' = true ∧ ∀ a, (T.write c k l).get j = some a → V S a v)
    (hU : UpdOK S.look look' at_ (.set r (.cells (T.write c k l) (k + l.length) (bsel (Nat.beq k len) gmin (Nat.succ g)) (Nat.succ g)))) :
    ∃ G', (∀ r' g', (r' ≠ r ∨ g' ≠ g + 1) → G' r' g' = S.G r' g') ∧ G' r (g + 1) = ⟨w.heap.size, k0, k + l.length⟩ ∧
      Change S look' G' (w.heap.push (.cells cN ty)) r (.cells c len gmin g) (.cells (T.write c k l) (k + l.length) (bsel (Nat.beq k len) gmin (Nat.succ g)) (Nat.succ g)) ∧
      (Ext S ⟨look', S.kn, G', w.heap.push (.cells cN ty)⟩ → RowOK ⟨look', S.kn, G', w.heap.push (.cells cN ty)⟩ r (.cells (T.write c k l) (k + l.length) (bsel (Nat.beq k len) gmin (Nat.succ g)) (Nat.succ g))) := by
  obtain ⟨hmm, hlim, hrow⟩ := hS.row r _ hl0
  obtain ⟨G', hG'⟩ : ∃ G' : Nat → Nat → PL, G' = fun r' g' => if r' = r ∧ g' = g + 1 then ⟨w.heap.size, k0, k + l.length⟩ else S.G r' g' := ⟨_, rfl⟩
  have hG1 : ∀ r' g', (r' ≠ r ∨ g' ≠ g + 1) → G' r' g' = S.G r' g' := fun r' g' h => by
    rw [hG']; show (if _ then _ else _) = _; rw [if_neg (by omega)]
  have hG2 : G' r (g + 1) = ⟨w.heap.size, k0, k + l.length⟩ := by rw [hG']; show (if _ then _ else _) = _; rw [if_pos ⟨rfl, rfl⟩]
  have hold : ∀ B, B < w.heap.size → (w.heap.push (Obj.cells cN ty))[B]? = w.heap[B]? := fun B hB => by
    rw [Array.getElem?_push]; simp [Nat.ne_of_lt hB]
  have hmin : gmin ≤ bsel (Nat.beq k len) gmin (Nat.succ g) ∧ bsel (Nat.beq k len) gmin (Nat.succ g) ≤ g + 1 ∧ (k = len ∨ bsel (Nat.beq k len) gmin (Nat.succ g) = g + 1) := by
    cases hb : Nat.beq k len with
    | true => rw [bsel_true]; exact ⟨Nat.le_refl _, by omega, .inl (beq_eq hb)⟩
    | false => rw [bsel_false]; exact ⟨by omega, Nat.le_refl _, .inr rfl⟩
  obtain ⟨hm1, hm2, hm3⟩ := hmin
  generalize bsel (Nat.beq k len) gmin (Nat.succ g) = gm at hU hm1 hm2 hm3 ⊢
  refine ⟨G', hG1, hG2, ?_, fun hx => ?_⟩
  · obtain ⟨hU1, hU2⟩ := hU
    refine ⟨hl0, hU1, hU2, fun r' hr' g' => hG1 r' g' (.inl hr'), hm1, by show g ≤ g + 1; omega, fun g' hg' _ => hG1 r g' (.inr (by have := hg'.2; omega)), fun g' hg' => ?_, by rw [hw]; simp, fun B hB' hne => ?_, fun g' hg' => ?_⟩
    · by_cases hgg : g' = g + 1
      · subst hgg; refine .inr ⟨rfl, ?_, ?_⟩ <;> rw [hG2]
        · rw [hw]; exact Nat.le_refl _
        · simp
      · have h2 : g' ≤ g + 1 := hg'.2
        have h3 : gm ≤ g' := hg'.1
        exact .inl ⟨g', ⟨by omega, by omega⟩, by rw [hG1 r g' (.inr hgg)], by rw [hG1 r g' (.inr hgg)]⟩
    · rw [hw] at hB' ⊢; exact hold B hB'
    · have := hS.blk r g' ⟨_, hl0, hg'⟩
      unfold hlen; rw [hold _ (by rw [← hw]; exact this), hw]; exact Nat.le_refl _
  · refine ⟨hm2, ?_, fun g' hg1 hg2 => ?_⟩
    · show (G' r (g + 1)).lim = _; rw [hG2]
    · by_cases hgg : g' = g + 1
      · subst hgg
        show (G' r (g + 1)).lim ≤ _ ∧ (G' r (g + 1)).sh ≤ (G' r (g + 1)).lim ∧ _
        rw [hG2]
        refine ⟨Nat.le_refl _, by show k0 ≤ k + l.length; omega, cN, ty, (0, 0), ?_, .inl (Nat.le_refl _), fun j hj1 hj2 => ?_⟩
        · show (w.heap.push _)[(G' r (g + 1)).blk]? = _; rw [hG2]; simp
        · have hshe : (St.G ⟨look', S.kn, G', w.heap.push (.cells cN ty)⟩ r (g + 1)).sh = k0 := by show (G' r (g + 1)).sh = _; rw [hG2]
          have hj1' : k0 ≤ j := by rw [← hshe]; exact hj1
          have hj2' : j < k + l.length := by have : j < (G' r (g + 1)).lim := hj2; rwa [hG2] at this
          obtain ⟨x, hx1, hx2, hx3⟩ := hN j hj1' hj2'
          exact ⟨x, by rw [hshe]; exact hx1, hx2, fun a haj => V.ext hx (hx3 a haj)⟩
      · have hg1' : gm ≤ g' := hg1
        have hg2' : g' ≤ g + 1 := hg2
        have hkl : k = len := by omega
        obtain ⟨h4, h5, cB2, ty2, fz2, hB2, hfz2, hcells2⟩ := hrow g' (by omega) (by omega)
        have hGe : (St.G ⟨look', S.kn, G', w.heap.push (.cells cN ty)⟩ r g') = S.G r g' := hG1 r g' (.inr hgg)
        rw [hGe]
        have hblk := hS.blk r g' ⟨_, hl0, by omega, by omega⟩
        refine ⟨by omega, h5, cB2, ty2, fz2, by show (w.heap.push _)[_]? = _; rw [hold _ (by rw [← hw]; exact hblk), ← hw]; exact hB2, hfz2, fun j hj1 hj2 => ?_⟩
        obtain ⟨x, hx1, hx2, hx3⟩ := hcells2 j hj1 hj2
        refine ⟨x, hx1, hx2, fun a haj => ?_⟩
        rcases T.get_write l c k j a haj with ⟨h3, h4, _⟩ | ⟨_, h3⟩
        · omega
        · exact V.ext hx (hx3 a h3)
theorem bl_append {ats : Array TypeId} {ty : TypeId} {args : Array Value} {ts : List TypeId} {x y : AV} {vx vy : Value} (hats : ats.toList = ts) (ha : args[0]? = some vx) (hx : V S x vx) (hb : args[1]? = some vy) (hy : V S y vy) (hat : ¬ S.kn at_)
    (hE : EnvTypes P E) (hS : Rel S) (hw : S.hp = w.heap) (hl : UpdOK S.look look' at_ u) (h : biAppend E S.look at_ ts x y = some (v, u)) :
    Done P S w at_ look' u v (do pure (.value (← Builtin.append_ ats ty args))) := by
  unfold biAppend at h
  split at h
  · rename_i t ut ts'
    obtain ⟨ti, h1, h2⟩ := obind_eq h
    obtain ⟨ui, h3, h4⟩ := obind_eq h2
    obtain ⟨k, h5, h6⟩ := obind_eq h4
    obtain ⟨h7, h8⟩ := bsel_none h6
    obtain ⟨p, h9, h10⟩ := obind_eq h8
    obtain ⟨h11, h12⟩ := bsel_none' h10
    obtain ⟨n, h13, h14⟩ := obind_eq h12
    obtain ⟨h15, h16⟩ := bsel_none h14
    obtain ⟨h17, h18⟩ := bsel_none h16
    have := hE t ti h1; subst this
    have := hE ut ui h3; subst this
    have ht : ats[0]? = some t := by rw [← Array.getElem?_toList, hats]; rfl
    have hut : ats[1]? = some ut := by rw [← Array.getElem?_toList, hats]; rfl
    obtain ⟨e, ie, hd, hie, rfl⟩ := mkTI_slice h5
    have hud : ∃ d, P.underlying ut = some d ∧ ∀ k, d ≠ .int k := by
      unfold lenable at h7
      split at h7
      · rename_i hk; exact ⟨_, kind_str hk, fun k h => by cases h⟩
      · rename_i hk; obtain ⟨e', ie', hd', _⟩ := kind_slice hk; exact ⟨_, hd', fun k h => by cases h⟩
      · cases h7
    obtain ⟨d, hud, hdi⟩ := hud
    obtain ⟨l, m⟩ := p
    simp only at h9 h11 h15 h17 h18
    obtain ⟨hll, hlenr, hfc⟩ := elems_run (P := P) hS hy h9
    obtain ⟨cs, hcs1, hcs2, hcs3⟩ := hfc m (Nat.le_refl _)
    rw [List.take_of_length_le (by rw [hll]; exact Nat.le_refl _)] at hcs2
    have hbad : anyBad (zcellsOf ie) = false ∧ (zcellsOf ie).length = ie.size := by
      cases hb : anyBad (zcellsOf ie) with
      | true => simp only [hb, bsel_true] at h11; cases h11
      | false =>
        simp only [hb, bsel_false, Bool.not_eq_false'] at h11
        refine ⟨rfl, ?_⟩
        have := beq_eq h11; rwa [llen_eq] at this
    obtain ⟨hbd, hzl⟩ := hbad
    obtain ⟨z, hz1, hz2, hz3⟩ := zcells_ok S hbd
    have hzs : z.cells.size = ie.size := by have := hz2.length; rw [hzl] at this; simpa using this.symm
    have hneed1 : n + m ≤ 1099511627776 := ble_le h17
    have hneed2 : (n + m) * ie.bytes ≤ 1099511627776 := ble_le h15
    have hcl : cs.size = m * ie.size := by have := hcs2.length; rw [hll] at this; simpa using this.symm
    have hcsn : m = 0 → cs.toList = [] := fun h0 => by
      subst h0; rw [Nat.zero_mul] at hcl; exact List.length_eq_zero_iff.1 (by simpa using hcl)
    unfold appendS at h18
    split at h18
    · -- nil
      simp only [V] at hx; subst hx
      cases h13
      cases hm : Nat.beq m 0 with
      | true =>
        rw [hm, bsel_true] at h18; cases h18
        have h0 := beq_eq hm; subst h0
        have hr := append_in (ty := ty) ht hut ha hb hd hud hdi hie (hlenr w) (hcs1 w hw) (Nat.le_refl 0)
        refine Done.keep hS hw hl (w' := w) (x := .slice none 0 0) ?_ rfl (by simp only [V])
        simp only [Sem.run_bind, hr]
        simp
      | false =>
        rw [hm, bsel_false] at h18
        have h0 := beq_ne hm
        cases h18
        obtain ⟨nc, w', ⟨hnc, hncm⟩, hr, hh, hso⟩ := append_grow (ty := ty) (os := #[]) (w := w) ht hut ha hb hd hud hdi hie hz1 (hlenr w) (fun w' h => hcs1 w' (by rw [h]; exact hw)) (fun w' _ => by simp [Builtin.firstCells]) (by omega) hneed1 hneed2
        rw [Nat.zero_add] at hnc hr hh
        obtain ⟨cB, hcB⟩ : ∃ cB, cB = #[] ++ cs ++ Builtin.zeroCells z.cells (nc - m) := ⟨_, rfl⟩
        rw [← hcB] at hh
        have hsz : cB.size = nc * ie.size := by
          rw [hcB]; simp only [Array.size_append, hcl, Builtin.zeroCells, Array.size_map, Array.size_range, hzs]
          rw [Nat.sub_mul]
          have := Nat.mul_le_mul_right ie.size hnc
          simp; omega
        refine Done.newCells (cB := cB) (ty := e) (fz := (0, 0)) (x := .slice (some ⟨w.heap.size, 0, none⟩) m nc) (w' := w') hS hw hat hl ?_ hh (.inl (Nat.le_refl _)) ?_ ?_ ?_ hso
        · simp only [Sem.run_bind, hr, Result.andThen_ok, Sem.run_pure]
        · rw [hll, hsz]; exact Nat.mul_le_mul_right _ hnc
        · intro i a ha
          obtain ⟨y, hy1, hy2⟩ := hcs2.get i a ha
          have hi : i < cs.size := by have := (List.getElem?_eq_some_iff.1 hy1).1; simpa using this
          refine ⟨y, ?_, hcs3 y (List.mem_of_getElem? hy1), hy2⟩
          rw [hcB]; simp only [Array.empty_append]
          rw [Array.getElem?_append_left hi]; simpa using hy1
        · intro _
          simp only [V]
          refine ⟨⟨.inr rfl, fun row hrow => ?_⟩, _, nc, rfl, ⟨hnc, hncm⟩, fun _ => ?_⟩
          · have := hl.2 row hrow; subst this; exact Nat.le_refl _
          · have hG : (S.add look' at_ ⟨w.heap.size, 0, l.length⟩ (.cells cB e (0, 0))).G at_ 0 = ⟨w.heap.size, 0, l.length⟩ := by
              show (if at_ = at_ then _ else _) = _; rw [if_pos rfl]
            rw [hG]
            refine ⟨Nat.le_refl _, by rw [hll]; simp, .inr ⟨rfl, ?_⟩⟩
            show 0 - 0 + nc * ie.size ≤ hlen (S.hp.push _) w.heap.size
            have : (S.hp.push (Obj.cells cB e (0, 0)))[w.heap.size]? = some (.cells cB e (0, 0)) := by rw [hw]; simp
            rw [sizeOfBlock this, hsz]; omega
    · -- a slice
      rename_i r g o n1 e1
      cases h13
      obtain ⟨he, h19⟩ := bsel_none h18
      have := beq_eq he; subst this
      have hx0 := hx
      simp only [V] at hx
      obtain ⟨hkn, ad, cap, rfl, hnc, hlv⟩ := hx
      cases hm : Nat.beq m 0 with
      | true =>
        rw [hm, bsel_true] at h19; cases h19
        have h0 := beq_eq hm; subst h0
        have hr := append_in (ty := ty) ht hut ha hb hd hud hdi hie (hlenr w) (hcs1 w hw) (by omega : n + 0 ≤ cap)
        refine Done.keep hS hw hl (w' := w) (x := .slice (some ad) n cap) ?_ rfl hx0
        simp only [Sem.run_bind, hr, hcsn rfl]
        simp [storeCells]
      | false =>
        rw [hm, bsel_false] at h19
        have h0 := beq_ne hm
        obtain ⟨row, h20, h21⟩ := obind_eq h19
        obtain ⟨p, h22, h23⟩ := obind_eq h21
        obtain ⟨h24, h25⟩ := bsel_none h23
        obtain ⟨h26, h27⟩ := bsel_none h25
        obtain ⟨c, len, gmin, gcur⟩ := p
        have := cellsRow_some h22; subst this
        simp only at h24 h26 h27 h20
        have := beq_eq h26; subst this
        have hgm : gmin ≤ g := ble_le h24
        simp only [Option.some.injEq, Prod.mk.injEq] at h27
        obtain ⟨rfl, rfl⟩ := h27
        have hlive : S.live r g := ⟨_, h20, hgm, Nat.le_refl _⟩
        obtain ⟨hsh, hlim, hcap⟩ := hlv hlive
        obtain ⟨hmm, hlm, hrow⟩ := hS.row r _ h20
        obtain ⟨_, _, cB, tyB, fz, hB, hfz, hcells⟩ := hrow g hmm (Nat.le_refl _)
        have hkk : Nat.add o (Nat.mul n ie.size) = o + n * ie.size := rfl
        have hmk : Nat.mul m ie.size = l.length := hll.symm
        rw [hkk, hmk] at hl ⊢
        rw [show Nat.add (o + n * ie.size) l.length = o + n * ie.size + l.length from rfl] at hl ⊢
        rw [show Nat.add n m = n + m from rfl]
        have hmul : (n + m) * ie.size = n * ie.size + l.length := by rw [hll, Nat.add_mul]
        have hVres : ∀ (G' : Nat → Nat → PL) (hp' : Array Obj) (ad' : Addr) (cap' B' sh' : Nat), G' r (g + 1) = ⟨B', sh', o + n * ie.size + l.length⟩ → sh' ≤ o → (n + m ≤ cap' ∧ cap' ≤ 9223372036854775807) → ad' = ⟨B', o - sh', none⟩ → o - sh' + cap' * ie.size ≤ hlen hp' B' →
            V ⟨look', S.kn, G', hp'⟩ (.slice r (Nat.succ g) o (n + m) ie.size) (.slice (some ad') (n + m) cap') := by
          intro G' hp' ad' cap' B' sh' hG1 hs hc had hcp
          simp only [V]
          refine ⟨⟨hkn.1, fun row hrow => ?_⟩, ad', cap', rfl, hc, fun _ => ?_⟩
          · have := hl.2 row hrow; subst this; exact Nat.le_refl _
          · show (G' r (g + 1)).sh ≤ o ∧ o + (n + m) * ie.size ≤ (G' r (g + 1)).lim ∧ (cap' = 0 ∨ ad' = ⟨(G' r (g + 1)).blk, o - (G' r (g + 1)).sh, none⟩ ∧ _ ≤ hlen hp' (G' r (g + 1)).blk)
            rw [hG1]
            exact ⟨hs, by rw [hmul]; show _ ≤ o + n * ie.size + l.length; omega, .inr ⟨had, hcp⟩⟩
        by_cases hle : n + m ≤ cap
        · -- in place
          have hcap' : ad = ⟨(S.G r g).blk, o - (S.G r g).sh, none⟩ ∧ o - (S.G r g).sh + cap * ie.size ≤ hlen S.hp (S.G r g).blk := by
            rcases hcap with h | h
            · omega
            · exact h
          obtain ⟨had, hcap2⟩ := hcap'
          have hcm := Nat.mul_le_mul_right ie.size hle
          rw [hmul] at hcm
          have hr := append_in (ty := ty) ht hut ha hb hd hud hdi hie (hlenr w) (hcs1 w hw) hle
          · obtain ⟨w', hst, hso, G', hG1, hG2, hlen', hch, hok⟩ := app_place (P := P) (k := o + n * ie.size) hS hw hcs2 hcs3 h20 (by omega) hlim (by omega) hl
            refine Done.change (n := .value (.slice (some ad) (n + m) cap)) (w' := w') hS hch ?_ hok (fun _ => .inl ⟨_, rfl, hVres G' w'.heap ad cap _ _ hG2 hsh ⟨hle, hnc.2⟩ had (by rw [hlen']; exact hcap2)⟩) hso
            have haa : ad.add (n * ie.size) = ⟨(S.G r g).blk, o + n * ie.size - (S.G r g).sh, none⟩ := by
              rw [had, add_addr, show o - (S.G r g).sh + n * ie.size = o + n * ie.size - (S.G r g).sh by omega]
            simp only [Sem.run_bind, hr, haa, hst, Result.andThen_ok, Sem.run_pure]
        · -- moved
          obtain ⟨os, hos⟩ : ∃ os : List Value, os = (cB.toList.drop (o - (S.G r g).sh)).take (n * ie.size) := ⟨_, rfl⟩
          have hosg : ∀ j, j < n * ie.size → ∃ y, os[j]? = some y ∧ cB[o + j - (S.G r g).sh]? = some y := by
            intro j hj
            obtain ⟨y, hy1, _⟩ := hcells (o + j) (by omega) (by omega)
            refine ⟨y, ?_, hy1⟩
            rw [hos, List.getElem?_take, if_pos hj, List.getElem?_drop, show o - (S.G r g).sh + j = o + j - (S.G r g).sh by omega]
            simpa using hy1
          have hosl : os.length = n * ie.size := by
            rcases Nat.eq_zero_or_pos (n * ie.size) with h0 | h0
            · rw [hos, h0]; simp
            · obtain ⟨y, hy1, _⟩ := hosg (n * ie.size - 1) (by omega)
              have h2 := (List.getElem?_eq_some_iff.1 hy1).1
              have h3 : os.length ≤ n * ie.size := by rw [hos, List.length_take]; omega
              omega
          have hold : ∀ w', w'.heap = w.heap → (Builtin.firstCells ie.size n (.slice (some ad) n cap)).run P w' = .ok os.toArray w' := by
            intro w' hw'
            rcases hcap with h | ⟨had, _⟩
            · have hn0 : n = 0 := by omega
              subst hn0
              have : os = [] := List.length_eq_zero_iff.1 (by omega)
              rw [this]
              simp [Builtin.firstCells, loadCells, loadCellsFrom]
            · have := load_run (P := P) (w := w') (B := (S.G r g).blk) (k := o - (S.G r g).sh) (vs := os) (fun i y hi => by
                have hi' : i < n * ie.size := by rw [← hosl]; exact (List.getElem?_eq_some_iff.1 hi).1
                obtain ⟨y1, hy1, hy2⟩ := hosg i hi'
                rw [hi] at hy1; cases hy1
                unfold hcell
                rw [hw', ← hw, hB]
                show cB[o - (S.G r g).sh + i]? = _
                rw [show o - (S.G r g).sh + i = o + i - (S.G r g).sh by omega]; exact hy2)
              rw [hosl] at this
              rw [had]
              simpa [Builtin.firstCells] using this
          obtain ⟨nc, w', ⟨hnc2, hnc3⟩, hr, hh, hso⟩ := append_grow (ty := ty) (os := os.toArray) (w := w) ht hut ha hb hd hud hdi hie hz1 (hlenr w) (fun w' h => hcs1 w' (by rw [h]; exact hw)) hold hle hneed1 hneed2
          obtain ⟨cN, hcN⟩ : ∃ cN, cN = os.toArray ++ cs ++ Builtin.zeroCells z.cells (nc - (n + m)) := ⟨_, rfl⟩
          rw [← hcN] at hh
          have hsz : cN.size = nc * ie.size := by
            rw [hcN]; simp only [Array.size_append, hcl, Builtin.zeroCells, Array.size_map, Array.size_range, hzs, List.size_toArray, hosl]
            rw [Nat.sub_mul, Nat.add_mul]
            have := Nat.mul_le_mul_right ie.size hnc2
            rw [Nat.add_mul] at this
            omega
          have hN : ∀ j, o ≤ j → j < o + n * ie.size + l.length → ∃ v, cN[j - o]? = some v ∧ v.oneCell' = true ∧ ∀ a, (T.write c (o + n * ie.size) l).get j = some a → V S a v := by
            intro j hj1 hj2
            by_cases hjk : j < o + n * ie.size
            · obtain ⟨y, hy1, hy2⟩ := hosg (j - o) (by omega)
              obtain ⟨y2, hy3, hy4, hy5⟩ := hcells j (by omega) (by omega)
              rw [show o + (j - o) - (S.G r g).sh = j - (S.G r g).sh by omega, hy3] at hy2
              cases hy2
              refine ⟨y, ?_, hy4, fun a haj => ?_⟩
              · rw [hcN, Array.append_assoc, Array.getElem?_append_left (by simp [hosl]; omega)]; simpa using hy1
              · rcases T.get_write l c (o + n * ie.size) j a haj with ⟨h3, _, _⟩ | ⟨_, h3⟩
                · omega
                · exact hy5 a h3
            · have hji : j - (o + n * ie.size) < cs.toList.length := by simp [hcl, ← hll]; omega
              refine ⟨cs.toList[j - (o + n * ie.size)], ?_, hcs3 _ (List.getElem_mem hji), fun a haj => ?_⟩
              · rw [hcN, Array.append_assoc, Array.getElem?_append_right (by simp [hosl]; omega)]
                rw [Array.getElem?_append_left (by simp [hosl]; simp at hji; omega)]
                have e1 : j - o - os.toArray.size = j - (o + n * ie.size) := by simp [hosl]; omega
                rw [e1]; simp at hji; simp [hji]
              · rcases T.get_write l c (o + n * ie.size) j a haj with ⟨_, _, h3⟩ | ⟨h3, _⟩
                · obtain ⟨y, hy1, hy2⟩ := hcs2.get _ a h3
                  rw [List.getElem?_eq_getElem hji] at hy1; cases hy1
                  exact hy2
                · omega
          obtain ⟨G', hG1, hG2, hch, hok⟩ := app_move (ty := e) (k0 := o) (k := o + n * ie.size) (cN := cN) hS hw h20 (by omega) hlim hN hl
          rw [← hh] at hch hok
          refine Done.change (n := .value (.slice (some ⟨w.heap.size, 0, none⟩) (n + m) nc)) (w' := w') hS hch ?_ hok (fun _ => .inl ⟨_, rfl, hVres G' w'.heap _ nc _ _ hG2 (Nat.le_refl _) ⟨hnc2, hnc3⟩ (by rw [Nat.sub_self]) ?_⟩) hso
          · simp only [Sem.run_bind, hr, Result.andThen_ok, Sem.run_pure]
          · have : w'.heap[w.heap.size]? = some (.cells cN e (0, 0)) := by rw [hh]; simp
            rw [sizeOfBlock this, hsz, Nat.sub_self]; omega
    · -- a slice that does not change
      rename_i cs1 n1 e1
      cases h13
      obtain ⟨h19, h20⟩ := bsel_none h18
      cases h20
      have h0 := beq_eq h19; subst h0
      have hx0 := hx
      simp only [V] at hx
      obtain ⟨ad, cap, vs, rfl, hnc, _⟩ := hx
      have hr := append_in (ty := ty) ht hut ha hb hd hud hdi hie (hlenr w) (hcs1 w hw) (by omega : n + 0 ≤ cap)
      refine Done.keep hS hw hl (w' := w) (x := .slice (some ad) n cap) ?_ rfl hx0
      simp only [Sem.run_bind, hr, hcsn rfl]
      simp [storeCells]
    · cases h18
  · cases h
end
end Go.CE

namespace Go.CE
section
variable {P : Program} {E : Env} {S : St} {w : World} {at_ : Nat} {look' : Look} {u : Upd} {v : AV} {ρ : Operand → AV} {σ : Operand → Value} {o : Oper}

theorem intOf1_some {a : AV} {n : Int} {x : Value} (hx : V S a x) (h : intOf1 a = some n) : ∃ k, x = .int k n ∧ kindOf a = k := by
  cases a <;> simp only [intOf1] at h <;> first
    | (cases h; done)
    | (cases h; simp only [V] at hx; exact ⟨_, hx, rfl⟩)
theorem max_fold : ∀ {xs : List AV} {vs : List Value} {ns : List Int}, VL S xs vs → mapO intOf1 xs = some ns → ∀ k m, (vs.foldlM Builtin.max2 (.int k m)).run P w = .ok (.int k (best true m ns)) w
  | [], [], ns, _, h, k, m => by rw [mapO_nil h]; simp [best]
  | x :: xs, y :: vs, ns, hv, h, k, m => by
    obtain ⟨n, ns', h1, h2, rfl⟩ := mapO_cons h
    simp only [VL] at hv
    obtain ⟨k', rfl, _⟩ := intOf1_some hv.1 h1
    simp only [List.foldlM_cons, Sem.run_bind, Builtin.max2, Sem.run_pure, Result.andThen_ok]
    rw [max_fold hv.2 h2]
    simp only [best, cond_true, ile_eq]
    by_cases hmn : n ≤ m
    · have : ¬ n > m := by omega
      simp [hmn, this]
    · have : n > m := by omega
      simp [hmn, this]
  | [], _ :: _, _, hv, _, _, _ => by simp [VL] at hv
  | _ :: _, [], _, hv, _, _, _ => by simp [VL] at hv
theorem min_fold : ∀ {xs : List AV} {vs : List Value} {ns : List Int}, VL S xs vs → mapO intOf1 xs = some ns → ∀ k m, (vs.foldlM Builtin.min2 (.int k m)).run P w = .ok (.int k (best false m ns)) w
  | [], [], ns, _, h, k, m => by rw [mapO_nil h]; simp [best]
  | x :: xs, y :: vs, ns, hv, h, k, m => by
    obtain ⟨n, ns', h1, h2, rfl⟩ := mapO_cons h
    simp only [VL] at hv
    obtain ⟨k', rfl, _⟩ := intOf1_some hv.1 h1
    simp only [List.foldlM_cons, Sem.run_bind, Builtin.min2, Sem.run_pure, Result.andThen_ok]
    rw [min_fold hv.2 h2]
    simp only [best, cond_false, ile_eq]
    by_cases hmn : m ≤ n
    · have : ¬ n < m := by omega
      simp [hmn, this]
    · have : n < m := by omega
      simp [hmn, this]
  | [], _ :: _, _, hv, _, _, _ => by simp [VL] at hv
  | _ :: _, [], _, hv, _, _, _ => by simp [VL] at hv
theorem minmax_sound {mx : Bool} {ats : Array TypeId} {ty : TypeId} {xs : List AV} {args : Array Value} (hv : VL S xs args.toList) (hS : Rel S) (hw : S.hp = w.heap) (hl : UpdOK S.look look' at_ u)
    (h : minmax mx xs = some (v, u)) : Done P S w at_ look' u v (do pure (.value (← (bif mx then Builtin.max_ ats ty args else Builtin.min_ ats ty args)))) := by
  obtain ⟨l, h1, h2⟩ := obind_eq h
  cases xs with
  | nil => rw [mapO_nil h1] at h2; cases h2
  | cons x xs =>
    obtain ⟨n, ns, h3, h4, rfl⟩ := mapO_cons h1
    cases h2
    cases ha : args.toList with
    | nil => rw [ha] at hv; simp [VL] at hv
    | cons y vs =>
      rw [ha] at hv; simp only [VL] at hv
      obtain ⟨k, rfl, hk⟩ := intOf1_some hv.1 h3
      refine Done.keep hS hw hl (w' := w) (x := .int k (best mx n ns)) ?_ rfl (by simp only [V, hk])
      cases mx
      · simp only [cond_false, Sem.run_bind, Builtin.min_, ha, min_fold hv.2 h4, Result.andThen_ok, Sem.run_pure]
      · simp only [cond_true, Sem.run_bind, Builtin.max_, ha, max_fold hv.2 h4, Result.andThen_ok, Sem.run_pure]
theorem VL.mapOps (hρ : ∀ x, V S (ρ x) (σ x)) : ∀ l : List Operand, VL S (l.map ρ) (l.map σ)
  | [] => by simp [VL]
  | x :: l => by simp only [List.map_cons, VL]; exact ⟨hρ x, VL.mapOps hρ l⟩
theorem snd_builtin {b : Builtin} {args : Array Operand} {ats : Array TypeId} {ty : TypeId} {consts : Array Bool} (hE : EnvTypes P E) (hS : Rel S) (hw : S.hp = w.heap) (hρ : ∀ x, V S (ρ x) (σ x)) (hat : ¬ S.kn at_) (hl : UpdOK S.look look' at_ u)
    (h : bi b E S.look at_ ats.toList (args.toList.map ρ) = some (v, u)) : Done P S w at_ look' u v (builtin b ats ty consts (args.map σ)) := by
  have two : ∀ {b}, b ≠ .min → b ≠ .max → bi b E S.look at_ ats.toList (args.toList.map ρ) = some (v, u) →
      (∃ x, args.toList = [x] ∧ bi1 b E S.look at_ ats.toList (ρ x) .bad = some (v, u)) ∨ (∃ x y, args.toList = [x, y] ∧ bi2 b E S.look at_ ats.toList (ρ x) (ρ y) = some (v, u)) := by
    intro b h1 h2 h
    match hal : args.toList with
    | [] => rw [hal] at h; cases b <;> first | (cases h; done) | exact absurd rfl h1 | exact absurd rfl h2
    | [x] => rw [hal] at h; refine .inl ⟨x, rfl, ?_⟩; cases b <;> first | exact h | exact absurd rfl h1 | exact absurd rfl h2
    | [x, y] => rw [hal] at h; refine .inr ⟨x, y, rfl, ?_⟩; cases b <;> first | exact h | exact absurd rfl h1 | exact absurd rfl h2
    | _ :: _ :: _ :: _ => rw [hal] at h; cases b <;> first | (cases h; done) | exact absurd rfl h1 | exact absurd rfl h2
  have g0 : ∀ {x l}, args.toList = x :: l → (args.map σ)[0]? = some (σ x) := fun {x l} he => by
    rw [Array.getElem?_map, ← Array.getElem?_toList, he]; rfl
  have g1 : ∀ {x y l}, args.toList = x :: y :: l → (args.map σ)[1]? = some (σ y) := fun {x y l} he => by
    rw [Array.getElem?_map, ← Array.getElem?_toList, he]; rfl
  have hvl : VL S (args.toList.map ρ) (args.map σ).toList := by rw [Array.toList_map]; exact VL.mapOps hρ _
  cases b
  case min => exact minmax_sound (ats := ats) (ty := ty) (mx := false) hvl hS hw hl h
  case max => exact minmax_sound (ats := ats) (ty := ty) (mx := true) hvl hS hw hl h
  case len =>
    rcases two (by simp) (by simp) h with ⟨x, he, h⟩ | ⟨x, y, he, h⟩
    · exact bl_len (y := .bad) (ty := ty) rfl (g0 he) (hρ x) hE hS hw hl h
    · cases h
  case clear =>
    rcases two (by simp) (by simp) h with ⟨x, he, h⟩ | ⟨x, y, he, h⟩
    · exact bl_clear (y := .bad) (ty := ty) rfl (g0 he) (hρ x) hE hS hw hl h
    · cases h
  case append =>
    rcases two (by simp) (by simp) h with ⟨x, he, h⟩ | ⟨x, y, he, h⟩
    · cases h
    · exact bl_append (ty := ty) rfl (g0 he) (hρ x) (g1 he) (hρ y) hat hE hS hw hl h
  case copy =>
    rcases two (by simp) (by simp) h with ⟨x, he, h⟩ | ⟨x, y, he, h⟩
    · cases h
    · exact bl_copy (ty := ty) rfl (g0 he) (hρ x) (g1 he) (hρ y) hE hS hw hl h
  case delete =>
    rcases two (by simp) (by simp) h with ⟨x, he, h⟩ | ⟨x, y, he, h⟩
    · cases h
    · exact bl_delete (ty := ty) rfl (g0 he) (hρ x) (g1 he) (hρ y) hE hS hw hl h
  all_goals (rcases two (by simp) (by simp) h with ⟨x, he, h⟩ | ⟨x, y, he, h⟩ <;> cases h)
theorem snd_call {c : Call} (ho : o.op = .call c) (hE : EnvTypes P E) (hS : Rel S) (hw : S.hp = w.heap) (hρ : ∀ x, V S (ρ x) (σ x)) (hat : ¬ S.kn at_) (hl : UpdOK S.look look' at_ u)
    (h : smCall c E ρ S.look at_ = some (v, u)) : Done P S w at_ look' u v (execOp σ o) := by
  obtain ⟨callee, args, ats⟩ := c
  cases callee with
  | builtin b =>
    obtain ⟨cs, he⟩ : ∃ cs, execOp σ o = builtin b ats o.type cs (args.map σ) :=
      ⟨args.map fun | .const _ => true | _ => false, by unfold execOp; rw [ho]; simp only [resolve, pure_bind, invoke]; rfl⟩
    rw [he]
    exact snd_builtin hE hS hw hρ hat hl h
  | value x => cases h
  | invoke x n => cases h
theorem sem_sound (hE : EnvTypes P E) (hS : Rel S) (hw : S.hp = w.heap) (hρ : ∀ x, V S (ρ x) (σ x)) (hat : ¬ S.kn at_) (hl : UpdOK S.look look' at_ u)
    (h : sem o.op E ρ S.look at_ = some (v, u)) : Done P S w at_ look' u v (execOp σ o) := by
  cases ho : o.op
  case move => rw [ho] at h; exact snd_move (E := E) (.inl ho) hS hw hρ hl h
  case assign => rw [ho] at h; exact snd_move (E := E) (.inr ho) hS hw hρ hl h
  case pick => rw [ho] at h; exact snd_pick (E := E) ho hS hw hρ hl h
  case alloc => rw [ho] at h; exact snd_alloc (ρ := ρ) ho hE hS hw hat hl h
  case box => rw [ho] at h; exact snd_box (E := E) ho hS hw hρ hat hl h
  case build => rw [ho] at h; exact snd_build ho hE hS hw hρ hl h
  case buildSlice => rw [ho] at h; exact snd_buildSlice ho hE hS hw hρ hat hl h
  case load => rw [ho] at h; exact snd_load ho hE hS hw hρ hl h
  case store => rw [ho] at h; exact snd_store ho hE hS hw hρ hl h
  case nilCheck => rw [ho] at h; exact snd_nilCheck (E := E) ho hS hw hρ hl h
  case binOp => rw [ho] at h; exact snd_bin ho hE hS hw hρ hl h
  case unOp => rw [ho] at h; exact snd_un (E := E) ho hS hw hρ hl h
  case convert => rw [ho] at h; exact snd_conv ho hE hS hw hρ hat hl h
  case makeFunc => rw [ho] at h; exact snd_makeFunc (E := E) ho hS hw hρ hl h
  case makeMap => rw [ho] at h; exact snd_makeMap ho hE hS hw hρ hat hl h
  case makeSlice => rw [ho] at h; exact snd_makeSlice ho hE hS hw hρ hat hl h
  case slice => rw [ho] at h; exact snd_slice ho hE hS hw hρ hl h
  case fieldAddr => rw [ho] at h; exact snd_fieldAddr ho hE hS hw hρ hl h
  case field => rw [ho] at h; exact snd_field ho hE hS hw hρ hl h
  case indexAddr => rw [ho] at h; exact snd_indexAddr ho hE hS hw hρ hl h
  case index => rw [ho] at h; exact snd_index ho hE hS hw hρ hl h
  case lookup => rw [ho] at h; exact snd_lookup ho hE hS hw hρ hl h
  case mapUpdate => rw [ho] at h; exact snd_mapUpdate (.inl ho) hE hS hw hρ hl h
  case insert => rw [ho] at h; exact snd_mapUpdate (.inr ho) hE hS hw hρ hl h
  case range => rw [ho] at h; exact snd_range ho hE hS hw hρ hat hl h
  case next => rw [ho] at h; exact snd_next (E := E) ho hS hw hρ hl h
  case extract => rw [ho] at h; exact snd_extract (E := E) ho hS hw hρ hl h
  case call => rw [ho] at h; exact snd_call ho hE hS hw hρ hat hl h
  all_goals (rw [ho] at h; cases h)
end
end Go.CE

namespace Go.CE
section
variable {E : Env} {ρ ρ' : Operand → AV} {look look' : Look} {at_ : Nat}

theorem mapO_congr {α β : Type} {f g : α → Option β} : ∀ {l : List α}, (∀ x ∈ l, f x = g x) → mapO f l = mapO g l
  | [], _ => rfl
  | x :: l, h => by
    show obind (f x) (fun y => obind (mapO f l) fun r => some (y :: r)) = obind (g x) (fun y => obind (mapO g l) fun r => some (y :: r))
    rw [h x (by simp), mapO_congr fun y hy => h y (by simp [hy])]
theorem opt_congr {r : Option Operand} (d : Option Nat) (h : ∀ x, r = some x → ρ x = ρ' x) :
    (Option.rec (motive := fun _ => Option Nat) d (fun x => asNat (ρ x)) r) = Option.rec (motive := fun _ => Option Nat) d (fun x => asNat (ρ' x)) r := by
  cases r with
  | none => rfl
  | some x => show asNat (ρ x) = asNat (ρ' x); rw [h x rfl]
theorem sem_ops (op : Op) (h : ∀ x ∈ op.operands, ρ x = ρ' x) : sem op E ρ look at_ = sem op E ρ' look at_ := by
  have lists : ∀ (ps : Array Operand), (∀ x ∈ ps, ρ x = ρ' x) → ps.toList.map ρ = ps.toList.map ρ' := fun ps hp => List.map_congr_left fun x hx => hp x (by simpa using hx)
  cases op <;> simp only [Op.operands] at h
  case move x => show smMove x E ρ look at_ = smMove x E ρ' look at_; simp only [smMove, h x (by simp)]
  case assign x => show smMove x E ρ look at_ = smMove x E ρ' look at_; simp only [smMove, h x (by simp)]
  case pick c a b => show smPick c a b E ρ look at_ = smPick c a b E ρ' look at_; simp only [smPick, h c (by simp), h a (by simp), h b (by simp)]
  case alloc t => rfl
  case box t x => show smBox t x E ρ look at_ = smBox t x E ρ' look at_; simp only [smBox, h x (by simp)]
  case build t ps =>
    show smBuild t ps E ρ look at_ = smBuild t ps E ρ' look at_
    simp only [smBuild]
    congr 1; funext ti; congr 1; funext fs; congr 2
    refine mapO_congr fun p hp => ?_
    rw [h p.2 (by simp only [List.mem_toArray, List.mem_map]; exact ⟨p, hp, rfl⟩)]
  case buildSlice t n ps =>
    show smBuildSlice t n ps E ρ look at_ = smBuildSlice t n ps E ρ' look at_
    simp only [smBuildSlice]
    congr 1; funext ti; congr 1; funext fs; congr 1
    refine mapO_congr fun p hp => ?_
    rw [h p.2 (by simp only [List.mem_toArray, List.mem_map]; exact ⟨p, hp, rfl⟩)]
  case load t x => show smLoad t x E ρ look at_ = smLoad t x E ρ' look at_; simp only [smLoad, h x (by simp)]
  case store t x y => show smStore t x y E ρ look at_ = smStore t x y E ρ' look at_; simp only [smStore, h x (by simp), h y (by simp)]
  case nilCheck x => show smNilCheck x E ρ look at_ = smNilCheck x E ρ' look at_; simp only [smNilCheck, h x (by simp)]
  case binOp b t x y t' => show smBin b t x y t' E ρ look at_ = smBin b t x y t' E ρ' look at_; simp only [smBin, h x (by simp), h y (by simp)]
  case unOp b t x => show smUn b t x E ρ look at_ = smUn b t x E ρ' look at_; simp only [smUn, h x (by simp)]
  case convert s d x => show smConv s d x E ρ look at_ = smConv s d x E ρ' look at_; simp only [smConv, h x (by simp)]
  case makeInterface t x => rfl
  case makeFunc f b c =>
    show smMakeFunc f b c E ρ look at_ = smMakeFunc f b c E ρ' look at_
    simp only [smMakeFunc, lists b fun x hx => h x (by simp [hx]), lists c fun x hx => h x (by simp [hx])]
  case makeMap t r =>
    show smMakeMap t r E ρ look at_ = smMakeMap t r E ρ' look at_
    simp only [smMakeMap]
    rw [opt_congr (some 0) (r := r) fun x hx => h x (by subst hx; simp)]
  case makeSlice t x y => show smMakeSlice t x y E ρ look at_ = smMakeSlice t x y E ρ' look at_; simp only [smMakeSlice, h x (by simp), h y (by simp)]
  case slice t x lo hi mx =>
    show smSlice t x lo hi mx E ρ look at_ = smSlice t x lo hi mx E ρ' look at_
    simp only [smSlice, h x (by simp)]
    rw [opt_congr (some 0) (r := lo) fun y hy => h y (by subst hy; simp), opt_congr (len0 (ρ' x)) (r := hi) fun y hy => h y (by subst hy; simp)]
  case fieldAddr t x i => show smFieldAddr t x i E ρ look at_ = smFieldAddr t x i E ρ' look at_; simp only [smFieldAddr, h x (by simp)]
  case field t x i => show smField t x i E ρ look at_ = smField t x i E ρ' look at_; simp only [smField, h x (by simp)]
  case indexAddr t x y => show smIndexAddr t x y E ρ look at_ = smIndexAddr t x y E ρ' look at_; simp only [smIndexAddr, h x (by simp), h y (by simp)]
  case index t x y => show smIndex t x y E ρ look at_ = smIndex t x y E ρ' look at_; simp only [smIndex, h x (by simp), h y (by simp)]
  case lookup t x y ok => show smLookup t x y ok E ρ look at_ = smLookup t x y ok E ρ' look at_; simp only [smLookup, h x (by simp), h y (by simp)]
  case mapUpdate t m k v => show smMapUpdate t m k v E ρ look at_ = smMapUpdate t m k v E ρ' look at_; simp only [smMapUpdate, h m (by simp), h k (by simp), h v (by simp)]
  case insert t m k v => show smMapUpdate t m k v E ρ look at_ = smMapUpdate t m k v E ρ' look at_; simp only [smMapUpdate, h m (by simp), h k (by simp), h v (by simp)]
  case range t x => show smRange t x E ρ look at_ = smRange t x E ρ' look at_; simp only [smRange, h x (by simp)]
  case next x s => show smNext x s E ρ look at_ = smNext x s E ρ' look at_; simp only [smNext, h x (by simp)]
  case extract x i => show smExtract x i E ρ look at_ = smExtract x i E ρ' look at_; simp only [smExtract, h x (by simp)]
  case call c =>
    show smCallee c.callee c.args c.argTypes E ρ look at_ = smCallee c.callee c.args c.argTypes E ρ' look at_
    obtain ⟨f, args, ats⟩ := c
    cases f with
    | builtin b => show bi b E look at_ ats.toList (args.toList.map ρ) = bi b E look at_ ats.toList (args.toList.map ρ'); rw [lists args fun x hx => h x (by simp [Call.operands, hx])]
    | _ => rfl
  all_goals rfl
end
end Go.CE

namespace Go.CE
section
variable {E : Env} {ρ : Operand → AV} {look look' : Look} {at_ : Nat}

theorem napp_eq (x y : List Nat) : napp x y = x ++ y := by
  induction x with
  | nil => rfl
  | cons a x ih => show a :: napp x y = _; rw [ih]; rfl
theorem mem_rowsOf {r : Nat} : ∀ {l : List Operand} {x : Operand}, x ∈ l → r ∈ rowOf (ρ x) → r ∈ rowsOf ρ l
  | y :: l, x, hx, hr => by
    show r ∈ napp (rowOf (ρ y)) (rowsOf ρ l)
    rw [napp_eq]
    rcases List.mem_cons.1 hx with rfl | hx
    · exact List.mem_append_left _ hr
    · exact List.mem_append_right _ (mem_rowsOf hx hr)
theorem rdRow_congr {r g o n : Nat} (h : look r = look' r) : rdRow look r g o n = rdRow look' r g o n := by simp only [rdRow, h]
theorem wrRow_congr {r g o : Nat} {l : List AV} (h : look r = look' r) : wrRow look r g o l = wrRow look' r g o l := by simp only [wrRow, h]
theorem loadS_congr {agg : Bool} {n : Nat} {x : AV} (h : ∀ r ∈ rowOf x, look r = look' r) : loadS look agg n x = loadS look' agg n x := by
  unfold loadS
  split
  · rw [rdRow_congr (h _ (by simp [rowOf]))]
  · rfl
  · rfl
theorem storeS_congr {n : Nat} {x : AV} {l : List AV} (h : ∀ r ∈ rowOf x, look r = look' r) : storeS look n x l = storeS look' n x l := by
  unfold storeS
  split
  · rw [wrRow_congr (h _ (by simp [rowOf]))]
  · rfl
theorem mapS_congr {x : AV} (h : ∀ r ∈ rowOf x, look r = look' r) : mapS look x = mapS look' x := by
  unfold mapS
  split
  · rfl
  · rfl
  · rw [h _ (by simp [rowOf])]
  · rfl
theorem elemsS_congr {e : Nat} {x : AV} (h : ∀ r ∈ rowOf x, look r = look' r) : elemsS look e x = elemsS look' e x := by
  unfold elemsS
  split
  · rfl
  · rw [rdRow_congr (h _ (by simp [rowOf]))]
  · rfl
  · rfl
  · rfl
theorem appendS_congr {fresh e m : Nat} {x : AV} {l : List AV} (h : ∀ r ∈ rowOf x, look r = look' r) : appendS look fresh e x l m = appendS look' fresh e x l m := by
  unfold appendS
  split
  · rfl
  · rw [h _ (by simp [rowOf])]
  · rfl
  · rfl
theorem mapUpd_congr {x k v : AV} (h : ∀ r ∈ rowOf x, look r = look' r) : mapUpd look x k v = mapUpd look' x k v := by
  unfold mapUpd
  split
  · rw [h _ (by simp [rowOf])]
  · rfl
theorem convS_congr {fresh : Nat} {a b : TK} {x : AV} (h : ∀ r ∈ rowOf x, look r = look' r) : convS look fresh a b x = convS look' fresh a b x := by
  unfold convS
  rw [elemsS_congr h]
theorem bi_congr {b : Builtin} {ts : List TypeId} {xs : List AV} (h : ∀ x ∈ xs, ∀ r ∈ rowOf x, look r = look' r) : bi b E look at_ ts xs = bi b E look' at_ ts xs := by
  have h1 : ∀ b x, (∀ r ∈ rowOf x, look r = look' r) → bi1 b E look at_ ts x .bad = bi1 b E look' at_ ts x .bad := by
    intro b x hx
    cases b <;> first
      | rfl
      | (show biLen E look at_ ts x .bad = biLen E look' at_ ts x .bad
         unfold biLen
         rw [mapS_congr hx])
      | (show biClear E look at_ ts x .bad = biClear E look' at_ ts x .bad
         unfold biClear
         split
         · congr 1; funext ti; congr 1; funext k
           split
           · rw [wrRow_congr (hx _ (by simp [rowOf]))]
           · rfl
         · rfl)
  have h2 : ∀ b x y, (∀ r ∈ rowOf x, look r = look' r) → (∀ r ∈ rowOf y, look r = look' r) → bi2 b E look at_ ts x y = bi2 b E look' at_ ts x y := by
    intro b x y hx hy
    cases b <;> first
      | rfl
      | (show biAppend E look at_ ts x y = biAppend E look' at_ ts x y
         unfold biAppend
         split
         · simp only [elemsS_congr hy, appendS_congr hx]
         · rfl)
      | (show biCopy E look at_ ts x y = biCopy E look' at_ ts x y
         unfold biCopy
         split
         · congr 1; funext ti; congr 1; funext k
           split
           · rename_i r g o n e
             have hr : look r = look' r := hx r (by simp [rowOf])
             simp only [elemsS_congr hy, wrRow, hr]
           · rfl
         · rfl)
      | (show biDelete E look at_ ts x y = biDelete E look' at_ ts x y
         unfold biDelete
         split
         · congr 1; funext ti; congr 1; funext k
           split
           · rw [hx _ (by simp [rowOf])]
           · rfl
         · rfl)
  match xs, h with
  | [], _ => cases b <;> rfl
  | [x], h =>
    have := fun b => h1 b x (h x (by simp))
    cases b
    case len => exact this .len
    case clear => exact this .clear
    all_goals rfl
  | [x, y], h =>
    have := fun b => h2 b x y (h x (by simp)) (h y (by simp))
    cases b
    case append => exact this .append
    case copy => exact this .copy
    case delete => exact this .delete
    all_goals rfl
  | _ :: _ :: _ :: _, _ => cases b <;> rfl
theorem sameS_congr {look look' : Look} {n : Nat} {x v : AV} (h : ∀ r ∈ rowOf x, look r = look' r) : sameS look n x v = sameS look' n x v := by
  cases x <;> try rfl
  rename_i r g o m
  unfold sameS
  simp only [loadS_congr (look := look) (look' := look') (x := .ptr r g o m) h]
theorem sem_look (op : Op) (hc : cls op ≤ 4) (h : ∀ r ∈ accR op ρ, look r = look' r) : sem op E ρ look at_ = sem op E ρ look' at_ := by
  cases op
  case load t x => show smLoad t x E ρ look at_ = smLoad t x E ρ look' at_; simp only [smLoad, loadS_congr (look := look) (look' := look') (x := ρ x) h]
  case store t x y => show smStore t x y E ρ look at_ = smStore t x y E ρ look' at_; simp only [smStore, sameS_congr (look := look) (look' := look') (x := ρ x) h, storeS_congr (look := look) (look' := look') (x := ρ x) h]
  case convert s d x => show smConv s d x E ρ look at_ = smConv s d x E ρ look' at_; simp only [smConv, convS_congr (look := look) (look' := look') (x := ρ x) h]
  case lookup t x y ok => show smLookup t x y ok E ρ look at_ = smLookup t x y ok E ρ look' at_; simp only [smLookup, mapS_congr (look := look) (look' := look') (x := ρ x) h]
  case mapUpdate t m k v => show smMapUpdate t m k v E ρ look at_ = smMapUpdate t m k v E ρ look' at_; simp only [smMapUpdate, mapUpd_congr (look := look) (look' := look') (x := ρ m) h]
  case insert t m k v => show smMapUpdate t m k v E ρ look at_ = smMapUpdate t m k v E ρ look' at_; simp only [smMapUpdate, mapUpd_congr (look := look) (look' := look') (x := ρ m) h]
  case range t x =>
    show smRange t x E ρ look at_ = smRange t x E ρ look' at_
    have e : mapS look (ρ x) = mapS look' (ρ x) := mapS_congr h
    simp only [smRange]
    revert e; generalize ρ x = y; intro e
    cases y <;> first | rfl | simp only [e]
  case next x s =>
    cases s with
    | false => exact absurd hc (by show ¬ (5 ≤ 4); omega)
    | true =>
      show smNext x true E ρ look at_ = smNext x true E ρ look' at_
      simp only [smNext]
      split
      · rename_i r m he
        have e : nextRow look true r = nextRow look' true r := funext fun row => by cases row <;> rfl
        rw [h r (by show r ∈ rowOf (ρ x); rw [he]; simp [rowOf]), e]
      · rfl
  case call c =>
    show smCallee c.callee c.args c.argTypes E ρ look at_ = smCallee c.callee c.args c.argTypes E ρ look' at_
    obtain ⟨f, args, ats⟩ := c
    cases f with
    | builtin b =>
      show bi b E look at_ ats.toList (args.toList.map ρ) = bi b E look' at_ ats.toList (args.toList.map ρ)
      refine bi_congr fun x hx r hr => ?_
      obtain ⟨y, hy, rfl⟩ := List.mem_map.1 hx
      exact h r (mem_rowsOf hy hr)
    | _ => rfl
  all_goals rfl
theorem acc_cls0 (op : Op) (h : cls op = 0) : accR op ρ = [] := by
  cases op <;> first
    | rfl
    | (cases h; done)
    | (rename_i x s; cases s <;> (cases h; done))
    | (rename_i c; obtain ⟨f, args, ats⟩ := c; cases f <;> first | (cases h; done) | (rename_i b; cases b <;> cases h))
end
end Go.CE
