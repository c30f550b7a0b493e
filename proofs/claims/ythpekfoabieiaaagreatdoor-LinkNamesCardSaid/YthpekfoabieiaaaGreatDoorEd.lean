import Derived.Test.YthpekfoabieiaaaGreatDoorEc
import Derived.Test.YthpekfoabieiaaaGreatDoorEa
import Derived.RangeFuncIn
import Derived.OrdersIn
import Derived.TacticsIn
import Derived.LoopNIn
import Derived.RangeFuncLeaves
import Derived.RangeFuncRecord
import Derived.RangeFuncNested
set_option linter.all false
namespace Go.CE

/-- A fence that lets all in. -/
structure Free (F : Fence) : Prop where
  fn : ∀ f, F.fn f
  depth : F.depth = none
  alive : F.alive = false
theorem free_wide : Free Fence.wide := ⟨fun _ => trivial, rfl, rfl⟩
theorem Free.inRound {F : Fence} (h : Free F) (l : Nat) : Free (F.inRound l) := ⟨h.fn, h.depth, h.alive⟩
theorem Free.one {F : Fence} (h : Free F) {p : Prop} : F.depth.isSome = true → p := fun e => by rw [h.depth] at e; cases e

/-- What is known of the first blocks, which nothing changes. -/
structure GInv where
  n : Nat
  w0 : World
  ok : Array Obj → Prop
  stable : ∀ hp hp' : Array Obj, (∀ B, B < n → hp'[B]? = hp[B]?) → ok hp → ok hp'
def GInv.met (GI : GInv) (S : St) : Prop := (∀ B, B < GI.n → S.imm B ∧ ∀ ds, S.hp[B]? ≠ some (.deferred ds)) ∧ GI.ok S.hp
theorem GInv.met.extW {GI : GInv} {S S' : St} (h : GI.met S) (hx : ExtW S S') : GI.met S' := by
  have h1 : ∀ B, B < GI.n → S'.hp[B]? = S.hp[B]? := fun B hB => by
    rcases (hx.imm B (h.1 B hB).1).2 with e | ⟨ds, e⟩
    · exact e
    · exact absurd e ((h.1 B hB).2 ds)
  exact ⟨fun B hB => ⟨(hx.imm B (h.1 B hB).1).1, fun ds => by rw [h1 B hB]; exact (h.1 B hB).2 ds⟩, GI.stable _ _ h1 h.2⟩
theorem GInv.met.ext {GI : GInv} {S S' : St} (h : GI.met S) (hx : Ext S S') : GI.met S' := h.extW hx.weak
variable {GI : GInv}
/-- The rows have the places that they have at first. -/
def okRows (q : Q Row) : Prop := ∀ r, q.ok r = (Q.full 7 : Q Row).ok r
theorem okRows.set {q : Q Row} (h : okRows q) (r : Nat) (row : Row) : okRows (q.set r row) := fun r' => by rw [Q.ok_set]; exact h r'
structure At (GI : GInv) (S : St) (h : Heap) (w : World) : Prop where
  rel : Rel S
  hp : S.hp = w.heap
  look : S.look = h.rows.get
  kn : ∀ r, S.kn r → r < h.next
  met : GI.met S
  ok : okRows h.rows
  out : SameOut GI.w0 w
def TmOK (S : St) (a : Tmps) (t : Array Value) : Prop := ∀ x, V S (orUndef (a.get x)) (t.getD x Go.undef)
structure Behind (S : St) (h : Heap) (S' : St) (h' : Heap) : Prop where
  ext : Ext S S'
  kn : ∀ r, S'.kn r → S.kn r ∨ (h.next ≤ r ∧ r < h'.next)
  keep : Keep h'.lo S S'
  lo : h'.lo ≤ h.lo
  le : h.next ≤ h'.next
theorem Behind.refl (S : St) (h : Heap) : Behind S h S h := ⟨Ext.refl S, fun _ h => .inl h, Keep.refl _ S, Nat.le_refl _, Nat.le_refl _⟩
theorem Behind.trans {S S' S'' : St} {h h' h'' : Heap} (x : Behind S h S' h') (y : Behind S' h' S'' h'') (hS : Rel S) : Behind S h S'' h'' :=
  ⟨x.ext.trans y.ext hS.lt, fun r hr => by
    have hle := x.le; have hle' := y.le
    rcases y.kn r hr with h1 | h1
    · rcases x.kn r h1 with h2 | h2
      · exact .inl h2
      · exact .inr (by omega)
    · exact .inr (by omega), x.keep.trans y.keep x.ext.kn y.lo, Nat.le_trans y.lo x.lo, Nat.le_trans x.le y.le⟩
theorem TmOK.ext {S S' : St} (hx : Ext S S') {a : Tmps} {t : Array Value} (h : TmOK S a t) : TmOK S' a t := fun x => V.ext hx (h x)
theorem TmOK.put {S : St} {a : Tmps} {act : Act} {dst : Option Nat} {v : AV} {x : Value} (h : TmOK S a act.tmps) (hv : V S v x) (hd : ∀ d, dst = some d → d < act.tmps.size) :
    TmOK S (putS a dst v) (act.put dst x).tmps := by
  cases dst with
  | none => exact h
  | some d =>
    intro t
    show V S (orUndef ((a.set d v).get t)) ((act.tmps.setIfInBounds d x).getD t Go.undef)
    by_cases ht : t = d
    · subst ht
      have hlt := hd t rfl
      have e1 : (act.tmps.setIfInBounds t x).getD t Go.undef = x := by simp [hlt]
      rw [e1]
      cases hg : (a.set t v).get t with
      | none => show V S .bad x; simp only [V]
      | some y => rw [Q.get_set_same v a t y hg] at *; exact hv
    · have e1 : (act.tmps.setIfInBounds d x).getD t Go.undef = act.tmps.getD t Go.undef := by
        simp only [Array.getD_eq_getD_getElem?, Array.getElem?_setIfInBounds_ne (Ne.symm ht)]
      rw [e1, Q.get_set_ne v a d t ht]
      exact h t
theorem put_size (act : Act) (dst : Option Nat) (x : Value) : (act.put dst x).tmps.size = act.tmps.size := by cases dst <;> simp [Act.put]
theorem put_defers' (act : Act) (dst : Option Nat) (x : Value) : (act.put dst x).defers = act.defers := by cases dst <;> simp [Act.put]
theorem V.undef {S : St} : V S .undef Go.undef := by
  show V S (.tuple []) (.tuple #[])
  simp only [V]; exact ⟨#[], rfl, by simp [VL]⟩
theorem ev_V {S : St} {a : Tmps} {act : Act} (h : TmOK S a act.tmps) : ∀ x, V S (ev a x) (act.eval x)
  | .tmp t => h t
  | .const v => V.cv S v
  | .global g => by show V S (.gptr g) (.pointer (some ⟨g, 0, none⟩)); simp only [V]
  | .func f => by
    show V S (.func f [] []) (.func (.func f) #[] #[])
    simp only [V]; exact ⟨#[], #[], rfl, by simp [VL], by simp [VL]⟩
theorem wanted_ok {S : St} {a : Tmps} {act : Act} {ops : Array Oper} {o : Oper} {b : Bool} (h : TmOK S a act.tmps) (hw : wantedS ops.toList a o.guard = some b) :
    Region.wanted o (yielded ops act.tmps) = b := by
  unfold Region.wanted
  cases hg : o.guard with
  | none => rw [hg] at hw; cases hw; rfl
  | some p =>
    obtain ⟨j, want⟩ := p
    rw [hg] at hw
    have hw' : (Option.rec (motive := fun _ => Option Bool) (some false) (fun o => Option.rec (motive := fun _ => Option Bool) (some false) (fun d => wantV want (orUndef (a.get d))) o.dst) (nth ops.toList j)) = some b := hw
    rw [nth_eq, Array.getElem?_toList] at hw'
    show (yielded ops act.tmps j == some want) = b
    unfold yielded
    cases ho : ops[j]? with
    | none => rw [ho] at hw'; cases hw'; rfl
    | some g =>
      rw [ho] at hw'
      cases hd : g.dst with
      | none => simp only [hd] at hw'; cases hw'; simp [hd]
      | some d =>
        simp only [hd] at hw'
        have hv := h d
        revert hw' hv
        generalize orUndef (a.get d) = q
        intro hw' hv
        unfold wantV at hw'
        split at hw'
        · rename_i c
          cases hw'
          simp only [V] at hv
          rw [beqB_eq]
          simp only [Option.bind_some, hd]
          rw [Array.getD_eq_getD_getElem?] at hv
          cases ht : act.tmps[d]? with
          | none => rw [ht] at hv; cases hv
          | some y => rw [ht] at hv; simp at hv; subst hv; rfl
        · cases hw'
          simp only [V] at hv
          obtain ⟨vs, hv, _⟩ := hv
          simp only [Option.bind_some, hd]
          rw [Array.getD_eq_getD_getElem?] at hv
          cases ht : act.tmps[d]? with
          | none => rfl
          | some y => rw [ht] at hv; simp at hv; subst hv; rfl
        · cases hw'
/-- How a change of the evaluator's heap is looked at. -/
theorem applyK_eq {β : Type} (h : Heap) (at_ next : Nat) (u : Upd) (k : Heap → β) : applyK h at_ next u k = k (applyU h at_ next u) := by cases u <;> rfl
theorem updOK_apply {S : St} {h : Heap} (hl : S.look = h.rows.get) (at_ next : Nat) (u : Upd) : UpdOK S.look (applyU h at_ next u).rows.get at_ u := by
  cases u with
  | keep => exact hl.symm
  | new row => rw [hl]; exact ⟨fun r hr => Q.get_set_ne row h.rows at_ r hr, fun x hx => Q.get_set_same row h.rows at_ x hx⟩
  | set r row => rw [hl]; exact ⟨fun r' hr => Q.get_set_ne row h.rows r r' hr, fun x hx => Q.get_set_same row h.rows r x hx⟩
end Go.CE

namespace Go.CE
variable {GI : GInv}

/-- What may come of an invocation: a value at once, a call, a round of a loop. -/
def Upon (F : Fence) (P : Program) (next : Value → World → Prop) : Result Next → Prop
  | .ok (.value v) w' => next v w'
  | .ok (.enter f args) w' => CallsIn F 0 P f args w' fun
      | .returned v, w'' => next v w''
      | _, _ => False
  | .ok (.round l f tmps assign body) w' => RoundIn F 0 P l f tmps assign body w' fun
      | .returned v, w'' => next v w''
      | _, _ => False
  | _ => False
/-- The invocation of a target. -/
def goes (S : St) : Tgt → Array Value → Sem Next
  | .fn f, args => callFunc f args
  | .round r, args => Instr.yield (S.G r 0).blk args
/-- What is asked of the calls of the evaluator. -/
def CallOK (GI : GInv) (P : Program) (cf : CallF) : Prop :=
  ∀ (t : Tgt) (args : List AV) (h : Heap) (v : AV) (h' : Heap), cf t args h = some (v, h') →
    (∀ r, t = .round r → ∃ row, h.rows.get r = some row ∧ liveRow row 0) ∧
    ∀ (F : Fence), Free F → ∀ (S : St) (w : World) (vs : Array Value), At GI S h w → VL S args vs.toList →
      Upon F P (fun x w' => ∃ S', At GI S' h' w' ∧ Behind S h S' h' ∧ V S' v x) ((goes S t vs).run P w)

theorem okRows.apply {h : Heap} (hk : okRows h.rows) {at_ next : Nat} {u : Upd} : okRows (applyU h at_ next u).rows := by
  cases u with
  | keep => exact hk
  | new row => exact hk.set _ _
  | set r row => exact hk.set _ _
theorem lower_le (lo r : Nat) : lower lo r ≤ lo ∧ lower lo r ≤ r := by
  unfold lower
  cases hb : Nat.ble lo r with
  | true => rw [bsel_true]; exact ⟨Nat.le_refl _, ble_le hb⟩
  | false => rw [bsel_false]; have := ble_lt hb; exact ⟨by omega, Nat.le_refl _⟩
section
variable {P : Program} {E : Env} {F : Fence}

/-- A plain operation, alone. -/
theorem plain_step {S : St} {h : Heap} {w : World} {a : Tmps} {act : Act} {o : Oper} {v : AV} {u : Upd} (hE : EnvTypes P E) (hAt : At GI S h w) (hT : TmOK S a act.tmps)
    (hs : sem o.op E (ev a) h.rows.get h.next = some (v, u)) :
    ∃ n w' S', (execOp act.eval o).run P w = .ok n w' ∧ ((∃ x, n = .value x ∧ V S' v x) ∨ (n = .skip ∧ v = .undef)) ∧ At GI S' (applyU h h.next (Nat.succ h.next) u) w' ∧ Behind S h S' (applyU h h.next (Nat.succ h.next) u) := by
  rw [← hAt.look] at hs
  obtain ⟨S', w', n, hr, h1, h2, h3, h4, h5, h6, h7, hso⟩ := sem_sound hE hAt.rel hAt.hp (ev_V hT) (fun hk => Nat.lt_irrefl _ (hAt.kn _ hk)) (updOK_apply hAt.look h.next (Nat.succ h.next) u) hs
  refine ⟨n, w', S', hr, h7, ⟨h2, h1, h4, fun r hr => ?_, ?_, hAt.ok.apply, hAt.out.trans hso⟩, ⟨h3, fun r hr => ?_, ?_, ?_, ?_⟩⟩
  · rcases (h5 r).1 hr with hk | ⟨hn, rfl⟩
    · have := hAt.kn r hk
      cases u with
      | keep => exact this
      | new row => show r < Nat.succ h.next; omega
      | set _ _ => exact this
    · cases u with
      | new row => exact Nat.lt_succ_self _
      | _ => exact hn.elim
  · exact hAt.met.ext h3
  · rcases (h5 r).1 hr with hk | ⟨hn, rfl⟩
    · exact .inl hk
    · cases u with
      | new row => exact .inr ⟨Nat.le_refl _, Nat.lt_succ_self _⟩
      | _ => exact hn.elim
  · refine h6 _ ?_
    cases u with
    | set r row => exact (lower_le h.lo r).2
    | _ => trivial
  · cases u with
    | set r row => exact (lower_le h.lo r).1
    | _ => exact Nat.le_refl _
  · cases u with
    | new row => exact Nat.le_succ _
    | _ => exact Nat.le_refl _
theorem sem_not_call {op : Op} {ρ : Operand → AV} {look : Look} {at_ : Nat} {r : AV × Upd} (h : sem op E ρ look at_ = some r) : ∀ c, op ≠ .defer c := by
  intro c e; subst e; cases h
theorem V_skip {S : St} {v : AV} (h : v = .undef) : V S v Go.undef := by subst h; exact V.undef

/-- The target of a call, and what the model does there. -/
theorem tgt_sound {S : St} {w : World} {a : Tmps} {act : Act} {o : Oper} {tg : Tmps → Option (Tgt × List AV)} {q : Tgt × List AV} (hT : TmOK S a act.tmps) (ht : tgt o.op = some tg) (hq : tg a = some q)
    (hlive : ∀ r, q.1 = .round r → S.live r 0) :
    (∀ c, o.op ≠ .defer c) ∧ ∃ vs : Array Value, VL S q.2 vs.toList ∧ (execOp act.eval o).run P w = (goes S q.1 vs).run P w := by
  cases ho : o.op <;> rw [ho] at ht <;> try (cases ht; done)
  rename_i c
  obtain ⟨f, args, ats⟩ := c
  cases f with
  | builtin b => cases ht
  | invoke x n => cases ht
  | value x =>
    have htg : tg = fun a => tgtX args a x := (Option.some.injEq _ _ ▸ ht : (fun a => tgtX args a x) = tg).symm
    subst htg
    refine ⟨fun c e => (by cases e), ?_⟩
    have hq' : tgtV (args.toList.map (ev a)) (ev a x) = some q := hq
    have hx := ev_V hT x
    unfold tgtV at hq'
    split at hq'
    · rename_i f b c he
      cases hq'
      rw [he] at hx; simp only [V] at hx
      obtain ⟨b', c', hx, hb, hc⟩ := hx
      refine ⟨b' ++ args.map act.eval ++ c', ?_, ?_⟩
      · rw [lapp_eq, lapp_eq]
        simp only [Array.toList_append, List.append_assoc, Array.toList_map]
        exact VL.append hb (VL.append (VL.mapOps (ev_V hT) _) hc)
      · unfold execOp
        rw [ho]
        simp only [resolve, hx, Deferred.ofValue, pure_bind, invoke, goes]
    · rename_i r he
      cases hq'
      rw [he] at hx; simp only [V] at hx
      obtain ⟨hk, B, hx, hB⟩ := hx
      have := hB (hlive r rfl); subst this
      refine ⟨args.map act.eval, by simp only [Array.toList_map]; exact VL.mapOps (ev_V hT) _, ?_⟩
      unfold execOp
      rw [ho]
      simp only [resolve, hx, Deferred.ofValue, pure_bind, invoke, goes]
      simp
    · cases hq'
end
end Go.CE

namespace Go.CE
variable {GI : GInv}
section
variable {P : Program} {E : Env} {F : Fence} {cf : CallF}

theorem Upon.uponIn {o : Oper} {act : Act} {next : Act → World → Prop} {Q : Exit → Act → World → Prop} {R : Value → World → Prop} {r : Result Next} (hF : Free F) (h : Upon F P R r)
    (hn : ∀ v w, R v w → next (act.put o.dst v) w) : o.uponIn F 0 P act next Q r := by
  cases r with
  | halt x w => exact h.elim
  | ok x w =>
    cases x <;> first | exact h.elim | skip
    case value v => exact hn v w h
    case enter f args => exact ⟨hF.one, CallsIn.mono h fun e w' he => by cases e <;> first | exact he.elim | exact hn _ _ he⟩
    case round l f tmps as body => exact ⟨hF.one, RoundIn.mono h fun e w' he => by cases e <;> first | exact he.elim | exact hn _ _ he⟩

/-- One operation, as the machine makes it. -/
theorem one_sound {S : St} {h : Heap} {w : World} {a : Tmps} {act : Act} {o : Oper} {ops : Array Oper} {k : Tmps → Heap → OR} {r : Tmps × Heap} {K : Act → World → Prop} {Q : Exit → Act → World → Prop} (hF : Free F) (hE : EnvTypes P E) (hC : CallOK GI P cf)
    (hAt : At GI S h w) (hT : TmOK S a act.tmps) (hd : ∀ d, o.dst = some d → d < act.tmps.size)
    (he : evOne E cf ops.toList o h.next (Nat.succ h.next) a h k = some r)
    (hK : ∀ (a' : Tmps) (h' : Heap) (S' : St) (act' : Act) (w' : World), k a' h' = some r → At GI S' h' w' → Behind S h S' h' → TmOK S' a' act'.tmps → act'.tmps.size = act.tmps.size → act'.defers = act.defers → K act' w') :
    if Region.wanted o (yielded ops act.tmps) then o.wpIn F 0 P act w K Q else (∀ f, o.about P w act.eval = some f → F.fn f) ∧ K (act.put o.dst Go.undef) w := by
  obtain ⟨b, h1, h2⟩ := obind_eq he
  rw [wanted_ok hT h1]
  cases b with
  | false =>
    exact ⟨fun f _ => hF.fn f, hK _ _ S _ w h2 hAt (Behind.refl S h) (hT.put V.undef hd) (put_size _ _ _) (put_defers' _ _ _)⟩
  | true =>
    show o.wpIn F 0 P act w K Q
    refine ⟨fun f _ => hF.fn f, ?_⟩
    rw [bsel_true] at h2
    cases ht : tgt o.op with
    | none =>
      rw [ht] at h2
      obtain ⟨p, h3, h4⟩ := obind_eq (show obind (sem o.op E (ev a) h.rows.get h.next) (fun p => applyK h h.next (Nat.succ h.next) p.2 fun h => k (putS a o.dst p.1) h) = some r from h2)
      obtain ⟨v, u⟩ := p
      rw [applyK_eq] at h4
      obtain ⟨n, w', S', hr, hv, hAt', hB⟩ := plain_step hE hAt hT h3
      rw [Oper.semAt_eq _ _ _ (sem_not_call h3), hr]
      rcases hv with ⟨x, rfl, hx⟩ | ⟨rfl, rfl⟩
      · exact hK _ _ S' _ w' h4 hAt' hB ((hT.ext hB.ext).put hx hd) (put_size _ _ _) (put_defers' _ _ _)
      · exact hK _ _ S' _ w' h4 hAt' hB ((hT.ext hB.ext).put V.undef hd) (put_size _ _ _) (put_defers' _ _ _)
    | some tg =>
      rw [ht] at h2
      obtain ⟨q, h3, h4⟩ := obind_eq (show obind (tg a) (fun q => obind (cf q.1 q.2 h) fun p => k (putS a o.dst p.1) p.2) = some r from h2)
      obtain ⟨p, h5, h6⟩ := obind_eq h4
      obtain ⟨v, h'⟩ := p
      obtain ⟨hlv, hmain⟩ := hC _ _ _ _ _ h5
      obtain ⟨hnd, vs, hvs, hrun⟩ := tgt_sound (w := w) hT ht h3 (fun r hr => by obtain ⟨row, ha, hb⟩ := hlv r hr; exact ⟨row, by rw [hAt.look]; exact ha, hb⟩)
      rw [Oper.semAt_eq _ _ _ hnd, hrun]
      refine (hmain F hF S w vs hAt hvs).uponIn hF fun x w' hx => ?_
      obtain ⟨S', hAt', hB, hv⟩ := hx
      exact hK _ _ S' _ w' h6 hAt' hB ((hT.ext hB.ext).put hv hd) (put_size _ _ _) (put_defers' _ _ _)
theorem wfOps_cons {n : Nat} {o : Oper} {l : List Oper} (h : wfOps n (o :: l) = true) : (∀ d, o.dst = some d → d < n) ∧ wfOps n l = true := by
  have h' : bsel (Option.rec (motive := fun _ => Bool) true (fun d => Nat.ble (Nat.succ d) n) o.dst) (wfOps n l) false = true := h
  cases hd : o.dst with
  | none => rw [hd] at h'; exact ⟨fun d e => (by cases e), h'⟩
  | some d =>
    rw [hd] at h'
    have h2 : bsel (Nat.ble (Nat.succ d) n) (wfOps n l) false = true := h'
    cases hb : Nat.ble (Nat.succ d) n with
    | false => rw [hb] at h2; cases h2
    | true => rw [hb] at h2; exact ⟨fun d' e => (by cases e; exact ble_le hb), h2⟩
/-- Operations in the order of the text. -/
theorem ops_sound {ops : Array Oper} {Q : Exit → Act → World → Prop} {n : Nat} (hF : Free F) (hE : EnvTypes P E) (hC : CallOK GI P cf) : ∀ (l : List Oper) (a : Tmps) (h : Heap) (a' : Tmps) (h' : Heap) (S : St) (w : World) (act : Act),
    evOps E cf ops.toList l a h = some (a', h') → wfOps n l = true → act.tmps.size = n → At GI S h w → TmOK S a act.tmps →
    (∀ (S' : St) (act' : Act) (w' : World), At GI S' h' w' → Behind S h S' h' → TmOK S' a' act'.tmps → act'.tmps.size = n → act'.defers = act.defers → Q .normal act' w') →
    wpListIn F 0 P ops Q l act w
  | [], a, h, a', h', S, w, act, he, _, hsz, hAt, hT, hQ => by
    cases he
    exact hQ S act w hAt (Behind.refl S h) hT hsz rfl
  | o :: l, a, h, a', h', S, w, act, he, hwf, hsz, hAt, hT, hQ => by
    obtain ⟨hd, hwf'⟩ := wfOps_cons hwf
    exact one_sound (K := wpListIn F 0 P ops Q l) hF hE hC hAt hT (fun d e => by rw [hsz]; exact hd d e) (show evOne E cf ops.toList o h.next (Nat.succ h.next) a h (evOps E cf ops.toList l) = some (a', h') from he)
      fun a1 h1 S1 act1 w1 hk hAt1 hB1 hT1 hs1 hd1 => ops_sound hF hE hC l a1 h1 a' h' S1 w1 act1 hk hwf' (hs1.trans hsz) hAt1 hT1
        fun S2 act2 w2 hAt2 hB2 hT2 hs2 hd2 => hQ S2 act2 w2 hAt2 (hB1.trans hB2 hAt.rel) hT2 hs2 (hd2.trans hd1)
end
end Go.CE

namespace Go.CE
variable {GI : GInv}

def markOf (D : Nat) : Deferred := { target := .collected D, args := #[] }
/-- The marks that loops have left among the deferred calls: the block of each, made since 'm0', holds no call. -/
def Marks (m0 : Nat) (S : St) (ds : List Deferred) : Prop := ∃ Ds : List Nat, ds = Ds.map markOf ∧ Ds.Nodup ∧ ∀ D ∈ Ds, m0 ≤ D ∧ S.imm D ∧ S.hp[D]? = some (.deferred (some []))
theorem Marks.ext {m0 : Nat} {S S' : St} (hx : Ext S S') {ds : List Deferred} (h : Marks m0 S ds) : Marks m0 S' ds := by
  obtain ⟨Ds, h1, h2, h3⟩ := h
  refine ⟨Ds, h1, h2, fun D hD => ?_⟩
  obtain ⟨h4, h5, h6⟩ := h3 D hD
  obtain ⟨h7, h8⟩ := hx.imm D h5
  exact ⟨h4, h7, h8.trans h6⟩
theorem Marks.nil {m0 : Nat} {S : St} : Marks m0 S [] := ⟨[], rfl, .nil, fun D hD => by cases hD⟩
def RoundIs (F : Fence) (S : St) : Option Nat → Prop
  | none => F.round = none
  | some r => ∃ l, F.round = some l ∧ S.known r 0 ∧ (S.live r 0 → (S.G r 0).blk = l)
theorem RoundIs.ext {F : Fence} {S S' : St} (hx : Ext S S') {ro : Option Nat} (h : RoundIs F S ro) : RoundIs F S' ro := by
  cases ro with
  | none => exact h
  | some r =>
    obtain ⟨l, h1, h2, h3⟩ := h
    refine ⟨l, h1, hx.known h2, fun hl => ?_⟩
    have h0 := hx.live h2 hl
    rw [hx.place r 0 h2.1 h0 hl]; exact h3 h0
def Fin (GI : GInv) (S : St) (h : Heap) (n m0 : Nat) (a' : Tmps) (h' : Heap) (act' : Act) (w' : World) : Prop :=
  ∃ S', At GI S' h' w' ∧ Behind S h S' h' ∧ TmOK S' a' act'.tmps ∧ act'.tmps.size = n ∧ Marks m0 S' act'.defers
def toExit : Ex → Exit
  | .normal => .normal
  | .exit id => .exit id
  | .ret => .ret
/-- The start of a piece of code. -/
structure Start (GI : GInv) (F : Fence) (S : St) (h : Heap) (ro : Option Nat) (n m0 : Nat) (a : Tmps) (act : Act) (w : World) : Prop where
  at_ : At GI S h w
  tm : TmOK S a act.tmps
  size : act.tmps.size = n
  marks : Marks m0 S act.defers
  round : RoundIs F S ro
  m0 : m0 ≤ S.hp.size
theorem Fin.start {F : Fence} {S : St} {h : Heap} {ro : Option Nat} {n m0 : Nat} {a : Tmps} {act : Act} {w : World} {a' : Tmps} {h' : Heap} {act' : Act} {w' : World} (hs : Start GI F S h ro n m0 a act w) (hf : Fin GI S h n m0 a' h' act' w') :
    ∃ S', Start GI F S' h' ro n m0 a' act' w' ∧ Behind S h S' h' := by
  obtain ⟨S', h1, h2, h3, h4, h5⟩ := hf
  exact ⟨S', ⟨h1, h3, h4, h5, hs.round.ext h2.ext, Nat.le_trans hs.m0 h2.ext.size⟩, h2⟩
theorem Fin.behind {S S' : St} {h h' h'' : Heap} {n m0 : Nat} {a'' : Tmps} {act'' : Act} {w'' : World} (hS : Rel S) (hB : Behind S h S' h') (hf : Fin GI S' h' n m0 a'' h'' act'' w'') : Fin GI S h n m0 a'' h'' act'' w'' := by
  obtain ⟨S'', h1, h2, h3, h4, h5⟩ := hf
  exact ⟨S'', h1, hB.trans h2 hS, h3, h4, h5⟩
section
variable {P : Program} {E : Env} {F : Fence} {cf : CallF} {L : Nat} {ro : Option Nat}

/-- What is asked of a region that draws its order. -/
def DrawOK (GI : GInv) (P : Program) (E : Env) (cf : CallF) : Prop :=
  ∀ (F : Fence), Free F → ∀ (id n : Nat) (ops : Array Oper) (a : Tmps) (h : Heap) (a' : Tmps) (h' : Heap) (S : St) (w : World) (act : Act) (Q : Exit → Act → World → Prop),
    goDraw E cf ops.toList a h = some (a', h') → wfOps n ops.toList = true → act.tmps.size = n → At GI S h w → TmOK S a act.tmps →
    (∀ (S' : St) (act' : Act) (w' : World), At GI S' h' w' → Behind S h S' h' → TmOK S' a' act'.tmps → act'.tmps.size = n → act'.defers = act.defers → Q .normal act' w') →
    (Code.region id ops true).wpIn F 0 P Q act w
/-- What is asked of a range over a function. -/
def RangeOK (GI : GInv) (P : Program) (E : Env) (cf : CallF) : Prop :=
  ∀ (F : Fence), Free F → ∀ (ro : Option Nat) (n m0 : Nat) (f : Operand) (ps : Array Tmp) (assign body : Code) (a : Tmps) (h : Heap) (e : Ex) (a' : Tmps) (h' : Heap) (S : St) (w : World) (act : Act) (Q : Exit → Act → World → Prop),
    rangeS E cf ro f ps assign body a h = some (e, a', h') → wfCode n (.rangeFunc f ps assign body) = true → Start GI F S h ro n m0 a act w →
    (∀ (act' : Act) (w' : World), Fin GI S h n m0 a' h' act' w' → Q (toExit e) act' w') →
    (Code.rangeFunc f ps assign body).wpIn F 0 P Q act w

theorem thenN_some {r : CR} {k : Tmps → Heap → CR} {z : Ex × Tmps × Heap} (h : thenN r k = some z) : ∃ e a h', r = some (e, a, h') ∧ ((e = .normal ∧ k a h' = some z) ∨ (e ≠ .normal ∧ z = (e, a, h'))) := by
  obtain ⟨p, h1, h2⟩ := obind_eq h
  obtain ⟨e, a, h'⟩ := p
  refine ⟨e, a, h', h1, ?_⟩
  cases e with
  | normal => exact .inl ⟨rfl, h2⟩
  | exit id => cases h2; exact .inr ⟨by simp, rfl⟩
  | ret => cases h2; exact .inr ⟨by simp, rfl⟩
theorem exit_then {e : Ex} {K : Act → World → Prop} {Q : Exit → Act → World → Prop} {act : Act} {w : World} (he : e ≠ .normal) (h : Q (toExit e) act w) : Exit.then K Q (toExit e) act w := by
  cases e with
  | normal => exact absurd rfl he
  | exit id => exact h
  | ret => exact h

def CodeOK (GI : GInv) (P : Program) (E : Env) (cf : CallF) (L : Nat) (F : Fence) (ro : Option Nat) (n m0 : Nat) (c : Code) : Prop :=
  ∀ (a : Tmps) (h : Heap) (e : Ex) (a' : Tmps) (h' : Heap) (S : St) (w : World) (act : Act) (Q : Exit → Act → World → Prop),
    evCode E cf L ro c a h = some (e, a', h') → Start GI F S h ro n m0 a act w →
    (∀ (act' : Act) (w' : World), Fin GI S h n m0 a' h' act' w' → Q (toExit e) act' w') → c.wpIn F 0 P Q act w
theorem then_sound {n m0 : Nat} {x : Code} {k : Tmps → Heap → CR} {K : Act → World → Prop} (hx : CodeOK GI P E cf L F ro n m0 x) {a : Tmps} {h : Heap} {e : Ex} {a' : Tmps} {h' : Heap} {S : St} {w : World} {act : Act} {Q : Exit → Act → World → Prop}
    (he : thenN (evCode E cf L ro x a h) k = some (e, a', h')) (hs : Start GI F S h ro n m0 a act w) (hQ : ∀ (act' : Act) (w' : World), Fin GI S h n m0 a' h' act' w' → Q (toExit e) act' w')
    (hk : ∀ (a1 : Tmps) (h1 : Heap) (S1 : St) (act1 : Act) (w1 : World), k a1 h1 = some (e, a', h') → Start GI F S1 h1 ro n m0 a1 act1 w1 → (∀ (act' : Act) (w' : World), Fin GI S1 h1 n m0 a' h' act' w' → Q (toExit e) act' w') → K act1 w1) :
    x.wpIn F 0 P (Exit.then K Q) act w := by
  obtain ⟨e1, a1, h1, hr, hc⟩ := thenN_some he
  refine hx a h e1 a1 h1 S w act _ hr hs fun act1 w1 hf => ?_
  rcases hc with ⟨rfl, hk1⟩ | ⟨hne, hz⟩
  · obtain ⟨S1, hs1, hB⟩ := hf.start hs
    exact hk a1 h1 S1 act1 w1 hk1 hs1 fun act' w' hf' => hQ act' w' (hf'.behind hs.at_.rel hB)
  · cases hz
    exact exit_then hne (hQ act1 w1 hf)
theorem iter_sound {n m0 : Nat} {c : Code} (hc : CodeOK GI P E cf L F ro n m0 c) : ∀ (m : Nat) (a : Tmps) (h : Heap) (e : Ex) (a' : Tmps) (h' : Heap) (S : St) (w : World) (act : Act) (Q : Exit → Act → World → Prop),
    iter (evCode E cf L ro c) m a h = some (e, a', h') → Start GI F S h ro n m0 a act w → (∀ (act' : Act) (w' : World), Fin GI S h n m0 a' h' act' w' → Q (toExit e) act' w') → Code.roundsIn F 0 P c Q m act w
  | 0, _, _, _, _, _, _, _, _, _, he, _, _ => by cases he
  | m + 1, a, h, e, a', h', S, w, act, Q, he, hs, hQ =>
    then_sound (K := Code.roundsIn F 0 P c Q m) hc (show thenN (evCode E cf L ro c a h) (iter (evCode E cf L ro c) m) = some (e, a', h') from he) hs hQ
      fun a1 h1 S1 act1 w1 hk hs1 hQ1 => iter_sound hc m a1 h1 e a' h' S1 w1 act1 Q hk hs1 hQ1
theorem wf_two {x y : Bool} (h : bsel x y false = true) : x = true ∧ y = true := by cases x <;> simp_all [bsel]
theorem code_sound (hF : Free F) (hE : EnvTypes P E) (hC : CallOK GI P cf) (hD : DrawOK GI P E cf) (hR : RangeOK GI P E cf) {n m0 : Nat} : ∀ (c : Code), wfCode n c = true → CodeOK GI P E cf L F ro n m0 c
  | .skip, _ => fun a h e a' h' S w act Q he hs hQ => by
    cases he
    exact wpIn_skip (hQ _ _ ⟨S, hs.at_, Behind.refl S h, hs.tm, hs.size, hs.marks⟩)
  | .exit id, _ => fun a h e a' h' S w act Q he hs hQ => by
    cases he
    exact wpIn_exit (hQ _ _ ⟨S, hs.at_, Behind.refl S h, hs.tm, hs.size, hs.marks⟩)
  | .ret, _ => fun a h e a' h' S w act Q he hs hQ => by
    cases he
    exact wpIn_ret (hQ _ _ ⟨S, hs.at_, Behind.refl S h, hs.tm, hs.size, hs.marks⟩)
  | .region id ops d, hwf => fun a h e a' h' S w act Q he hs hQ => by
    obtain ⟨p, h1, h2⟩ := obind_eq (show obind (bsel d (goDraw E cf ops.toList a h) (evOps E cf ops.toList ops.toList a h)) (fun p => some (Ex.normal, p)) = some (e, a', h') from he)
    cases h2
    have hfin : ∀ (S' : St) (act' : Act) (w' : World), At GI S' h' w' → Behind S h S' h' → TmOK S' a' act'.tmps → act'.tmps.size = n → act'.defers = act.defers → Q .normal act' w' :=
      fun S' act' w' x1 x2 x3 x4 x5 => hQ act' w' ⟨S', x1, x2, x3, x4, by rw [x5]; exact hs.marks.ext x2.ext⟩
    cases d with
    | true => exact hD F hF id n ops a h a' h' S w act Q h1 hwf hs.size hs.at_ hs.tm hfin
    | false => exact wpIn_region_list (ops_sound hF hE hC ops.toList a h a' h' S w act h1 hwf hs.size hs.at_ hs.tm hfin)
  | .seq x y, hwf => fun a h e a' h' S w act Q he hs hQ => by
    obtain ⟨hx, hy⟩ := wf_two (show bsel (wfCode n x) (wfCode n y) false = true from hwf)
    exact wpIn_seq (then_sound (code_sound hF hE hC hD hR x hx) (show thenN (evCode E cf L ro x a h) (evCode E cf L ro y) = some (e, a', h') from he) hs hQ
      fun a1 h1 S1 act1 w1 hk hs1 hQ1 => code_sound hF hE hC hD hR y hy a1 h1 e a' h' S1 w1 act1 Q hk hs1 hQ1)
  | .cond c x y, hwf => fun a h e a' h' S w act Q he hs hQ => by
    obtain ⟨hx, hy⟩ := wf_two (show bsel (wfCode n x) (wfCode n y) false = true from hwf)
    have he' : condS (ev a c) (evCode E cf L ro x a h) (evCode E cf L ro y a h) = some (e, a', h') := he
    have hv := ev_V hs.tm c
    unfold condS at he'
    split at he'
    · rename_i b hb
      rw [hb] at hv; simp only [V] at hv
      refine wpIn_cond hv ?_
      cases b with
      | true => exact code_sound hF hE hC hD hR x hx a h e a' h' S w act Q he' hs hQ
      | false => exact code_sound hF hE hC hD hR y hy a h e a' h' S w act Q he' hs hQ
    · cases he'
  | .block id c, hwf => fun a h e a' h' S w act Q he hs hQ => by
    obtain ⟨p, h1, h2⟩ := obind_eq (show obind (evCode E cf L ro c a h) (fun p => Ex.rec (motive := fun _ => CR) (some (.normal, p.2)) (fun i => some (bsel (Nat.beq i id) .normal (.exit i), p.2)) (some (.ret, p.2)) p.1) = some (e, a', h') from he)
    obtain ⟨e1, a1, h1'⟩ := p
    refine wpIn_block (code_sound hF hE hC hD hR c hwf a h e1 a1 h1' S w act _ h1 hs fun act' w' hf => ?_)
    cases e1 with
    | normal => cases h2; exact hQ act' w' hf
    | ret => cases h2; exact hQ act' w' hf
    | exit i =>
      cases h2
      show (if i = id then Q .normal act' w' else Q (.exit i) act' w')
      have := hQ act' w' hf
      cases hb : Nat.beq i id with
      | true => rw [hb] at this; rw [if_pos (beq_eq hb)]; exact this
      | false => rw [hb] at this; rw [if_neg (beq_ne hb)]; exact this
  | .loop c, hwf => fun a h e a' h' S w act Q he hs hQ =>
    wpIn_loop_rounds L (iter_sound (code_sound hF hE hC hD hR c hwf) L a h e a' h' S w act Q he hs hQ)
  | .rangeFunc f ps as body, hwf => fun a h e a' h' S w act Q he hs hQ => hR F hF ro n m0 f ps as body a h e a' h' S w act Q he hwf hs hQ
  | .scope _, _ => fun a h e a' h' S w act Q he hs hQ => by cases he
  | .label _, _ => fun a h e a' h' S w act Q he hs hQ => by cases he
  | .goto _, _ => fun a h e a' h' S w act Q he hs hQ => by cases he
  | .refuse _, _ => fun a h e a' h' S w act Q he hs hQ => by cases he
end
end Go.CE

namespace Go.CE
section
variable {S0 S : St} {base : Nat}

/-- The state behind a call whose own rows are forgotten. -/
def St.back (S0 S : St) : St := ⟨S0.look, S0.kn, S.G, S.hp⟩
structure Quiet (S0 S : St) (base : Nat) : Prop where
  rel0 : Rel S0
  rel : Rel S
  ext : Ext S0 S
  kn0 : ∀ r, S0.kn r → r < base
  kn : ∀ r, S.kn r → S0.kn r ∨ base ≤ r
  keep : Keep base S0 S
theorem Quiet.look (q : Quiet S0 S base) {r : Nat} (h : S0.kn r) : S.look r = S0.look r := (q.keep r h (q.kn0 r h)).1
theorem Quiet.live (q : Quiet S0 S base) {r g : Nat} (h : (S0.back S).live r g) : S.live r g ∧ S0.live r g ∧ r < base := by
  obtain ⟨row, h1, h2⟩ := h
  have hk := q.rel0.lt r row h1
  exact ⟨⟨row, (q.look hk).trans h1, h2⟩, ⟨row, h1, h2⟩, q.kn0 r hk⟩
theorem Quiet.known (q : Quiet S0 S base) {r g : Nat} (hr : r < base) (h : S.known r g) : (S0.back S).known r g := by
  have hk : S0.kn r := by
    rcases q.kn r h.1 with h1 | h1
    · exact h1
    · omega
  exact ⟨hk, fun row hrow => h.2 row ((q.look hk).trans hrow)⟩
theorem Quiet.imm (q : Quiet S0 S base) {B : Nat} (h : S.imm B) : (S0.back S).imm B := ⟨h.1, fun r g hl => h.2 r g (q.live hl).1⟩
theorem Quiet.immRow (q : Quiet S0 S base) {r g : Nat} (hr : base ≤ r) (h : S.live r g) : (S0.back S).imm (S.G r g).blk := by
  refine ⟨q.rel.blk r g h, fun r' g' hl e => ?_⟩
  obtain ⟨h1, _, h3⟩ := q.live hl
  have := (q.rel.inj r' g' r g h1 h e).1
  omega
theorem Quiet.back_ext (q : Quiet S0 S base) : Ext S0 (S0.back S) := by
  refine ⟨fun _ h => h, fun r row _ h => ⟨row, h, Nat.le_refl _, Nat.le_refl _⟩, fun r g hk hl _ => ?_, q.ext.size, fun B hB => ⟨?_, (q.ext.imm B hB).2⟩, fun r g hk hl _ => ?_⟩
  · exact ((q.keep r hk (q.kn0 r hk)).2 g hl).1
  · refine ⟨Nat.lt_of_lt_of_le hB.1 q.ext.size, fun r g hl e => ?_⟩
    obtain ⟨_, h2, h3⟩ := q.live hl
    obtain ⟨row, hr, _⟩ := h2
    have hk := q.rel0.lt r row hr
    have h2' : S0.live r g := (q.live hl).2.1
    have := ((q.keep r hk h3).2 g h2').1
    have e' : (S.G r g).blk = B := e
    rw [this] at e'
    exact hB.2 r g h2' e'
  · show hlen S0.hp _ ≤ hlen S.hp _
    unfold hlen
    rw [((q.keep r hk (q.kn0 r hk)).2 g hl).2]; exact Nat.le_refl _
theorem Quiet.back_rel (q : Quiet S0 S base) : Rel (S0.back S) := by
  refine ⟨fun r row h => q.rel0.lt r row h, fun r g hl => q.rel.blk r g (q.live hl).1, fun r g r' g' hl hl' e => q.rel.inj r g r' g' (q.live hl).1 (q.live hl').1 e, fun r row h => ?_⟩
  have hk := q.rel0.lt r row h
  refine RowOK.ext q.back_ext (fun g hg => ?_) (fun g hg => ?_) (q.rel0.row r row h)
  · exact ((q.keep r hk (q.kn0 r hk)).2 g ⟨row, h, hg⟩).1
  · exact ((q.keep r hk (q.kn0 r hk)).2 g ⟨row, h, hg⟩).2

theorem mapO_VL {S' : St} {fz : AV → Option AV} (ih : ∀ (v v' : AV) (x : Value), V S v x → fz v = some v' → V S' v' x) : ∀ {l l' : List AV} {vs : List Value}, VL S l vs → mapO fz l = some l' → VL S' l' vs
  | [], l', [], _, h => by rw [mapO_nil h]; simp [VL]
  | a :: l, l', v :: vs, hv, h => by
    obtain ⟨b, r, h1, h2, h3⟩ := mapO_cons h
    subst h3
    simp only [VL] at hv ⊢
    exact ⟨ih a b v hv.1 h1, mapO_VL ih hv.2 h2⟩
  | [], _, _ :: _, hv, _ => by simp [VL] at hv
  | _ :: _, _, [], hv, _ => by simp [VL] at hv
theorem mapO_length {α β : Type} {f : α → Option β} : ∀ {l : List α} {r : List β}, mapO f l = some r → r.length = l.length
  | [], r, h => by rw [mapO_nil h]; rfl
  | a :: l, r, h => by
    obtain ⟨b, r', h1, h2, h3⟩ := mapO_cons h
    subst h3
    simp [mapO_length h2]
theorem freezeRow_sound (q : Quiet S0 S base) {fz : AV → Option AV} (ih : ∀ (v v' : AV) (x : Value), V S v x → fz v = some v' → V (S0.back S) v' x) {v v' : AV} {x : Value} (hv : V S v x)
    (h : freezeRow base fz S.look v = some v') : V (S0.back S) v' x := by
  unfold freezeRow at h
  split at h
  · -- a slice
    rename_i r g o m e
    simp only [V] at hv
    obtain ⟨hk, ad, cap, rfl, hn, hlv⟩ := hv
    cases hb : Nat.ble base r with
    | false =>
      rw [hb, bsel_false] at h
      cases h
      have hr := ble_lt hb
      simp only [V]
      refine ⟨q.known hr hk, ad, cap, rfl, hn, fun hl => hlv (q.live hl).1⟩
    | true =>
      rw [hb, bsel_true] at h
      obtain ⟨cs, h1, h2⟩ := obind_eq h
      obtain ⟨cs', h3, h4⟩ := obind_eq h2
      cases h4
      obtain ⟨hlive, h5, vs, h6, h7, h8⟩ := readRow q.rel hk h1 (fun hl => ⟨(hlv hl).1, (hlv hl).2.1⟩)
      simp only [V]
      refine ⟨ad, cap, vs, rfl, hn.1, mapO_VL ih h6 h3, ?_⟩
      rcases (hlv hlive).2.2 with h0 | ⟨rfl, _⟩
      · left
        have hm : m = 0 := by omega
        subst hm
        have h5' : cs.length = 0 * e := h5
        rw [Nat.zero_mul] at h5'
        exact List.length_eq_zero_iff.1 (by rw [mapO_length h3, h5'])
      · exact .inr ⟨rfl, q.immRow (ble_le hb) hlive, h8⟩
  · -- a map
    rename_i r
    simp only [V] at hv
    obtain ⟨hk, B, rfl, hlv⟩ := hv
    cases hb : Nat.ble base r with
    | false =>
      rw [hb, bsel_false] at h
      cases h
      have hr := ble_lt hb
      simp only [V]
      exact ⟨q.known hr hk, B, rfl, fun hl => hlv (q.live hl).1⟩
    | true =>
      rw [hb, bsel_true] at h
      obtain ⟨es, h1, h2⟩ := obind_eq h
      obtain ⟨ks, h3, h4⟩ := obind_eq h2
      obtain ⟨vs, h5, h6⟩ := obind_eq h4
      cases h6
      obtain ⟨row, h7, h8⟩ := obind_eq h1
      have := mapRow_some h8; subst this
      have hlive : S.live r 0 := ⟨_, h7, rfl⟩
      obtain ⟨ms, cl, h9, h10, h11⟩ := q.rel.row r _ h7
      have := hlv hlive; subst this
      simp only [V]
      exact ⟨_, ms, cl, rfl, q.immRow (ble_le hb) hlive, h9, mapO_VL ih h10 h3, mapO_VL ih h11 h5⟩
  · -- a pointer
    rename_i r g o m
    simp only [V] at hv
    obtain ⟨hk, ad, rfl, hlv⟩ := hv
    cases hb : Nat.ble base r with
    | false =>
      rw [hb, bsel_false] at h
      cases h
      have hr := ble_lt hb
      simp only [V]
      exact ⟨q.known hr hk, ad, rfl, fun hl => hlv (q.live hl).1⟩
    | true =>
      rw [hb, bsel_true] at h
      obtain ⟨cs, h1, h2⟩ := obind_eq h
      obtain ⟨cs', h3, h4⟩ := obind_eq h2
      cases h4
      obtain ⟨hlive, h5, vs, h6, h7, h8⟩ := readRow q.rel hk h1 (fun hl => ⟨(hlv hl).2.1, (hlv hl).2.2⟩)
      simp only [V]
      exact ⟨_, o - (S.G r g).sh, vs, by rw [(hlv hlive).1]; rfl, q.immRow (ble_le hb) hlive, h8, mapO_VL ih h6 h3⟩
  · obtain ⟨cs', h1, h2⟩ := obind_eq h
    cases h2
    simp only [V] at hv ⊢
    obtain ⟨vs, rfl, h3, h4⟩ := hv
    exact ⟨vs, rfl, mapO_VL ih h3 h1, h4⟩
  · obtain ⟨cs', h1, h2⟩ := obind_eq h
    cases h2
    simp only [V] at hv ⊢
    obtain ⟨vs, rfl, h3⟩ := hv
    exact ⟨vs, rfl, mapO_VL ih h3 h1⟩
  · obtain ⟨b', h1, h2⟩ := obind_eq h
    obtain ⟨c', h3, h4⟩ := obind_eq h2
    cases h4
    simp only [V] at hv ⊢
    obtain ⟨bs, cs, rfl, h5, h6⟩ := hv
    exact ⟨bs, cs, rfl, mapO_VL ih h5 h1, mapO_VL ih h6 h3⟩
  · obtain ⟨v1, h1, h2⟩ := obind_eq h
    cases h2
    simp only [V] at hv ⊢
    obtain ⟨x', rfl, h3⟩ := hv
    exact ⟨x', rfl, ih _ _ _ h3 h1⟩
  · rename_i r
    simp only [V] at hv
    obtain ⟨hk, B, rfl, hlv⟩ := hv
    cases hb : Nat.ble base r with
    | true => rw [hb, bsel_true] at h; cases h
    | false =>
      rw [hb, bsel_false] at h
      cases h
      have hr := ble_lt hb
      simp only [V]
      exact ⟨q.known hr hk, B, rfl, fun hl => hlv (q.live hl).1⟩
  · obtain ⟨cs', h1, h2⟩ := obind_eq h
    cases h2
    simp only [V] at hv ⊢
    obtain ⟨B, s, vs, rfl, h3, h4, h5⟩ := hv
    exact ⟨B, s, vs, rfl, q.imm h3, h4, mapO_VL ih h5 h1⟩
  · obtain ⟨cs', h1, h2⟩ := obind_eq h
    cases h2
    simp only [V] at hv ⊢
    obtain ⟨ad, cap, vs, rfl, h3, h4, h5⟩ := hv
    refine ⟨ad, cap, vs, rfl, h3, mapO_VL ih h4 h1, ?_⟩
    rcases h5 with h5 | ⟨h5, h6, h7⟩
    · subst h5; exact .inl (mapO_nil h1)
    · exact .inr ⟨h5, q.imm h6, h7⟩
  · obtain ⟨ks, h1, h2⟩ := obind_eq h
    obtain ⟨us, h3, h4⟩ := obind_eq h2
    cases h4
    simp only [V] at hv ⊢
    obtain ⟨B, es, cl, rfl, h5, h6, h7, h8⟩ := hv
    exact ⟨B, es, cl, rfl, q.imm h5, h6, mapO_VL ih h7 h1, mapO_VL ih h8 h3⟩
  · cases h
    rename_i hsl hm hp hag htu hfu hif hyi hre hps hpm
    cases v
    case ptr r g o m => exact (hp r g o m rfl).elim
    case slice r g o m e => exact (hsl r g o m e rfl).elim
    all_goals first
      | (simp only [V]; done)
      | (simp only [V] at hv ⊢; exact hv)
      | (simp_all; done)
theorem freeze_sound (q : Quiet S0 S base) : ∀ (n : Nat) (v v' : AV) (x : Value), V S v x → freeze S.look base n v = some v' → V (S0.back S) v' x
  | 0, _, _, _, _, h => by cases h
  | n + 1, v, v', x, hv, h => freezeRow_sound q (fz := freeze S.look base n) (freeze_sound q n) hv h
end
end Go.CE

namespace Go.CE

/-- The same state, but that blocks of deferred calls have been taken. -/
structure Taken (S S1 : St) : Prop where
  look : S1.look = S.look
  kn : S1.kn = S.kn
  G : S1.G = S.G
  size : S1.hp.size = S.hp.size
  hp : ∀ B, S1.hp[B]? = S.hp[B]? ∨ (S.imm B ∧ ∃ ds, S.hp[B]? = some (.deferred ds))
theorem Taken.live {S S1 : St} (t : Taken S S1) {r g : Nat} : S1.live r g ↔ S.live r g := by unfold St.live; rw [t.look]
theorem Taken.imm {S S1 : St} (t : Taken S S1) {B : Nat} : S1.imm B ↔ S.imm B := by
  unfold St.imm
  rw [t.size, t.G]
  exact ⟨fun h => ⟨h.1, fun r g hl => h.2 r g (t.live.2 hl)⟩, fun h => ⟨h.1, fun r g hl => h.2 r g (t.live.1 hl)⟩⟩
theorem Taken.refl (S : St) : Taken S S := ⟨rfl, rfl, rfl, rfl, fun _ => .inl rfl⟩
theorem Taken.row {S S1 : St} (t : Taken S S1) {r g : Nat} (h : S.live r g) : S1.hp[(S.G r g).blk]? = S.hp[(S.G r g).blk]? := by
  rcases t.hp (S.G r g).blk with h1 | ⟨h1, _⟩
  · exact h1
  · exact absurd rfl (h1.2 r g h)
theorem Taken.weak {S S1 : St} (t : Taken S S1) : ExtW S S1 := by
  refine ⟨fun r h => by rw [t.kn]; exact h, fun r row _ h => ⟨row, by rw [← t.look]; exact h, Nat.le_refl _, Nat.le_refl _⟩, fun r g _ _ _ => by rw [t.G], fun B hB => ⟨t.imm.2 hB, ?_⟩, fun r g _ hl _ => ?_⟩
  · rcases t.hp B with h | ⟨_, h⟩
    · exact .inl h
    · exact .inr h
  · unfold hlen; rw [t.row hl]; exact Nat.le_refl _
theorem Taken.rel {S S1 : St} (t : Taken S S1) (h : Rel S) : Rel S1 := by
  refine ⟨fun r row hl => by rw [t.kn]; exact h.lt r row (by rw [← t.look]; exact hl), fun r g hl => by rw [t.size, t.G]; exact h.blk r g (t.live.1 hl), fun r g r' g' hl hl' e => ?_, fun r row hl => ?_⟩
  · rw [t.G] at e ⊢; exact h.inj r g r' g' (t.live.1 hl) (t.live.1 hl') e
  · rw [t.look] at hl
    exact RowOK.extW t.weak (fun g _ => by rw [t.G]) (fun g hg => t.row ⟨row, hl, hg⟩) (h.row r row hl)
theorem Taken.trans {S S1 S2 : St} (t : Taken S S1) (t' : Taken S1 S2) : Taken S S2 := by
  refine ⟨t'.look.trans t.look, t'.kn.trans t.kn, t'.G.trans t.G, t'.size.trans t.size, fun B => ?_⟩
  rcases t'.hp B with h | ⟨h, ds, hd⟩
  · rcases t.hp B with h1 | h1
    · exact .inl (h.trans h1)
    · exact .inr h1
  · rcases t.hp B with h1 | h1
    · exact .inr ⟨t.imm.1 h, ds, h1 ▸ hd⟩
    · exact .inr h1
theorem Taken.ext {S0 S S1 : St} (t : Taken S S1) (hx : Ext S0 S) (hb : ∀ B, B < S0.hp.size → S1.hp[B]? = S.hp[B]?) : Ext S0 S1 := by
  refine ⟨fun r h => by rw [t.kn]; exact hx.kn r h, fun r row hr hl => hx.row r row hr (by rw [← t.look]; exact hl), fun r g hr hl hl' => by rw [t.G]; exact hx.place r g hr hl (t.live.1 hl'), by rw [t.size]; exact hx.size, fun B hB => ?_, fun r g hr hl hl' => ?_⟩
  · obtain ⟨h1, h2⟩ := hx.imm B hB
    exact ⟨t.imm.2 h1, (hb B hB.1).trans h2⟩
  · have hp := hx.place r g hr hl (t.live.1 hl')
    refine Nat.le_trans (hx.len r g hr hl (t.live.1 hl')) ?_
    unfold hlen
    have := t.row (t.live.1 hl')
    rw [hp] at this
    rw [this]; exact Nat.le_refl _
theorem Taken.keep {S0 S S1 : St} {lo : Nat} (t : Taken S S1) (h0 : Rel S0) (hk : Keep lo S0 S) : Keep lo S0 S1 := by
  intro r hr hlo
  obtain ⟨h1, h2⟩ := hk r hr hlo
  refine ⟨by rw [t.look]; exact h1, fun g hg => ?_⟩
  obtain ⟨h3, h4⟩ := h2 g hg
  have hl : S.live r g := by obtain ⟨row, ha, hb⟩ := hg; exact ⟨row, h1.trans ha, hb⟩
  have := t.row hl
  rw [h3] at this
  exact ⟨by rw [t.G]; exact h3, this.trans h4⟩
section
variable {P : Program} {F : Fence}

theorem take_one {S : St} {w : World} {D : Nat} (hw : S.hp = w.heap) (hi : S.imm D) (hd : S.hp[D]? = some (.deferred (some []))) :
    ∃ w', (Instr.takeDeferred D).run P w = .ok [] w' ∧ w'.heap = w.heap.setIfInBounds D (.deferred none) ∧ Taken S ⟨S.look, S.kn, S.G, w'.heap⟩ ∧ SameOut w w' := by
  have hd' : w.heap[D]? = some (.deferred (some [])) := by rw [← hw]; exact hd
  refine ⟨_, run_takeDeferred hd', rfl, ⟨rfl, rfl, rfl, ?_, fun B => ?_⟩, ⟨rfl, rfl⟩⟩
  · show (w.heap.setIfInBounds D (.deferred none)).size = _; rw [hw]; simp
  · by_cases h : B = D
    · subst h; exact .inr ⟨hi, some [], hd⟩
    · left
      show (w.heap.setIfInBounds D (.deferred none))[B]? = _
      rw [hw, Array.getElem?_setIfInBounds_ne (Ne.symm h)]
/-- The marks are come to, one behind the other. -/
theorem leave_marks {m0 : Nat} {fn : Func} {tmps : Array Value} {R : Ending → World → Prop} : ∀ (Ds : List Nat) (S : St) (w : World), S.hp = w.heap → Ds.Nodup → (∀ D ∈ Ds, m0 ≤ D ∧ S.imm D ∧ S.hp[D]? = some (.deferred (some []))) →
    (∀ (S1 : St) (w1 : World), S1.hp = w1.heap → Taken S S1 → (∀ B, B < m0 → S1.hp[B]? = S.hp[B]?) → SameOut w w1 → ∃ v, (results fn tmps).run P w1 = .ok v w1 ∧ R (.returned v) w1) →
    LeavesInM F 0 P fn tmps R (Ds.map markOf) .returning w
  | [], S, w, hw, _, _, hR => hR S w hw (Taken.refl S) (fun _ _ => rfl) (SameOut.refl w)
  | D :: Ds, S, w, hw, hn, hD, hR => by
    obtain ⟨hd0, hd1, hd2⟩ := hD D (by simp)
    obtain ⟨w', hr, hh, ht, hso⟩ := take_one (P := P) hw hd1 hd2
    obtain ⟨hn1, hn2⟩ := List.nodup_cons.1 hn
    have hne : ∀ B, B ≠ D → w'.heap[B]? = S.hp[B]? := fun B hB => by rw [hh, hw, Array.getElem?_setIfInBounds_ne (Ne.symm hB)]
    refine ⟨by simp, .inl ⟨D, w', rfl, hr, leave_marks (m0 := m0) Ds ⟨S.look, S.kn, S.G, w'.heap⟩ w' rfl hn2 (fun D' hD' => ?_) fun S1 w1 h1 h2 h3 h4 => hR S1 w1 h1 (ht.trans h2) (fun B hB => ?_) (hso.trans h4)⟩⟩
    · obtain ⟨a, b, c⟩ := hD D' (by simp [hD'])
      have : D' ≠ D := fun e => hn1 (e ▸ hD')
      exact ⟨a, ht.imm.2 b, (hne D' this).trans c⟩
    · exact (h3 B hB).trans (hne B (by omega))
end
section
variable {P : Program} {E : Env} {S : St} {w : World}

/-- The results of a function. -/
theorem res_sound (hE : EnvTypes P E) (hS : Rel S) (hw : S.hp = w.heap) {h : Heap} (hl : S.look = h.rows.get) {a : Tmps} {tmps : Array Value} (hT : TmOK S a tmps) {r : ResultVar} {v : AV} (hr : resOne E h a r = some v) :
    ∃ x, ((match r with | .tmp t => pure (tmps.getD t Go.undef) | .cell b t => do loadVar t (← asAddr (tmps.getD b Go.undef)) : Sem Value)).run P w = .ok x w ∧ V S v x := by
  cases r with
  | tmp t => cases hr; exact ⟨_, by simp, hT t⟩
  | cell b t =>
    obtain ⟨ti, h1, h2⟩ := obind_eq (show obind (E.ti.get t) (fun ti => loadS h.rows.get ti.agg ti.size (orUndef (a.get b))) = some v from hr)
    have := hE t ti h1; subst this
    rw [← hl] at h2
    obtain ⟨B, k, l, vs, hx, h4, h5, h6, h7, h8⟩ := loadS_sound hS (hT b) h2
    have hne : (mkTI P t).size ≠ 0 ∨ (mkTI P t).agg = true ∨ (mkTI P t).kind ≠ .other := by
      rcases one_some h4 with ⟨ha, _⟩ | ⟨ha, hl1⟩
      · exact .inr (.inl ha)
      · refine .inl ?_; rw [← h5, hl1]; simp
    obtain ⟨i, d, hi, hd, hs, ha, _, _⟩ := mkTI_size hne
    have hlen : vs.length = i.size := by rw [← h6.length, h5, hs]
    have hone := one_V h4 h6 h7
    obtain ⟨y, hr, hy⟩ := loadVar_run (w := w) (B := B) (k := k) (vs := vs) hi hd hlen (fun i v hi => by rw [← hw]; exact (h8 i v hi).1) (fun hn => by
      rcases hone with ⟨h9, _⟩ | ⟨_, z, h9, _⟩
      · rw [ha, hn] at h9; cases h9
      · exact ⟨z, h9⟩)
    refine ⟨y, ?_, ?_⟩
    · simp only [hx, asAddr, pure_bind, hr]
    · rcases hone with ⟨h9, h10⟩ | ⟨h9, z, h10, h11⟩ <;> rcases hy with ⟨h12, h13⟩ | ⟨h12, h13⟩
      · rw [h13]; exact h10
      · rw [ha, h12] at h9; cases h9
      · rw [ha, h12] at h9; cases h9
      · rw [h10] at h13; cases h13; exact h11
theorem packR_ok {l : List AV} {vs : List Value} (h : VL S l vs) : V S (packR l) (if h : vs.toArray.size = 1 then vs.toArray[0] else .tuple vs.toArray) := by
  match l, vs, h with
  | [a], [x], h => simp only [VL, and_true] at h; exact h
  | [], [], _ => show V S (.tuple []) _; simp only [V]; exact ⟨_, rfl, by simp [VL]⟩
  | a :: b :: l, x :: y :: vs, h => show V S (.tuple (a :: b :: l)) _; simp only [V]; exact ⟨(x :: y :: vs).toArray, by simp, h⟩
  | [], _ :: _, h => simp [VL] at h
  | _ :: _, [], h => simp [VL] at h
  | [_], _ :: _ :: _, h => simp [VL] at h
  | _ :: _ :: _, [_], h => simp [VL] at h
theorem results_sound (hE : EnvTypes P E) (hS : Rel S) (hw : S.hp = w.heap) {h : Heap} (hl : S.look = h.rows.get) {a : Tmps} {tmps : Array Value} (hT : TmOK S a tmps) {fn : Func} {l : List AV} (hr : mapO (resOne E h a) fn.results.toList = some l) :
    ∃ x, (results fn tmps).run P w = .ok x w ∧ V S (packR l) x := by
  have key : ∀ (rs : List ResultVar) (l : List AV), mapO (resOne E h a) rs = some l →
      ∃ vs : List Value, (rs.mapM (fun | .tmp t => pure (tmps.getD t Go.undef) | .cell b t => do loadVar t (← asAddr (tmps.getD b Go.undef)) : ResultVar → Sem Value)).run P w = .ok vs w ∧ VL S l vs := by
    intro rs
    induction rs with
    | nil => intro l h; rw [mapO_nil h]; exact ⟨[], by simp, by simp [VL]⟩
    | cons r rs ih =>
      intro l h
      obtain ⟨v, l', h1, h2, h3⟩ := mapO_cons h
      subst h3
      obtain ⟨x, hx1, hx2⟩ := res_sound hE hS hw hl hT h1
      obtain ⟨vs, hv1, hv2⟩ := ih l' h2
      refine ⟨x :: vs, ?_, by simp only [VL]; exact ⟨hx2, hv2⟩⟩
      rw [List.mapM_cons]
      simp only [Sem.run_bind]
      rw [hx1]
      simp only [Result.andThen_ok, hv1, Sem.run_pure]
  obtain ⟨vs, h1, h2⟩ := key _ _ hr
  refine ⟨_, ?_, packR_ok h2⟩
  unfold results
  rw [← Array.toArray_toList (xs := fn.results), List.mapM_toArray]
  simp only [Sem.run_bind, Sem.run_map]
  refine (congrArg (fun r : Result (List Value) => (r.andThen fun a w' => Result.ok a.toArray w').andThen fun a w' => Sem.run P (pure (if h : a.size = 1 then a[0] else Value.tuple a)) w') h1).trans ?_
  simp only [Result.andThen_ok, Sem.run_pure]
end
end Go.CE

namespace Go.CE
variable {GI : GInv}
section
variable {P : Program} {E : Env} {cf : CallF} {L : Nat}

/-- The functions of the evaluator are the program's. -/
def EnvFuncs (P : Program) (E : Env) : Prop := ∀ f fn, E.funcs.get f = some fn → P.funcs[f]? = some fn ∧ (fn.name == "runtime.NumGoroutine") = false
theorem Keep.all {S S' : St} {lo base : Nat} (h : Keep lo S S') (hk : ∀ r, S.kn r → r < base) (hb : base ≤ lo) (lo' : Nat) : Keep lo' S S' := fun r hr _ => h r hr (Nat.lt_of_lt_of_le (hk r hr) hb)
theorem leave_sound {f : FuncId} {S S2 : St} {h0 h1 h' : Heap} {w2 : World} {v v' : AV} {x : Value} (hS : Rel S) (hmet : GI.met S) (hok : okRows h0.rows) (hl : S.look = h0.rows.get) (hk : ∀ r, S.kn r → r < h0.next) (hx : Ext S S2) (hkeep : Keep h1.lo S S2) (hkn : ∀ r, S2.kn r → S.kn r ∨ (h0.next ≤ r ∧ r < h1.next))
    (hle : h0.next ≤ h1.next) (hAt : At GI S2 h1 w2) (hv : V S2 v x) (h : leave E f h0 h1 v = some (v', h')) : ∃ S', At GI S' h' w2 ∧ Behind S h0 S' h' ∧ V S' v' x := by
  unfold leave at h
  cases hb : Nat.ble h0.next h1.lo with
  | false =>
    rw [hb, bsel_false] at h
    cases h
    have := lower_le h0.lo h1.lo
    exact ⟨S2, ⟨hAt.rel, hAt.hp, hAt.look, hAt.kn, hAt.met, hAt.ok, hAt.out⟩, ⟨hx, hkn, hkeep.mono this.2, this.1, hle⟩, hv⟩
  | true =>
    rw [hb, bsel_true] at h
    have hq := ble_le hb
    cases hn : E.nof f with
    | true =>
      rw [hn, bsel_true] at h
      cases h
      exact ⟨S2, ⟨hAt.rel, hAt.hp, hAt.look, hAt.kn, hAt.met, hAt.ok, hAt.out⟩, ⟨hx, hkn, hkeep.all hk hq _, Nat.le_refl _, hle⟩, hv⟩
    | false =>
      rw [hn, bsel_false] at h
      obtain ⟨v1, h2, h3⟩ := obind_eq h
      cases h3
      rw [← hAt.look] at h2
      have q : Quiet S S2 h0.next := ⟨hS, hAt.rel, hx, hk, fun r hr => (hkn r hr).imp id fun h => h.1, hkeep.mono hq⟩
      refine ⟨S.back S2, ⟨q.back_rel, hAt.hp, hl, hk, hmet.ext q.back_ext, hok, hAt.out⟩, ⟨q.back_ext, fun r hr => .inl hr, ?_, Nat.le_refl _, Nat.le_refl _⟩, freeze_sound q 60 v v' x hv h2⟩
      intro r hr _
      obtain ⟨h5, h6⟩ := hkeep r hr (Nat.lt_of_lt_of_le (hk r hr) hq)
      exact ⟨rfl, fun g hg => h6 g hg⟩
theorem args_tm {S : St} {args : List AV} {vs : Array Value} {d n : Nat} (hv : VL S args vs.toList) : TmOK S (Q.fillK args 0 (Q.full d) (fun q => q)) (vs ++ Array.replicate (n - vs.size) Go.undef) := by
  intro t
  cases hg : (Q.fillK args 0 (Q.full d) (fun q => q)).get t with
  | none => show V S .bad _; simp only [V]
  | some y =>
    show V S y _
    rcases Q.get_fill args _ 0 t y hg with ⟨_, h2, h3⟩ | ⟨_, h3⟩
    · rw [Nat.sub_zero] at h3
      obtain ⟨x, hx1, hx2⟩ := hv.get t y h3
      have : (vs ++ Array.replicate (n - vs.size) Go.undef).getD t Go.undef = x := by
        have hlt : t < vs.size := by have := (List.getElem?_eq_some_iff.1 hx1).1; simpa using this
        rw [Array.getD_eq_getD_getElem?, Array.getElem?_append_left hlt]
        have hx1' : vs[t]? = some x := by simpa using hx1
        rw [hx1']; rfl
      rw [this]; exact hx2
    · rw [Q.get_full] at h3; cases h3
theorem enter_sound {F : Fence} (hF : Free F) (hE : EnvTypes P E) (hC : CallOK GI P cf) (hD : DrawOK GI P E cf) (hR : RangeOK GI P E cf) {f : FuncId} {fn : Func} (hf : P.funcs[f]? = some fn) {args : List AV} {h h' : Heap} {v : AV} (he : enter E cf L f args h fn = some (v, h'))
    {S : St} {w : World} {vs : Array Value} (hAt : At GI S h w) (hv : VL S args vs.toList) :
    CallsIn F 0 P f vs w fun | .returned x, w' => ∃ S', At GI S' h' w' ∧ Behind S h S' h' ∧ V S' v x | _, _ => False := by
  obtain ⟨c, hc, h1⟩ := obind_eq he
  obtain ⟨h2, h3⟩ := bsel_none h1
  obtain ⟨hwf, hn⟩ := wf_two h2
  rw [llen_eq] at hn
  have hn' := ble_le hn
  have hsz : vs.size = args.length := by have := hv.length; simpa using this.symm
  obtain ⟨p, h4, h5⟩ := obind_eq h3
  obtain ⟨e, a', h1'⟩ := p
  show CallsIn F.plain 0 P f vs w _
  have hFp : Free F.plain := ⟨hF.fn, hF.depth, hF.alive⟩
  refine callsIn_of_wp_marks hf hc (hF.fn f) ?_ rfl
  have hst : Start GI F.plain S ⟨h.rows, h.next, 1000000000⟩ none fn.ntmps w.heap.size (Q.fillK args 0 (Q.full (depthOf fn.ntmps)) (fun q => q)) { tmps := vs ++ Array.replicate (fn.ntmps - vs.size) Go.undef, defers := [] } w :=
    ⟨⟨hAt.rel, hAt.hp, hAt.look, hAt.kn, hAt.met, hAt.ok, hAt.out⟩, args_tm hv, by simp; omega, Marks.nil, rfl, by rw [hAt.hp]; exact Nat.le_refl _⟩
  refine code_sound hFp hE hC hD hR (n := fn.ntmps) (m0 := w.heap.size) c hwf _ _ e a' h1' S w _ _ h4 hst fun act' w' hfin => ?_
  obtain ⟨S1, hAt1, hB1, hT1, _, Ds, hDs, hDn, hDd⟩ := hfin
  have hend : ∀ l, mapO (resOne E h1' a') fn.results.toList = some l → leave E f h h1' (packR l) = some (v, h') →
      LeavesInM F.plain 0 P fn act'.tmps (fun | .returned x, w' => ∃ S', At GI S' h' w' ∧ Behind S h S' h' ∧ V S' v x | _, _ => False) act'.defers .returning w' := by
    intro l hl1 hl2
    rw [hDs]
    refine leave_marks (m0 := w.heap.size) Ds S1 w' hAt1.hp hDn hDd fun S2 w2 h6 ht hb hso => ?_
    have hrel2 := ht.rel hAt1.rel
    obtain ⟨x, hx1, hx2⟩ := results_sound (P := P) (E := E) (w := w2) hE hrel2 h6 (by rw [ht.look]; exact hAt1.look) (fun t => V.extW ht.weak (hT1 t)) hl1
    refine ⟨x, hx1, ?_⟩
    exact leave_sound (h1 := h1') hAt.rel hAt.met hAt.ok hAt.look hAt.kn (ht.ext hB1.ext fun B hB => hb B (by rw [← hAt.hp]; exact hB)) (ht.keep hAt.rel hB1.keep) (fun r hr => hB1.kn r (by rw [← ht.kn]; exact hr)) hB1.le
      ⟨hrel2, h6, by rw [ht.look]; exact hAt1.look, fun r hr => hAt1.kn r (by rw [← ht.kn]; exact hr), hAt1.met.extW ht.weak, hAt1.ok, hAt1.out.trans hso⟩ hx2 hl2
  cases e with
  | normal => obtain ⟨l, hl1, hl2⟩ := obind_eq h5; exact hend l hl1 hl2
  | ret => obtain ⟨l, hl1, hl2⟩ := obind_eq h5; exact hend l hl1 hl2
  | exit id => cases h5
end
end Go.CE

namespace Go.CE
variable {GI : GInv}
section
variable {P : Program} {E : Env} {cf : CallF} {L : Nat}

theorem loopAll_some {row : Row} {z : Bool × Option Code × Tmps × List Nat × Code × Code} (h : loopAll row = some z) : row = .loop z.1 z.2.1 z.2.2.1 z.2.2.2.1 z.2.2.2.2.1 z.2.2.2.2.2 := by
  cases row <;> simp only [loopAll] at h <;> cases h; rfl
/-- The record of a loop, written. -/
theorem loop_set {S : St} {h : Heap} {w : World} {r : Nat} {z : Bool × Option Code × Tmps × List Nat × Code × Code} {l : Loop} {busy : Bool} {pend pn : Option Code} {st : LoopState} (hAt : At GI S h w) (hrow : h.rows.get r = some (.loop z.1 z.2.1 z.2.2.1 z.2.2.2.1 z.2.2.2.2.1 z.2.2.2.2.2))
    (hl : w.heap[(S.G r 0).blk]? = some (.loop l)) (hb : busy = false → st = (if pend.isSome then .done else .ready) ∧ pn = pend) :
    ∃ S', At GI S' (setLoop r busy pend z h) (w.putObj (S.G r 0).blk (.loop { l with state := st, pending := pn })) ∧ Behind S h S' (setLoop r busy pend z h) := by
  have hrow' : S.look r = some (.loop z.1 z.2.1 z.2.2.1 z.2.2.2.1 z.2.2.2.2.1 z.2.2.2.2.2) := by rw [hAt.look]; exact hrow
  have hU : UpdOK S.look (setLoop r busy pend z h).rows.get 0 (.set r (.loop busy pend z.2.2.1 z.2.2.2.1 z.2.2.2.2.1 z.2.2.2.2.2)) := by
    rw [hAt.look]; exact ⟨fun r' hr => Q.get_set_ne _ h.rows r r' hr, fun x hx => Q.get_set_same _ h.rows r x hx⟩
  have hlen0 : hlen S.hp (S.G r 0).blk = 0 := by unfold hlen; rw [hAt.hp, hl]
  have hch := objChange (at_ := 0) (ob' := .loop { l with state := st, pending := pn }) hAt.rel hAt.hp hrow' hU (fun g => by simp [liveRow]) (fun g => by simp [liveRow]) hlen0
  have hlt : (S.G r 0).blk < w.heap.size := (Array.getElem?_eq_some_iff.1 hl).1
  have hll := lower_le h.lo r
  obtain ⟨l0, g1, g2, g3, g4, g5, g6, g7⟩ := hAt.rel.row r _ hrow'
  have : l0 = l := by rw [hAt.hp, hl] at g1; cases g1; rfl
  subst this
  refine ⟨⟨(setLoop r busy pend z h).rows.get, S.kn, S.G, w.heap.setIfInBounds (S.G r 0).blk (.loop { l0 with state := st, pending := pn })⟩, ⟨hch.rel hAt.rel fun hx => ?_, rfl, rfl, hAt.kn, hAt.met.ext (hch.ext hAt.rel), hAt.ok.set _ _, hAt.out⟩, ⟨hch.ext hAt.rel, fun r hr => .inl hr, hch.keep hAt.rel hll.2, hll.1, Nat.le_refl _⟩⟩
  refine ⟨{ l0 with state := st, pending := pn }, ?_, hb, g3, g4, g5, g6, fun t => V.ext hx (g7 t)⟩
  show (w.heap.setIfInBounds _ _)[_]? = _
  rw [Array.getElem?_setIfInBounds_self_of_lt hlt]
theorem putAll_sound {S : St} : ∀ (ps : List Nat) (args : List AV) (tm a : Tmps) (vs : List Value) (tmps : Array Value), putAll ps args tm = some a → VL S args vs → TmOK S tm tmps → (∀ p ∈ ps, p < tmps.size) →
    ps.length = vs.length ∧ TmOK S a ((ps.zip vs).foldl (fun t (p : Nat × Value) => t.setIfInBounds p.1 p.2) tmps) ∧ ((ps.zip vs).foldl (fun t (p : Nat × Value) => t.setIfInBounds p.1 p.2) tmps).size = tmps.size
  | [], [], tm, a, vs, tmps, h, hv, hT, _ => by
    cases h
    have := hv.length
    have hvs : vs = [] := List.length_eq_zero_iff.1 this.symm
    subst hvs
    exact ⟨rfl, hT, rfl⟩
  | [], _ :: _, _, _, _, _, h, _, _, _ => by cases h
  | _ :: _, [], _, _, _, _, h, _, _, _ => by cases h
  | p :: ps, v :: args, tm, a, x :: vs, tmps, h, hv, hT, hp => by
    simp only [VL] at hv
    have hT' : TmOK S (tm.set p v) (tmps.setIfInBounds p x) := by
      have := TmOK.put (act := { tmps := tmps, defers := [] }) (dst := some p) hT hv.1 (fun d e => by cases e; exact hp p (by simp))
      exact this
    obtain ⟨h1, h2, h3⟩ := putAll_sound ps args (tm.set p v) a vs (tmps.setIfInBounds p x) h hv.2 hT' (fun q hq => by simp; exact hp q (by simp [hq]))
    exact ⟨by simp [h1], h2, by simpa using h3⟩
  | _ :: _, _ :: _, _, _, [], _, _, hv, _, _ => by simp [VL] at hv
end
end Go.CE

namespace Go.CE
variable {GI : GInv}
section
variable {P : Program} {E : Env} {cf : CallF} {L : Nat}

theorem loop_here {S : St} {h : Heap} {w : World} {r : Nat} {z : Bool × Option Code × Tmps × List Nat × Code × Code} (hAt : At GI S h w) (hz : obind (h.rows.get r) loopAll = some z) :
    h.rows.get r = some (.loop z.1 z.2.1 z.2.2.1 z.2.2.2.1 z.2.2.2.2.1 z.2.2.2.2.2) ∧ S.live r 0 ∧ S.known r 0 ∧ ∃ l : Loop, w.heap[(S.G r 0).blk]? = some (.loop l) ∧ (z.1 = false → l.state = (if z.2.1.isSome then .done else .ready) ∧ l.pending = z.2.1) ∧
      l.params.toList = z.2.2.2.1 ∧ l.assign = z.2.2.2.2.1 ∧ l.body = z.2.2.2.2.2 ∧ (wfCode l.tmps.size z.2.2.2.2.1 = true ∧ wfCode l.tmps.size z.2.2.2.2.2 = true ∧ ∀ p ∈ z.2.2.2.1, p < l.tmps.size) ∧ TmOK S z.2.2.1 l.tmps := by
  obtain ⟨row, h1, h2⟩ := obind_eq hz
  have := loopAll_some h2; subst this
  have hr' : S.look r = some (.loop z.1 z.2.1 z.2.2.1 z.2.2.2.1 z.2.2.2.2.1 z.2.2.2.2.2) := by rw [hAt.look]; exact h1
  have hlive : S.live r 0 := ⟨_, hr', rfl⟩
  obtain ⟨l, g1, g2, g3, g4, g5, g6, g7⟩ := hAt.rel.row r _ hr'
  exact ⟨h1, hlive, known_of_live hAt.rel.lt hlive, l, by rw [← hAt.hp]; exact g1, g2, g3, g4, g5, g6, g7⟩
theorem round_sound {F : Fence} (hF : Free F) (hE : EnvTypes P E) (hC : CallOK GI P cf) (hD : DrawOK GI P E cf) (hR : RangeOK GI P E cf) {r : Nat} {args : List AV} {h h' : Heap} {v : AV} (he : roundS E cf L r args h = some (v, h'))
    {S : St} {w : World} {vs : Array Value} (hAt : At GI S h w) (hv : VL S args vs.toList) :
    Upon F P (fun x w' => ∃ S', At GI S' h' w' ∧ Behind S h S' h' ∧ V S' v x) ((Instr.yield (S.G r 0).blk vs).run P w) := by
  obtain ⟨q, h1, h2⟩ := obind_eq he
  obtain ⟨h3, h4⟩ := bsel_none' h2
  obtain ⟨hrow, hlive, hkn, l, hl, hst, hps, has, hbo, ⟨hwa, hwb, hwp⟩, hT⟩ := loop_here hAt h1
  cases hq : q.2.1 with
  | some c => rw [hq] at h4; cases h4
  | none =>
    rw [hq] at h4
    obtain ⟨a, h5, h6⟩ := obind_eq (show obind (putAll q.2.2.2.1 args q.2.2.1) (fun a => obind (evCode E cf L (some r) q.2.2.2.2.1 a h) fun p => bsel (isNorm p.1) (bodyS E cf L r q.2.2.2.2.2 p.2.1 p.2.2) none) = some (v, h') from h4)
    obtain ⟨p, h7, h8⟩ := obind_eq h6
    obtain ⟨h9, h10⟩ := bsel_none h8
    obtain ⟨e1, a1, hp1⟩ := p
    have he1 : e1 = .normal := by cases e1 <;> first | rfl | cases h9
    subst he1
    obtain ⟨hlen, hTa, hsz⟩ := putAll_sound _ _ _ _ _ _ h5 hv hT hwp
    have hy := run_yield (P := P) (args := vs) hl (by rw [← Array.length_toList, ← Array.length_toList, hps, hlen])
    rw [hy]
    have hzip : (l.params.zip vs).foldl (fun tmps (t, a) => tmps.setIfInBounds t a) l.tmps = (q.2.2.2.1.zip vs.toList).foldl (fun t (p : Nat × Value) => t.setIfInBounds p.1 p.2) l.tmps := by
      rw [← Array.foldl_toList, Array.toList_zip, hps]
    rw [hzip]
    show RoundIn F 0 P (S.G r 0).blk l.fn _ l.assign l.body w _
    rw [has, hbo]
    have hFr := hF.inRound (S.G r 0).blk
    refine roundIn_of_wpIn (hF.fn _) ?_
    have hst0 : Start GI (F.inRound (S.G r 0).blk) S h (some r) l.tmps.size 0 a { tmps := (q.2.2.2.1.zip vs.toList).foldl (fun t (p : Nat × Value) => t.setIfInBounds p.1 p.2) l.tmps, defers := [] } w :=
      ⟨hAt, hTa, hsz, Marks.nil, ⟨_, rfl, hkn, fun _ => rfl⟩, Nat.zero_le _⟩
    refine code_sound hFr hE hC hD hR (n := l.tmps.size) (m0 := 0) q.2.2.2.2.1 hwa a h .normal a1 hp1 S w _ _ h7 hst0 fun act1 w1 hfin => ?_
    obtain ⟨S1, hs1, hB1⟩ := hfin.start hst0
    obtain ⟨z, h11, h12⟩ := obind_eq (show obind (obind (hp1.rows.get r) loopAll) (fun z => bsel z.1 none (Option.rec (motive := fun _ => Option (AV × Heap))
      (obind (evCode E cf L (some r) q.2.2.2.2.2 a1 (setLoop r true none z hp1)) fun p => endS r p.1 p.2.2) (fun _ => none) z.2.1)) = some (v, h') from h10)
    obtain ⟨h13, h14⟩ := bsel_none' h12
    obtain ⟨hrow1, hlive1, hkn1, l1, hl1, hst1, _⟩ := loop_here hs1.at_ h11
    have hG1 : S1.G r 0 = S.G r 0 := hB1.ext.place r 0 hkn.1 hlive hlive1
    rw [hG1] at hl1
    cases hz : z.2.1 with
    | some c => rw [hz] at h14; cases h14
    | none =>
      rw [hz] at h14 hst1
      obtain ⟨p2, h15, h16⟩ := obind_eq (show obind (evCode E cf L (some r) q.2.2.2.2.2 a1 (setLoop r true none z hp1)) (fun p => endS r p.1 p.2.2) = some (v, h') from h14)
      obtain ⟨e2, a2, hp2⟩ := p2
      have hready : l1.state = .ready := (hst1 h13).1
      show ∃ w₂, (Instr.beginRound (S.G r 0).blk).run P w1 = .ok () w₂ ∧ _
      refine ⟨_, run_beginRound hl1 hready, ?_⟩
      obtain ⟨S2, hAt2, hB2⟩ := loop_set (busy := true) (pend := none) (pn := l1.pending) (st := .busy) hs1.at_ hrow1 (by rw [hG1]; exact hl1) (fun e => by cases e)
      rw [hG1] at hAt2
      have hst2 : Start GI (F.inRound (S.G r 0).blk) S2 (setLoop r true none z hp1) (some r) l.tmps.size 0 a1 act1 (w1.putObj (S.G r 0).blk (.loop { l1 with state := .busy })) :=
        ⟨hAt2, hs1.tm.ext hB2.ext, hs1.size, hs1.marks.ext hB2.ext, hs1.round.ext hB2.ext, Nat.zero_le _⟩
      refine code_sound hFr hE hC hD hR (n := l.tmps.size) (m0 := 0) q.2.2.2.2.2 hwb a1 _ e2 a2 hp2 S2 _ act1 _ h15 hst2 fun act3 w3 hfin3 => ?_
      obtain ⟨S3, hs3, hB3⟩ := hfin3.start hst2
      obtain ⟨z2, h17, h18⟩ := obind_eq (show obind (obind (hp2.rows.get r) loopAll) (fun z => some (AV.bool (isNorm e2), setLoop r false (codeOf e2) z hp2)) = some (v, h') from h16)
      cases h18
      obtain ⟨hrow3, hlive3, hkn3, l3, hl3, _⟩ := loop_here hs3.at_ h17
      have hB12 := hB1.trans (hB2.trans hB3 hs1.at_.rel) hAt.rel
      have hG3 : S3.G r 0 = S.G r 0 := hB12.ext.place r 0 hkn.1 hlive hlive3
      rw [hG3] at hl3
      have hend : ∀ jump : Option Code, jump = codeOf e2 → jump.isNone = isNorm e2 → ∃ x w', (Instr.endRound (S.G r 0).blk jump).run P w3 = .ok x w' ∧ ∃ S', At GI S' (setLoop r false (codeOf e2) z2 hp2) w' ∧ Behind S h S' (setLoop r false (codeOf e2) z2 hp2) ∧ V S' (.bool (isNorm e2)) x := by
        intro jump hj hjn
        subst hj
        obtain ⟨S4, hAt4, hB4⟩ := loop_set (busy := false) (pend := codeOf e2) (pn := codeOf e2) (st := if (codeOf e2).isNone then .ready else .done) hs3.at_ hrow3 (by rw [hG3]; exact hl3) (fun _ => ⟨by cases codeOf e2 <;> rfl, rfl⟩)
        rw [hG3] at hAt4
        exact ⟨_, _, run_endRound _ hl3, S4, hAt4, hB12.trans hB4 hAt.rel, by rw [hjn]; simp only [V]⟩
      cases e2 with
      | normal => exact hend none rfl rfl
      | ret => exact hend (some .ret) rfl rfl
      | exit id => exact hend (some (.exit id)) rfl rfl
end
end Go.CE

namespace Go.CE
/-- A block that no row owns is laid. -/
def St.push (S : St) (o : Obj) : St := ⟨S.look, S.kn, S.G, S.hp.push o⟩
theorem push_old {hp : Array Obj} {o : Obj} {B : Nat} (h : B < hp.size) : (hp.push o)[B]? = hp[B]? := by
  rw [Array.getElem?_push]; simp [Nat.ne_of_lt h]
theorem Ext.push {S : St} (h : Rel S) (o : Obj) : Ext S (S.push o) := by
  refine ⟨fun _ h => h, fun r row _ hl => ⟨row, hl, Nat.le_refl _, Nat.le_refl _⟩, fun _ _ _ _ _ => rfl, ?_, fun B hB => ⟨⟨?_, hB.2⟩, push_old hB.1⟩, fun r g _ hl _ => ?_⟩
  · show S.hp.size ≤ (S.hp.push o).size; simp
  · show B < (S.hp.push o).size; have := hB.1; simp; omega
  · show hlen S.hp _ ≤ hlen (S.hp.push o) _
    unfold hlen; rw [push_old (h.blk r g hl)]; exact Nat.le_refl _
theorem Rel.push {S : St} (h : Rel S) (o : Obj) : Rel (S.push o) := by
  refine ⟨h.lt, fun r g hl => ?_, h.inj, fun r row hl => RowOK.ext (Ext.push h o) (fun _ _ => rfl) (fun g hg => push_old (h.blk r g ⟨row, hl, hg⟩)) (h.row r row hl)⟩
  show _ < (S.hp.push o).size
  have := h.blk r g hl
  simp only [Array.size_push]
  exact Nat.lt_succ_of_lt this
theorem Keep.push {S : St} (h : Rel S) (o : Obj) (lo : Nat) : Keep lo S (S.push o) := fun r _ _ => ⟨rfl, fun g hg => ⟨rfl, push_old (h.blk r g hg)⟩⟩
theorem push_imm {S : St} (h : Rel S) (o : Obj) : (S.push o).imm S.hp.size ∧ (S.push o).hp[S.hp.size]? = some o := by
  refine ⟨⟨by show _ < (S.hp.push o).size; simp, fun r g hl e => ?_⟩, by show (S.hp.push o)[S.hp.size]? = _; simp⟩
  have := h.blk r g hl
  have e' : (S.G r g).blk = S.hp.size := e
  omega
end Go.CE

namespace Go.CE
variable {GI : GInv}
section
variable {P : Program} {E : Env} {cf : CallF}
/-- What is asked of the calls of functions of the program. -/
def EnterOK (GI : GInv) (P : Program) (E : Env) (cf : CallF) : Prop :=
  ∀ (f : FuncId) (args : List AV) (h : Heap) (v : AV) (h' : Heap), E.hook f = none → cf (.fn f) args h = some (v, h') →
    ∀ (F : Fence), Free F → ∀ (S : St) (w : World) (vs : Array Value), At GI S h w → VL S args vs.toList →
      (callFunc f vs).run P w = .ok (.enter f vs) w ∧ CallsIn F 0 P f vs w fun | .returned x, w' => ∃ S', At GI S' h' w' ∧ Behind S h S' h' ∧ V S' v x | _, _ => False
/-- The record of a loop is laid. -/
theorem loop_lay {S : St} {h : Heap} {w : World} {n : Nat} {f : Operand} {ps : Array Tmp} {assign body : Code} {a : Tmps} {l : Loop} (hAt : At GI S h w) (hT : TmOK S a l.tmps) (hn : l.tmps.size = n) (hwf : wfCode n (.rangeFunc f ps assign body) = true)
    (h1 : l.state = .ready) (h2 : l.pending = none) (h3 : l.params = ps) (h4 : l.assign = assign) (h5 : l.body = body) :
    ∃ S', At GI S' ⟨h.rows.set h.next (.loop false none a ps.toList assign body), Nat.succ h.next, h.lo⟩ (w.alloc (.loop l)) ∧ Behind S h S' ⟨h.rows.set h.next (.loop false none a ps.toList assign body), Nat.succ h.next, h.lo⟩ ∧
      S'.known h.next 0 ∧ (S'.G h.next 0).blk = w.heap.size := by
  obtain ⟨hw1, hw2⟩ := wf_two (show bsel (allB (fun p => Nat.ble (Nat.succ p) n) ps.toList) (bsel (wfCode n assign) (wfCode n body) false) false = true from hwf)
  obtain ⟨hw3, hw4⟩ := wf_two hw2
  have hps : ∀ p ∈ ps.toList, p < n := by
    intro p hp
    revert hw1 hp
    generalize ps.toList = q
    intro hw1 hp
    induction q with
    | nil => cases hp
    | cons x q ih =>
      obtain ⟨h6, h7⟩ := wf_two (show bsel (Nat.ble (Nat.succ x) n) (allB (fun p => Nat.ble (Nat.succ p) n) q) false = true from hw1)
      rcases List.mem_cons.1 hp with rfl | hp
      · exact ble_le h6
      · exact ih h7 hp
  have hat : ¬ S.kn h.next := fun hk => Nat.lt_irrefl _ (hAt.kn _ hk)
  have hne : ∀ r, r ≠ h.next → (h.rows.set h.next (.loop false none a ps.toList assign body)).get r = S.look r := fun r hr => by rw [hAt.look]; exact Q.get_set_ne _ h.rows _ r hr
  have hsame : ∀ x, (h.rows.set h.next (.loop false none a ps.toList assign body)).get h.next = some x → x = .loop false none a ps.toList assign body := fun x hx => Q.get_set_same _ h.rows _ x hx
  have hpl : (⟨w.heap.size, 0, 0⟩ : PL).blk = S.hp.size := by rw [hAt.hp]
  have hG : ∀ g, (S.add (h.rows.set h.next (.loop false none a ps.toList assign body)).get h.next ⟨w.heap.size, 0, 0⟩ (.loop l)).G h.next g = ⟨w.heap.size, 0, 0⟩ := fun g => by
    show (if h.next = h.next then _ else _) = _; rw [if_pos rfl]
  have hx := Ext.add (o := .loop l) hAt.rel hat hne hpl
  refine ⟨S.add (h.rows.set h.next (.loop false none a ps.toList assign body)).get h.next ⟨w.heap.size, 0, 0⟩ (.loop l), ⟨Rel.add hAt.rel hat hne hsame hpl fun _ => ?_, ?_, rfl, ?_, hAt.met.ext hx, hAt.ok.set _ _, hAt.out⟩, ⟨hx, ?_, Keep.add _ hAt.rel hat hne, Nat.le_refl _, Nat.le_succ _⟩, ⟨.inr rfl, ?_⟩, by rw [hG]⟩
  · refine ⟨l, ?_, fun _ => ⟨by rw [h1]; rfl, h2⟩, by rw [h3], h4, h5, by rw [hn]; exact ⟨hw3, hw4, hps⟩, fun t => V.ext hx (hT t)⟩
    rw [hG]; show (S.hp.push _)[w.heap.size]? = _; rw [hAt.hp]; simp
  · show S.hp.push _ = (w.alloc _).heap; rw [hAt.hp]; rfl
  · rintro r (hr | rfl)
    · exact Nat.lt_succ_of_lt (hAt.kn r hr)
    · exact Nat.lt_succ_self _
  · rintro r (hr | rfl)
    · exact .inl hr
    · exact .inr ⟨Nat.le_refl _, Nat.lt_succ_self _⟩
  · intro row hrow
    rw [hsame row hrow]; exact rfl
end
end Go.CE

namespace Go.CE
variable {GI : GInv}
section
variable {P : Program} {E : Env} {cf : CallF}
/-- A loop that is over. -/
theorem loop_over {S : St} {h : Heap} {w : World} {r n0 : Nat} {z : Bool × Option Code × Tmps × List Nat × Code × Code} {l : Loop} (hAt : At GI S h w) (hrow : h.rows.get r = some (.loop z.1 z.2.1 z.2.2.1 z.2.2.2.1 z.2.2.2.2.1 z.2.2.2.2.2))
    (hl : w.heap[(S.G r 0).blk]? = some (.loop l)) :
    ∃ S', At GI S' (overS r z h) (w.putObj (S.G r 0).blk (.loop { l with state := .exhausted })) ∧ Ext S S' ∧ S'.kn = S.kn ∧ ∀ lo, lo ≤ r → Keep lo S S' := by
  have hrow' : S.look r = some (.loop z.1 z.2.1 z.2.2.1 z.2.2.2.1 z.2.2.2.2.1 z.2.2.2.2.2) := by rw [hAt.look]; exact hrow
  have hU : UpdOK S.look (overS r z h).rows.get 0 (.set r (.loop true none z.2.2.1 z.2.2.2.1 z.2.2.2.2.1 z.2.2.2.2.2)) := by
    rw [hAt.look]; exact ⟨fun r' hr => Q.get_set_ne _ h.rows r r' hr, fun x hx => Q.get_set_same _ h.rows r x hx⟩
  have hlen0 : hlen S.hp (S.G r 0).blk = 0 := by unfold hlen; rw [hAt.hp, hl]
  have hch := objChange (at_ := 0) (ob' := .loop { l with state := .exhausted }) hAt.rel hAt.hp hrow' hU (fun g => by simp [liveRow]) (fun g => by simp [liveRow]) hlen0
  have hlt : (S.G r 0).blk < w.heap.size := (Array.getElem?_eq_some_iff.1 hl).1
  obtain ⟨l0, g1, g2, g3, g4, g5, g6, g7⟩ := hAt.rel.row r _ hrow'
  have : l0 = l := by rw [hAt.hp, hl] at g1; cases g1; rfl
  subst this
  refine ⟨⟨(overS r z h).rows.get, S.kn, S.G, w.heap.setIfInBounds (S.G r 0).blk (.loop { l0 with state := .exhausted })⟩, ⟨hch.rel hAt.rel fun hx => ?_, rfl, rfl, hAt.kn, hAt.met.ext (hch.ext hAt.rel), hAt.ok.set _ _, hAt.out⟩, hch.ext hAt.rel, rfl, fun lo hlo => hch.keep hAt.rel hlo⟩
  refine ⟨{ l0 with state := .exhausted }, ?_, (fun e => by cases e), g3, g4, g5, g6, fun t => V.ext hx (g7 t)⟩
  show (w.heap.setIfInBounds _ _)[_]? = _
  rw [Array.getElem?_setIfInBounds_self_of_lt hlt]
end
end Go.CE

namespace Go.CE
variable {GI : GInv}
section
variable {P : Program} {E : Env} {cf : CallF}
theorem range_sound (hEn : EnterOK GI P E cf) : RangeOK GI P E cf := by
  intro F hF ro n m0 g ps assign body a h e a' h' S w act Q he hwf hs hQ
  obtain ⟨pe, h1, h2⟩ := obind_eq he
  obtain ⟨q, h3, h4⟩ := obind_eq h2
  obtain ⟨h5, h6⟩ := bsel_none h4
  obtain ⟨p, h7, h8⟩ := obind_eq h6
  obtain ⟨z, h9, h10⟩ := obind_eq h8
  obtain ⟨h11, h12⟩ := bsel_none' h10
  obtain ⟨v, hp2⟩ := p
  -- what enterLoop does, in both cases
  have henter : ∀ fn : FuncId, ∃ (l : Nat) (mark : List Deferred) (w1 : World) (S1 : St), (Instr.enterLoop fn act.tmps ps assign body F.round).run P w = .ok (l, mark) w1 ∧
      At GI S1 ⟨h.rows.set h.next (.loop false none a ps.toList assign body), Nat.succ h.next, h.lo⟩ w1 ∧ Behind S h S1 ⟨h.rows.set h.next (.loop false none a ps.toList assign body), Nat.succ h.next, h.lo⟩ ∧
      S1.known h.next 0 ∧ (S1.G h.next 0).blk = l ∧ TmOK S1 a act.tmps ∧ Marks m0 S1 (mark ++ act.defers) := by
    intro fn
    cases hro : ro with
    | none =>
      have hr : F.round = none := by have := hs.round; rw [hro] at this; exact this
      have hAt' : At GI (S.push (.deferred (some []))) h (w.alloc (.deferred (some []))) :=
        ⟨Rel.push hs.at_.rel _, by show S.hp.push _ = _; rw [hs.at_.hp]; rfl, hs.at_.look, hs.at_.kn, hs.at_.met.ext (Ext.push hs.at_.rel _), hs.at_.ok, hs.at_.out⟩
      have hxp := Ext.push hs.at_.rel (.deferred (some []))
      have hBp : Behind S h (S.push (.deferred (some []))) h := ⟨hxp, fun r hr => .inl hr, Keep.push hs.at_.rel _ _, Nat.le_refl _, Nat.le_refl _⟩
      obtain ⟨S1, x1, x2, x3, x4⟩ := loop_lay (l := { state := .ready, pending := none, fn, tmps := act.tmps, params := ps, assign, body, defers := w.heap.size }) hAt' (hs.tm.ext hxp) hs.size hwf rfl rfl rfl rfl rfl
      refine ⟨_, _, _, S1, by rw [hr]; exact run_enterLoop_outer fn act.tmps ps assign body, x1, hBp.trans x2 hs.at_.rel, x3, by rw [x4]; simp, (hs.tm.ext hxp).ext x2.ext, ?_⟩
      refine Marks.ext x2.ext ?_
      obtain ⟨Ds, y1, y2, y3⟩ := hs.marks
      obtain ⟨y4, y5⟩ := push_imm hs.at_.rel (.deferred (some []))
      refine ⟨w.heap.size :: Ds, by rw [y1]; rfl, List.nodup_cons.2 ⟨fun hm => ?_, y2⟩, fun D hD => ?_⟩
      · have := (y3 _ hm).2.1.1
        rw [hs.at_.hp] at this; exact Nat.lt_irrefl _ this
      · rcases List.mem_cons.1 hD with rfl | hD
        · rw [← hs.at_.hp]; exact ⟨hs.m0, y4, y5⟩
        · obtain ⟨k1, k2, k3⟩ := y3 D hD
          obtain ⟨k4, k5⟩ := hxp.imm D k2
          exact ⟨k1, k4, k5.trans k3⟩
    | some r =>
      have hr := hs.round
      rw [hro] at hr h1
      obtain ⟨l, hr1, hr2, hr3⟩ := hr
      obtain ⟨row, k1, k2⟩ := obind_eq (show obind (h.rows.get r) loopRow = some pe from h1)
      cases row with
      | loop b pd tm ps' as' bd' =>
        have hrow : S.look r = some (.loop b pd tm ps' as' bd') := by rw [hs.at_.look]; exact k1
        obtain ⟨l0, g1, _⟩ := hs.at_.rel.row r _ hrow
        have hb := hr3 ⟨_, hrow, rfl⟩
        rw [hb, hs.at_.hp] at g1
        obtain ⟨S1, x1, x2, x3, x4⟩ := loop_lay (l := { state := .ready, pending := none, fn, tmps := act.tmps, params := ps, assign, body, defers := l0.defers }) hs.at_ hs.tm hs.size hwf rfl rfl rfl rfl rfl
        exact ⟨_, [], _, S1, by rw [hr1]; exact run_enterLoop_inner g1 fn act.tmps ps assign body, x1, x2, x3, x4, hs.tm.ext x2.ext, hs.marks.ext x2.ext⟩
      | _ => cases k2
  refine wpIn_rangeFunc fun fn hfn => ?_
  obtain ⟨l, mark, w1, S1, e1, e2, e3, e4, e5, e6, e7⟩ := henter fn
  have hx := ev_V (act := act) e6 g
  unfold tgtV at h3
  split at h3
  · rename_i f b c hg
    cases h3
    rw [hg] at hx; simp only [V] at hx
    obtain ⟨b', c', hx, hb, hc⟩ := hx
    have hh : E.hook f = none := by
      have h5' : Option.rec (motive := fun _ => Bool) true (fun _ => false) (E.hook f) = true := h5
      cases hk : E.hook f with
      | none => rfl
      | some _ => rw [hk] at h5'; cases h5'
    have hvs : VL S1 (lapp b (lapp [.yield h.next] c)) (b' ++ #[Value.func (.yield l) #[] #[]] ++ c').toList := by
      rw [lapp_eq, lapp_eq]
      simp only [Array.toList_append, List.append_assoc]
      refine VL.append hb (VL.append ?_ hc)
      simp only [VL, V, and_true]
      exact ⟨e4, l, rfl, fun _ => e5.symm⟩
    obtain ⟨hcf, hcall⟩ := hEn f _ _ _ _ hh h7 F hF S1 w1 _ e2 hvs
    refine ⟨l, mark, w1, { target := .fn (.func f) c', args := b' ++ #[.func (.yield l) #[] #[]] }, w1, f, _, w1, e1, ?_, fun f' _ => hF.fn f', ?_, hF.one, CallsIn.mono hcall fun en w3 hw => ?_⟩
    · have hx2 : ∀ t, ({ tmps := act.tmps, defers := t } : Act).eval g = act.eval g := fun t => rfl
      simp only [resolve, hx, Deferred.ofValue, pure_bind, Sem.run_pure]
      simp [Act.eval]
    · exact hcf
    · cases en with
      | returned x =>
        obtain ⟨S2, hAt2, hB2, _⟩ := hw
        obtain ⟨hrow2, hlive2, hkn2, l2, hl2, hst2, _⟩ := loop_here hAt2 h9
        have hlive1 : S1.live h.next 0 := hB2.ext.live e4 hlive2
        have hG2 : S2.G h.next 0 = S1.G h.next 0 := hB2.ext.place h.next 0 e4.1 hlive1 hlive2
        obtain ⟨hs2, hp2'⟩ := hst2 h11
        obtain ⟨S3, hAt3, hx3, hk3, hkeep3⟩ := loop_over (n0 := 0) hAt2 hrow2 hl2
        have hbk : (S2.G h.next 0).blk = l := by rw [hG2, e5]
        rw [hbk] at hl2 hAt3
        have hB13 : Behind S h S3 (overS h.next z hp2) := by
          have hB12 := e3.trans hB2 hs.at_.rel
          refine ⟨hB12.ext.trans hx3 hs.at_.rel.lt, fun r hr => hB12.kn r (by rw [← hk3]; exact hr), ?_, hB12.lo, hB12.le⟩
          intro r hr hlo
          obtain ⟨u1, u2⟩ := hB12.keep r hr hlo
          obtain ⟨v1, v2⟩ := hkeep3 h.next (Nat.le_refl _) r (hB12.ext.kn r hr) (hs.at_.kn r hr)
          refine ⟨v1.trans u1, fun gg hg => ?_⟩
          obtain ⟨u3, u4⟩ := u2 gg hg
          have hlv : S2.live r gg := by obtain ⟨row, ra, rb⟩ := hg; exact ⟨row, u1.trans ra, rb⟩
          obtain ⟨v3, v4⟩ := v2 gg hlv
          rw [u3] at v3 v4
          exact ⟨v3, v4.trans u4⟩
        have hfin : Fin GI S h n m0 a (overS h.next z hp2) { act with defers := mark ++ act.defers } (w3.putObj l (.loop { l2 with state := .exhausted })) :=
          ⟨S3, hAt3, hB13, e6.ext (hB2.ext.trans hx3 e2.rel.lt), hs.size, e7.ext (hB2.ext.trans hx3 e2.rel.lt)⟩
        refine ⟨_, _, run_endLoop hl2 (by rw [hs2]; cases z.2.1 <;> simp), ?_⟩
        cases hz : l2.pending with
        | none =>
          rw [← hp2', hz] at h12; cases h12
          rw [hz] at hfin; exact hQ _ _ hfin
        | some c =>
          rw [← hp2', hz] at h12
          rw [hz] at hfin
          obtain ⟨e0, k1, k2⟩ := obind_eq (show obind (exOf c) (fun e => some (e, a, overS h.next z hp2)) = some (e, a', h') from h12)
          cases k2
          cases c <;> first
            | (cases k1; exact wpIn_exit (hQ _ _ hfin))
            | (cases k1; exact wpIn_ret (hQ _ _ hfin))
            | (cases k1; done)
      | _ => exact hw.elim
  · rename_i r hg
    cases h3
    cases h5
  · cases h3
end
end Go.CE

namespace Go.CE

/-- What is known stays known. -/
def Le {α : Type} (x y : Option α) : Prop := ∀ z, x = some z → y = some z
theorem Le.refl {α : Type} (x : Option α) : Le x x := fun _ h => h
theorem Le.trans {α : Type} {x y z : Option α} (h : Le x y) (h' : Le y z) : Le x z := fun a ha => h' a (h a ha)
theorem Le.obind {α β : Type} {x y : Option α} {f g : α → Option β} (h : Le x y) (hf : ∀ a, Le (f a) (g a)) : Le (obind x f) (obind y g) := by
  intro z hz
  obtain ⟨a, h1, h2⟩ := obind_eq hz
  rw [h a h1]
  exact hf a z h2
theorem Le.bsel {α : Type} {b : Bool} {x y x' y' : Option α} (h : Le x x') (h' : Le y y') : Le (bsel b x y) (bsel b x' y') := by
  cases b
  · exact h'
  · exact h
def LookLe (l l' : Look) : Prop := ∀ r, Le (l r) (l' r)

section
variable {E : Env} {ρ : Operand → AV} {look look' : Look} {at_ : Nat}

theorem rdRow_mono {r g o n : Nat} (h : LookLe look look') : Le (rdRow look r g o n) (rdRow look' r g o n) := by
  unfold rdRow
  exact (h r).obind fun row => Le.refl _
theorem wrRow_mono {r g o : Nat} {l : List AV} (h : LookLe look look') : Le (wrRow look r g o l) (wrRow look' r g o l) := by
  unfold wrRow
  exact (h r).obind fun row => Le.refl _
theorem loadS_mono {agg : Bool} {n : Nat} {x : AV} (h : LookLe look look') : Le (loadS look agg n x) (loadS look' agg n x) := by
  unfold loadS
  split
  · exact Le.bsel ((rdRow_mono h).obind fun _ => Le.refl _) (Le.refl _)
  · exact Le.refl _
  · exact Le.refl _
theorem storeS_mono {n : Nat} {x : AV} {l : List AV} (h : LookLe look look') : Le (storeS look n x l) (storeS look' n x l) := by
  unfold storeS
  split
  · exact Le.bsel (Le.bsel (wrRow_mono h) (Le.refl _)) (Le.refl _)
  · exact Le.refl _
theorem mapS_mono {x : AV} (h : LookLe look look') : Le (mapS look x) (mapS look' x) := by
  unfold mapS
  split
  · exact Le.refl _
  · exact Le.refl _
  · exact (h _).obind fun _ => Le.refl _
  · exact Le.refl _
theorem elemsS_mono {e : Nat} {x : AV} (h : LookLe look look') : Le (elemsS look e x) (elemsS look' e x) := by
  unfold elemsS
  split
  · exact Le.refl _
  · exact Le.bsel ((rdRow_mono h).obind fun _ => Le.refl _) (Le.refl _)
  · exact Le.refl _
  · exact Le.refl _
  · exact Le.refl _
theorem appendS_mono {fresh e m : Nat} {x : AV} {l : List AV} (h : LookLe look look') : Le (appendS look fresh e x l m) (appendS look' fresh e x l m) := by
  unfold appendS
  split
  · exact Le.refl _
  · exact Le.bsel (Le.bsel (Le.refl _) ((h _).obind fun _ => Le.refl _)) (Le.refl _)
  · exact Le.refl _
  · exact Le.refl _
theorem mapUpd_mono {x k v : AV} (h : LookLe look look') : Le (mapUpd look x k v) (mapUpd look' x k v) := by
  unfold mapUpd
  split
  · exact ((h _).obind fun _ => Le.refl _).obind fun _ => Le.refl _
  · exact Le.refl _
theorem convS_mono {fresh : Nat} {a b : TK} {x : AV} (h : LookLe look look') : Le (convS look fresh a b x) (convS look' fresh a b x) := by
  unfold convS
  split
  · exact Le.refl _
  · split
    · exact Le.refl _
    · exact Le.bsel ((elemsS_mono h).obind fun _ => Le.refl _) (Le.refl _)
    · exact Le.refl _
    · exact Le.refl _
  · exact Le.refl _
  · exact Le.refl _
theorem upd1_mono {v : AV} {u u' : Option Upd} (h : Le u u') : Le (upd1 v u) (upd1 v u') := h.obind fun _ => Le.refl _
theorem pure1_mono {u u' : Option AV} (h : Le u u') : Le (pure1 u) (pure1 u') := h.obind fun _ => Le.refl _
theorem smStore_mono {n : Nat} {x v u : AV} {p : AV × Upd} {l : List AV} (h : LookLe look look') :
    Le (bsel (sameS look n x v) (some p) (upd1 u (storeS look n x l))) (bsel (sameS look' n x v) (some p) (upd1 u (storeS look' n x l))) := by
  cases x
  case ptr r g o m =>
    cases hl : look r with
    | none =>
      have h1 : sameS look n (.ptr r g o m) v = false := by
        unfold sameS
        simp only [loadS, rdRow, hl, obind]
        cases Nat.beq n 1 <;> cases Nat.ble 1 m <;> rfl
      have h2 : storeS look n (.ptr r g o m) l = none := by
        unfold storeS
        simp only [wrRow, hl, obind]
        cases Nat.beq (llen l) n <;> cases Nat.ble n m <;> rfl
      rw [h1, h2]
      intro z hz
      cases hz
    | some row =>
      have h3 := h r row hl
      have h1 : sameS look n (.ptr r g o m) v = sameS look' n (.ptr r g o m) v := by
        unfold sameS
        simp only [loadS, rdRow, hl, h3]
      have h2 : storeS look n (.ptr r g o m) l = storeS look' n (.ptr r g o m) l := by
        unfold storeS
        simp only [wrRow, hl, h3]
      rw [h1, h2]
      exact Le.refl _
  all_goals exact upd1_mono (storeS_mono h)
theorem bi_mono {b : Builtin} {ts : List TypeId} {xs : List AV} (h : LookLe look look') : Le (bi b E look at_ ts xs) (bi b E look' at_ ts xs) := by
  have h1 : ∀ b x, Le (bi1 b E look at_ ts x .bad) (bi1 b E look' at_ ts x .bad) := by
    intro b x
    cases b <;> first
      | exact Le.refl _
      | (show Le (biLen E look at_ ts x .bad) (biLen E look' at_ ts x .bad)
         unfold biLen
         split
         · refine (Le.refl _).obind fun ti => ?_
           split
           · exact Le.refl _
           · exact Le.refl _
           · exact (mapS_mono h).obind fun _ => Le.refl _
           · exact Le.refl _
         · exact Le.refl _)
      | (show Le (biClear E look at_ ts x .bad) (biClear E look' at_ ts x .bad)
         unfold biClear
         split
         · refine (Le.refl _).obind fun ti => (Le.refl _).obind fun k => ?_
           split
           · exact Le.bsel (Le.bsel (Le.refl _) (Le.bsel (Le.refl _) (upd1_mono (wrRow_mono h)))) (Le.refl _)
           · exact Le.refl _
         · exact Le.refl _)
  have h2 : ∀ b x y, Le (bi2 b E look at_ ts x y) (bi2 b E look' at_ ts x y) := by
    intro b x y
    cases b <;> first
      | exact Le.refl _
      | (show Le (biAppend E look at_ ts x y) (biAppend E look' at_ ts x y)
         unfold biAppend
         split
         · exact (Le.refl _).obind fun ti => (Le.refl _).obind fun ui => (Le.refl _).obind fun k => Le.bsel ((elemsS_mono h).obind fun p =>
             Le.bsel (Le.refl _) ((Le.refl _).obind fun n => Le.bsel (Le.bsel (appendS_mono h) (Le.refl _)) (Le.refl _))) (Le.refl _)
         · exact Le.refl _)
      | (show Le (biCopy E look at_ ts x y) (biCopy E look' at_ ts x y)
         unfold biCopy
         split
         · refine (Le.refl _).obind fun ti => (Le.refl _).obind fun k => ?_
           split
           · exact Le.bsel ((elemsS_mono h).obind fun p => Le.bsel (Le.refl _) (upd1_mono (wrRow_mono h))) (Le.refl _)
           · exact Le.refl _
         · exact Le.refl _)
      | (show Le (biDelete E look at_ ts x y) (biDelete E look' at_ ts x y)
         unfold biDelete
         split
         · refine (Le.refl _).obind fun ti => (Le.refl _).obind fun k => ?_
           split
           · exact Le.bsel (((h _).obind fun _ => Le.refl _).obind fun _ => Le.refl _) (Le.refl _)
           · exact Le.refl _
         · exact Le.refl _)
  match xs with
  | [] => cases b <;> exact Le.refl _
  | [x] =>
    have := fun b => h1 b x
    cases b
    case len => exact this .len
    case clear => exact this .clear
    all_goals exact Le.refl _
  | [x, y] =>
    have := fun b => h2 b x y
    cases b
    case append => exact this .append
    case copy => exact this .copy
    case delete => exact this .delete
    all_goals exact Le.refl _
  | _ :: _ :: _ :: _ => cases b <;> exact Le.refl _
/-- With more rows an operation does the same. -/
theorem sem_mono (op : Op) (h : LookLe look look') : Le (sem op E ρ look at_) (sem op E ρ look' at_) := by
  cases op
  case load t x => exact (Le.refl _).obind fun ti => pure1_mono (loadS_mono h)
  case store t x y => exact (Le.refl _).obind fun ti => (Le.refl _).obind fun l => Le.bsel (Le.refl _) (smStore_mono h)
  case convert s d x => exact (Le.refl _).obind fun s => (Le.refl _).obind fun d => convS_mono h
  case lookup t x y ok => exact (Le.refl _).obind fun ti => (Le.refl _).obind fun z => Le.bsel (Le.bsel (Le.refl _) (pure1_mono ((mapS_mono h).obind fun _ => Le.refl _))) (Le.refl _)
  case mapUpdate t m k v => exact (Le.refl _).obind fun ti => (Le.refl _).obind fun z => Le.bsel (mapUpd_mono h) (Le.refl _)
  case insert t m k v => exact (Le.refl _).obind fun ti => (Le.refl _).obind fun z => Le.bsel (mapUpd_mono h) (Le.refl _)
  case range t x =>
    show Le (smRange t x E ρ look at_) (smRange t x E ρ look' at_)
    unfold smRange
    refine (Le.refl _).obind fun ti => ?_
    split
    · exact Le.refl _
    · exact (Le.refl _).obind fun _ => (mapS_mono h).obind fun _ => Le.refl _
  case next x s =>
    show Le (smNext x s E ρ look at_) (smNext x s E ρ look' at_)
    unfold smNext
    split
    · refine (h _).obind fun row => ?_
      unfold nextRow
      split
      · exact Le.refl _
      · exact Le.bsel (Le.refl _) ((mapS_mono h).obind fun _ => Le.refl _)
      · exact Le.refl _
    · exact Le.refl _
  case call c =>
    show Le (smCallee c.callee c.args c.argTypes E ρ look at_) (smCallee c.callee c.args c.argTypes E ρ look' at_)
    obtain ⟨f, args, ats⟩ := c
    cases f with
    | builtin b => exact bi_mono h
    | _ => exact Le.refl _
  all_goals exact Le.refl _

/-- What is written was there. -/
def OKR (look : Look) (p : SR) : Prop := ∀ v r row, p = some (v, .set r row) → ∃ row0, look r = some row0
theorem OKR.none : OKR look none := fun _ _ _ h => by cases h
theorem OKR.keep {v : AV} : OKR look (some (v, .keep)) := fun _ _ _ h => by cases h
theorem OKR.new {v : AV} {row : Row} : OKR look (some (v, .new row)) := fun _ _ _ h => by cases h
theorem OKR.set {v : AV} {r : Nat} {row row0 : Row} (h : look r = some row0) : OKR look (some (v, .set r row)) := fun _ _ _ e => by cases e; exact ⟨row0, h⟩
theorem OKR.obind {α : Type} {x : Option α} {f : α → SR} (h : ∀ a, x = some a → OKR look (f a)) : OKR look (obind x f) := fun v r row e => by
  obtain ⟨a, h1, h2⟩ := obind_eq e
  exact h a h1 v r row h2
theorem OKR.bsel {b : Bool} {x y : SR} (h : OKR look x) (h' : OKR look y) : OKR look (bsel b x y) := by cases b <;> assumption
theorem OKR.pure1 {x : Option AV} : OKR look (pure1 x) := OKR.obind fun _ _ => OKR.keep
def OKU (look : Look) (p : Option Upd) : Prop := ∀ r row, p = some (.set r row) → ∃ row0, look r = some row0
theorem OKU.upd1 {v : AV} {u : Option Upd} (h : OKU look u) : OKR look (upd1 v u) := fun v' r row e => by
  obtain ⟨a, h1, h2⟩ := obind_eq e
  cases h2
  exact h r row h1
theorem OKU.wrRow {r g o : Nat} {l : List AV} : OKU look (wrRow look r g o l) := fun r' row e => by
  unfold Go.CE.wrRow at e
  obtain ⟨row0, h1, h2⟩ := obind_eq e
  obtain ⟨p, _, h3⟩ := obind_eq h2
  obtain ⟨_, h4⟩ := bsel_none h3
  cases h4
  exact ⟨row0, h1⟩
theorem OKU.none : OKU look none := fun _ _ h => by cases h
theorem OKU.bsel {b : Bool} {x y : Option Upd} (h : OKU look x) (h' : OKU look y) : OKU look (bsel b x y) := by cases b <;> assumption
theorem okr_append {fresh e m : Nat} {x : AV} {l : List AV} : OKR look (appendS look fresh e x l m) := by
  unfold appendS
  split
  · exact OKR.bsel OKR.keep OKR.new
  · exact OKR.bsel (OKR.bsel OKR.keep (OKR.obind fun row hr => OKR.obind fun p _ => OKR.bsel (OKR.bsel (OKR.set hr) OKR.none) OKR.none)) OKR.none
  · exact OKR.bsel OKR.keep OKR.none
  · exact OKR.none
theorem okr_mapUpd {x k v : AV} : OKR look (mapUpd look x k v) := by
  unfold mapUpd
  split
  · refine OKR.obind fun es he => ?_
    obtain ⟨row, h1, _⟩ := obind_eq he
    exact OKR.obind fun p _ => OKR.set h1
  · exact OKR.none
theorem okr_conv {fresh : Nat} {a b : TK} {x : AV} : OKR look (convS look fresh a b x) := by
  unfold convS
  repeat (first
    | exact OKR.none | exact OKR.keep | exact OKR.new
    | refine OKR.bsel ?_ ?_
    | refine OKR.obind fun _ _ => ?_
    | split)
theorem okr_minmax {mx : Bool} {xs : List AV} : OKR look (minmax mx xs) := by
  unfold minmax
  refine OKR.obind fun l _ => ?_
  split
  · exact OKR.keep
  · exact OKR.none
theorem okr_bi {b : Builtin} {ts : List TypeId} {xs : List AV} : OKR look (bi b E look at_ ts xs) := by
  have h1 : ∀ b x, OKR look (bi1 b E look at_ ts x .bad) := by
    intro b x
    cases b <;> first
      | exact OKR.none
      | (show OKR look (biLen E look at_ ts x .bad)
         unfold biLen
         repeat (first
           | exact OKR.none | exact OKR.keep | exact OKR.new
           | refine OKR.bsel ?_ ?_
           | refine OKR.obind fun _ _ => ?_
           | split))
      | (show OKR look (biClear E look at_ ts x .bad)
         unfold biClear
         repeat (first
           | exact OKR.none | exact OKR.keep | exact OKR.new
           | exact OKU.upd1 OKU.wrRow
           | refine OKR.bsel ?_ ?_
           | refine OKR.obind fun _ _ => ?_
           | split))
  have h2 : ∀ b x y, OKR look (bi2 b E look at_ ts x y) := by
    intro b x y
    cases b <;> first
      | exact OKR.none
      | (show OKR look (biAppend E look at_ ts x y)
         unfold biAppend
         repeat (first
           | exact OKR.none | exact OKR.keep | exact OKR.new | exact okr_append
           | refine OKR.bsel ?_ ?_
           | refine OKR.obind fun _ _ => ?_
           | split))
      | (show OKR look (biCopy E look at_ ts x y)
         unfold biCopy
         repeat (first
           | exact OKR.none | exact OKR.keep | exact OKR.new
           | exact OKU.upd1 OKU.wrRow
           | refine OKR.bsel ?_ ?_
           | refine OKR.obind fun _ _ => ?_
           | split))
      | (show OKR look (biDelete E look at_ ts x y)
         unfold biDelete
         split
         · refine OKR.obind fun ti _ => OKR.obind fun k _ => ?_
           split
           · refine OKR.bsel (OKR.obind fun es he => ?_) OKR.none
             obtain ⟨row, h1, _⟩ := obind_eq he
             exact OKR.obind fun p _ => OKR.set h1
           · exact OKR.none
         · exact OKR.none)
  match xs with
  | [] => cases b <;> first | exact OKR.none | exact okr_minmax
  | [x] =>
    have := fun b => h1 b x
    cases b
    case len => exact this .len
    case clear => exact this .clear
    case min => exact okr_minmax
    case max => exact okr_minmax
    all_goals exact OKR.none
  | [x, y] =>
    have := fun b => h2 b x y
    cases b
    case append => exact this .append
    case copy => exact this .copy
    case delete => exact this .delete
    case min => exact okr_minmax
    case max => exact okr_minmax
    all_goals exact OKR.none
  | _ :: _ :: _ :: _ => cases b <;> first | exact OKR.none | exact okr_minmax
theorem sem_okr (op : Op) : OKR look (sem op E ρ look at_) := by
  cases op
  case move x => exact OKR.keep
  case assign x => exact OKR.keep
  case pick c a b =>
    show OKR look (smPick c a b E ρ look at_)
    unfold smPick
    split
    · exact OKR.keep
    · exact OKR.none
  case alloc t => exact OKR.obind fun ti _ => OKR.bsel OKR.none OKR.new
  case box t x => exact OKR.obind fun ti _ => OKR.new
  case build t ps => exact OKR.obind fun ti _ => OKR.obind fun fs _ => OKR.bsel OKR.none (OKR.obind fun l _ => OKR.obind fun cs _ => OKR.keep)
  case buildSlice t n ps => exact OKR.obind fun ti _ => OKR.obind fun k _ => OKR.obind fun l _ => OKR.obind fun cs _ => OKR.bsel OKR.none (OKR.bsel OKR.new OKR.none)
  case load t x => exact OKR.obind fun ti _ => OKR.pure1
  case store t x v =>
    refine OKR.obind fun ti _ => OKR.obind fun l _ => OKR.bsel OKR.none (OKR.bsel OKR.keep (OKU.upd1 ?_))
    unfold storeS
    split
    · exact OKU.bsel (OKU.bsel OKU.wrRow OKU.none) OKU.none
    · exact OKU.none
  case nilCheck x =>
    show OKR look (nilCheckS (ρ x))
    unfold nilCheckS
    split <;> first | exact OKR.keep | exact OKR.none
  case binOp b t x y t' => exact OKR.pure1
  case unOp b t x => exact OKR.pure1
  case convert s d x => exact OKR.obind fun s _ => OKR.obind fun d _ => okr_conv
  case makeInterface t x => exact OKR.none
  case makeFunc f b c =>
    show OKR look (mkFn f (b.toList.map ρ) (c.toList.map ρ))
    unfold mkFn
    split
    · exact OKR.keep
    · exact OKR.none
  case makeMap t r => exact OKR.obind fun ti _ => OKR.obind fun k _ => OKR.obind fun _ _ => OKR.new
  case makeSlice t n c => exact OKR.obind fun ti _ => OKR.obind fun k _ => OKR.obind fun n _ => OKR.obind fun c _ => OKR.bsel OKR.none (OKR.bsel (OKR.bsel (OKR.bsel OKR.new OKR.none) OKR.none) OKR.none)
  case slice t x lo hi mx =>
    show OKR look (smSlice t x lo hi mx E ρ look at_)
    unfold smSlice
    split
    · exact OKR.none
    · refine OKR.obind fun ti _ => OKR.obind fun h _ => OKR.obind fun l _ => ?_
      split
      · exact OKR.pure1
      · exact OKR.pure1
      · exact OKR.none
  case fieldAddr t x i => exact OKR.obind fun ti _ => OKR.obind fun fs _ => OKR.obind fun f _ => OKR.bsel OKR.none OKR.pure1
  case field t x i =>
    refine OKR.obind fun ti _ => OKR.obind fun fs _ => OKR.obind fun f _ => ?_
    split
    · exact OKR.bsel OKR.pure1 OKR.none
    · exact OKR.none
  case indexAddr t x i => exact OKR.obind fun ti _ => OKR.obind fun k _ => OKR.obind fun n _ => OKR.pure1
  case index t x i =>
    refine OKR.obind fun ti _ => OKR.obind fun k _ => OKR.obind fun n _ => ?_
    split
    · exact OKR.bsel OKR.keep OKR.none
    · exact OKR.none
  case lookup t x i ok => exact OKR.obind fun ti _ => OKR.obind fun z _ => OKR.bsel (OKR.bsel OKR.none OKR.pure1) OKR.none
  case mapUpdate t m k v => exact OKR.obind fun ti _ => OKR.obind fun z _ => OKR.bsel okr_mapUpd OKR.none
  case insert t m k v => exact OKR.obind fun ti _ => OKR.obind fun z _ => OKR.bsel okr_mapUpd OKR.none
  case range t x =>
    refine OKR.obind fun ti _ => ?_
    split
    · exact OKR.obind fun _ _ => OKR.new
    · exact OKR.obind fun _ _ => OKR.obind fun _ _ => OKR.obind fun _ _ => OKR.new
  case next x s =>
    show OKR look (smNext x s E ρ look at_)
    unfold smNext
    split
    · refine OKR.obind fun row hr => ?_
      unfold nextRow
      split
      · refine OKR.bsel (OKR.bsel ?_ OKR.keep) OKR.none
        exact OKR.set hr
      · exact OKR.bsel OKR.none (OKR.obind fun _ _ => OKR.obind fun _ _ => OKR.keep)
      · exact OKR.none
    · exact OKR.none
  case extract x i =>
    show OKR look (smExtract x i E ρ look at_)
    unfold smExtract
    split
    · exact OKR.pure1
    · exact OKR.none
  case call c =>
    show OKR look (smCallee c.callee c.args c.argTypes E ρ look at_)
    obtain ⟨f, args, ats⟩ := c
    cases f with
    | builtin b => exact okr_bi
    | _ => exact OKR.none
  all_goals exact OKR.none
end
end Go.CE

namespace Go.CE

/-! ### heaps -/
structure FR (x : Nat → Option Row) (b : Nat) (h h2 : Heap) : Prop where
  next : h2.next = h.next
  lo : h2.lo = h.lo
  ok : ∀ r, h2.rows.ok r = h.rows.ok r
  dom : ∀ r row, x r = some row → r < b
  old : ∀ r, x r = none → h2.rows.get r = h.rows.get r
  add : ∀ r row, x r = some row → h.rows.get r = none ∧ h2.rows.get r = some row
structure After (b : Nat) (h h' : Heap) : Prop where
  next : h.next ≤ h'.next
  lo : h'.lo ≤ h.lo
  ok : ∀ r, h'.rows.ok r = h.rows.ok r
  keep : ∀ r, r < b → r < h'.lo → h'.rows.get r = h.rows.get r
  gone : ∀ r, r < b → h.rows.get r = none → h'.rows.get r = none
theorem After.refl (b : Nat) (h : Heap) : After b h h := ⟨Nat.le_refl _, Nat.le_refl _, fun _ => rfl, fun _ _ _ => rfl, fun _ _ h => h⟩
theorem After.trans {b : Nat} {h h' h'' : Heap} (x : After b h h') (y : After b h' h'') : After b h h'' :=
  ⟨Nat.le_trans x.next y.next, Nat.le_trans y.lo x.lo, fun r => (y.ok r).trans (x.ok r), fun r h1 h2 => (y.keep r h1 h2).trans (x.keep r h1 (Nat.lt_of_lt_of_le h2 y.lo)),
   fun r h1 h2 => y.gone r h1 (x.gone r h1 h2)⟩
theorem After.mono {b b' : Nat} {h h' : Heap} (x : After b h h') (hb : b' ≤ b) : After b' h h' :=
  ⟨x.next, x.lo, x.ok, fun r h1 h2 => x.keep r (Nat.lt_of_lt_of_le h1 hb) h2, fun r h1 h2 => x.gone r (Nat.lt_of_lt_of_le h1 hb) h2⟩
theorem FR.le {x : Nat → Option Row} {b : Nat} {h h2 : Heap} (f : FR x b h h2) : LookLe h.rows.get h2.rows.get := fun r row hr => by
  cases hx : x r with
  | none => rw [f.old r hx]; exact hr
  | some row' => rw [(f.add r row' hx).1] at hr; cases hr
theorem lower_mono {lo lo' r : Nat} (h : lo = lo') : lower lo r = lower lo' r := by rw [h]
theorem lower_min (lo r : Nat) : lower lo r = min lo r := by
  unfold lower
  cases hb : Nat.ble lo r with
  | true => rw [bsel_true]; have := ble_le hb; omega
  | false => rw [bsel_false]; have := ble_lt hb; omega
/-- A row that is laid anew. -/
theorem FR.new {x : Nat → Option Row} {b : Nat} {h h2 : Heap} (f : FR x b h h2) {at_ next : Nat} (row : Row) (hat : b ≤ at_) : FR x b ⟨h.rows.set at_ row, next, h.lo⟩ ⟨h2.rows.set at_ row, next, h2.lo⟩ :=
  ⟨rfl, f.lo, fun r => by simp only [Q.ok_set, f.ok], f.dom, fun r hx => by
    simp only [Q.get_set, f.ok]
    split
    · rfl
    · exact f.old r hx, fun r row' hx => by
    have hr := f.dom r row' hx
    have hne : r ≠ at_ := by omega
    simp only [Q.get_set, if_neg hne]
    exact f.add r row' hx⟩
theorem After.new {b : Nat} (h : Heap) {at_ next : Nat} (row : Row) (hat : b ≤ at_) (hn : h.next ≤ next) : After b h ⟨h.rows.set at_ row, next, h.lo⟩ :=
  ⟨hn, Nat.le_refl _, fun r => Q.ok_set _ _ _ _, fun r hr _ => Q.get_set_ne _ _ _ _ (by omega), fun r hr hg => by
    show (h.rows.set at_ row).get r = none
    rw [Q.get_set_ne _ _ _ _ (by omega)]; exact hg⟩
/-- A row that is there and becomes another one. -/
theorem FR.setLo {x : Nat → Option Row} {b : Nat} {h h2 : Heap} (f : FR x b h h2) {r : Nat} {row0 : Row} (row : Row) (lo lo2 : Nat) (hlo : lo2 = lo) (hr : h.rows.get r = some row0) : FR x b ⟨h.rows.set r row, h.next, lo⟩ ⟨h2.rows.set r row, h2.next, lo2⟩ :=
  ⟨f.next, hlo, fun r' => by simp only [Q.ok_set, f.ok], f.dom, fun r' hx => by
    simp only [Q.get_set, f.ok]
    split
    · rfl
    · exact f.old r' hx, fun r' row' hx => by
    have h1 := f.add r' row' hx
    have hne : r' ≠ r := fun e => by subst e; rw [hr] at h1; cases h1.1
    simp only [Q.get_set, if_neg hne]
    exact h1⟩
theorem FR.set {x : Nat → Option Row} {b : Nat} {h h2 : Heap} (f : FR x b h h2) {r : Nat} {row0 : Row} (row : Row) (hr : h.rows.get r = some row0) : FR x b ⟨h.rows.set r row, h.next, lower h.lo r⟩ ⟨h2.rows.set r row, h2.next, lower h2.lo r⟩ :=
  f.setLo row _ _ (by rw [f.lo]) hr
theorem After.set {b : Nat} (h : Heap) {r : Nat} {row0 : Row} (row : Row) (hr : h.rows.get r = some row0) : After b h ⟨h.rows.set r row, h.next, lower h.lo r⟩ :=
  ⟨Nat.le_refl _, by show lower h.lo r ≤ h.lo; rw [lower_min]; omega, fun r => Q.ok_set _ _ _ _, fun r' _ hl => Q.get_set_ne _ _ _ _ (by
    have hl' : r' < lower h.lo r := hl
    rw [lower_min] at hl'; omega), fun r' _ hg => by
    have hne : r' ≠ r := fun e => by subst e; rw [hr] at hg; cases hg
    show (h.rows.set r row).get r' = none
    rw [Q.get_set_ne _ _ _ _ hne]; exact hg⟩
theorem FR.apply {x : Nat → Option Row} {b : Nat} {h h2 : Heap} (f : FR x b h h2) {at_ next next2 : Nat} {u : Upd} (hn : next2 = next) (hat : b ≤ at_) (hu : ∀ r row, u = .set r row → ∃ row0, h.rows.get r = some row0) :
    FR x b (applyU h at_ next u) (applyU h2 at_ next2 u) := by
  subst hn
  cases u with
  | keep => exact f
  | new row => exact f.new row hat
  | set r row => obtain ⟨row0, h0⟩ := hu r row rfl; exact f.set row h0
theorem After.apply {b : Nat} (h : Heap) {at_ next : Nat} {u : Upd} (hat : b ≤ at_) (hn : h.next ≤ next) (hu : ∀ r row, u = .set r row → ∃ row0, h.rows.get r = some row0) :
    After b h (applyU h at_ next u) := by
  cases u with
  | keep => exact After.refl b h
  | new row => exact After.new h row hat hn
  | set r row => obtain ⟨row0, h0⟩ := hu r row rfl; exact After.set h row h0
theorem FR.lift {x : Nat → Option Row} {b : Nat} {h h2 : Heap} (f : FR x b h h2) (lo : Nat) : FR x b ⟨h.rows, h.next, lo⟩ ⟨h2.rows, h2.next, lo⟩ := ⟨f.next, rfl, f.ok, f.dom, f.old, f.add⟩

/-! ### what the evaluator does with more rows -/
def GoodAt {α β : Type} (mk : α → Heap → β) (b : Nat) (f : Heap → Option β) (h : Heap) : Prop :=
  ∀ y, f h = some y → ∃ v h', y = mk v h' ∧ After b h h' ∧ ∀ x h2, FR x b h h2 → ∃ h2', f h2 = some (mk v h2') ∧ FR x b h' h2'
theorem GoodAt.ret {α β : Type} {mk : α → Heap → β} {b : Nat} {v : α} {h : Heap} : GoodAt mk b (fun h => some (mk v h)) h := fun y e => by
  cases e
  exact ⟨v, h, rfl, After.refl b h, fun x h2 hf => ⟨h2, rfl, hf⟩⟩
theorem GoodAt.none {α β : Type} {mk : α → Heap → β} {b : Nat} {h : Heap} : GoodAt mk b (fun _ => none) h := fun y e => by cases e
theorem GoodAt.bsel {α β : Type} {mk : α → Heap → β} {b : Nat} {h : Heap} {c : Bool} {f g : Heap → Option β} (hf : GoodAt mk b f h) (hg : GoodAt mk b g h) : GoodAt mk b (fun h => bsel c (f h) (g h)) h := by
  cases c <;> assumption
/-- What is read is the same with more rows. -/
theorem GoodAt.read {α β γ : Type} {mk : α → Heap → β} {b : Nat} {h : Heap} {g : Heap → Option γ} {k : γ → Heap → Option β}
    (hg : ∀ x h2, FR x b h h2 → Le (g h) (g h2)) (hk : ∀ y, g h = some y → GoodAt mk b (k y) h) : GoodAt mk b (fun h => obind (g h) fun y => k y h) h := fun z e => by
  obtain ⟨y, h1, h2⟩ := obind_eq e
  obtain ⟨v, h', e1, e2, e3⟩ := hk y h1 z h2
  refine ⟨v, h', e1, e2, fun x h2 hf => ?_⟩
  obtain ⟨h2', e4, e5⟩ := e3 x h2 hf
  refine ⟨h2', ?_, e5⟩
  show obind (g h2) (fun y => k y h2) = _
  rw [hg x h2 hf y h1]; exact e4
theorem GoodAt.const {α β γ : Type} {mk : α → Heap → β} {b : Nat} {h : Heap} {g : Option γ} {k : γ → Heap → Option β}
    (hk : ∀ y, g = some y → GoodAt mk b (k y) h) : GoodAt mk b (fun h => obind g fun y => k y h) h := GoodAt.read (g := fun _ => g) (fun _ _ _ => Le.refl _) hk
/-- The heap is changed first. -/
theorem GoodAt.step {α β : Type} {mk : α → Heap → β} {b : Nat} {h : Heap} {T : Heap → Heap} {f : Heap → Option β} (ha : After b h (T h)) (hT : ∀ x h2, FR x b h h2 → FR x b (T h) (T h2)) (hf : GoodAt mk b f (T h)) :
    GoodAt mk b (fun h => f (T h)) h := fun y e => by
  obtain ⟨v, h', e1, e2, e3⟩ := hf y e
  exact ⟨v, h', e1, ha.trans e2, fun x h2 hx => e3 x (T h2) (hT x h2 hx)⟩
theorem GoodAt.bind {α β α' β' : Type} {mk : α → Heap → β} {mk' : α' → Heap → β'} {b : Nat} {h : Heap} {f : Heap → Option β} {k : β → Option β'}
    (hf : GoodAt mk b f h) (hk : ∀ v h', f h = some (mk v h') → After b h h' → GoodAt mk' b (fun h => k (mk v h)) h') : GoodAt mk' b (fun h => obind (f h) k) h := fun z e => by
  obtain ⟨y, h1, h2⟩ := obind_eq e
  obtain ⟨v, h', rfl, e2, e3⟩ := hf y h1
  obtain ⟨v', h'', rfl, e5, e6⟩ := hk v h' h1 e2 z h2
  refine ⟨v', h'', rfl, e2.trans e5, fun x h2 hx => ?_⟩
  obtain ⟨h2', e7, e8⟩ := e3 x h2 hx
  obtain ⟨h2'', e9, e10⟩ := e6 x h2' e8
  refine ⟨h2'', ?_, e10⟩
  show obind (f h2) k = _
  rw [e7]; exact e9
/-- What is asked of calls. -/
def Good (cf : CallF) : Prop := ∀ t args b h, b ≤ h.next → GoodAt Prod.mk b (cf t args) h
end Go.CE

namespace Go.CE
section
variable {P : Program} {E : Env} {cf : CallF} {L : Nat} {ro : Option Nat}

theorem sem_good {β : Type} {α : Type} {mk : α → Heap → β} {b at_ : Nat} {h : Heap} {op : Op} {a : Tmps} {k : AV × Upd → Heap → Option β} (hk : ∀ v u, sem op E (ev a) h.rows.get at_ = some (v, u) → (∀ r row, u = .set r row → ∃ row0, h.rows.get r = some row0) → GoodAt mk b (k (v, u)) h) :
    GoodAt mk b (fun h => obind (sem op E (ev a) h.rows.get at_) fun p => k p h) h :=
  GoodAt.read (fun x h2 hf => sem_mono op hf.le) fun y hy => by
    obtain ⟨v, u⟩ := y
    exact hk v u hy fun r row e => sem_okr op v r row (e ▸ hy)
theorem apply_good {β : Type} {α : Type} {mk : α → Heap → β} {b at_ : Nat} {h : Heap} {u : Upd} {next : Heap → Nat} {f : Heap → Option β} (hat : b ≤ at_) (hn : h.next ≤ next h) (hn2 : ∀ x h2, FR x b h h2 → next h2 = next h)
    (hu : ∀ r row, u = .set r row → ∃ row0, h.rows.get r = some row0) (hf : GoodAt mk b f (applyU h at_ (next h) u)) : GoodAt mk b (fun h => applyK h at_ (next h) u f) h := by
  have e : (fun h => applyK h at_ (next h) u f) = fun h => f (applyU h at_ (next h) u) := funext fun h => applyK_eq _ _ _ _ _
  rw [e]
  exact GoodAt.step (After.apply h hat hn hu) (fun x h2 hx => hx.apply (hn2 x h2 hx) hat hu) hf
/-- The heap's next row is the same with more rows. -/
theorem GoodAt.next {β : Type} {α : Type} {mk : α → Heap → β} {b : Nat} {h : Heap} {g : Nat → Heap → Option β} (hg : GoodAt mk b (g h.next) h) : GoodAt mk b (fun h => g h.next h) h := fun y e => by
  obtain ⟨v, h', e1, e2, e3⟩ := hg y e
  refine ⟨v, h', e1, e2, fun x h2 hf => ?_⟩
  obtain ⟨h2', e4, e5⟩ := e3 x h2 hf
  exact ⟨h2', by show g h2.next h2 = _; rw [hf.next]; exact e4, e5⟩
theorem evOps_good (hC : Good cf) {all : List Oper} : ∀ (l : List Oper) (a : Tmps) (b : Nat) (h : Heap), b ≤ h.next → GoodAt Prod.mk b (evOps E cf all l a) h
  | [], a, b, h, _ => GoodAt.ret
  | o :: l, a, b, h, hb => by
    show GoodAt Prod.mk b (fun h => obind (wantedS all a o.guard) fun c => bsel c
      (Option.rec (motive := fun _ => OR)
        (obind (sem o.op E (ev a) h.rows.get h.next) fun p => applyK h h.next (Nat.succ h.next) p.2 fun h => evOps E cf all l (putS a o.dst p.1) h)
        (fun tg => obind (tg a) fun q => obind (cf q.1 q.2 h) fun p => evOps E cf all l (putS a o.dst p.1) p.2)
        (tgt o.op))
      (evOps E cf all l (putS a o.dst .undef) h)) h
    refine GoodAt.const fun c _ => GoodAt.bsel ?_ (evOps_good hC l _ b h hb)
    cases tgt o.op with
    | none =>
      refine GoodAt.next (g := fun n h => obind (sem o.op E (ev a) h.rows.get n) fun p => applyK h n (Nat.succ n) p.2 fun h => evOps E cf all l (putS a o.dst p.1) h) ?_
      refine sem_good fun v u hs hu => ?_
      refine apply_good (next := fun _ => Nat.succ h.next) hb (Nat.le_succ _) (fun _ _ _ => rfl) hu (evOps_good hC l _ b _ ?_)
      exact Nat.le_trans hb (After.apply (b := b) h hb (Nat.le_succ _) hu).next
    | some tg =>
      refine GoodAt.const fun q _ => GoodAt.bind (hC q.1 q.2 b h hb) fun v h' _ hA => ?_
      exact evOps_good hC l _ b h' (Nat.le_trans hb hA.next)
theorem evDraw_good (hC : Good cf) {q : Q Nat} {cb n base : Nat} {ops : List Oper} : ∀ (l : List Nat) (log : DLog) (a : Tmps) (b : Nat) (h : Heap), b ≤ base → b ≤ h.next → GoodAt Prod.mk b (evDraw E cf q cb n base ops l log a) h
  | [], log, a, b, h, _, _ => GoodAt.ret
  | i :: l, log, a, b, h, hb, hbn => by
    show GoodAt Prod.mk b (fun h => obind (nth ops i) fun o => obind (wantedS ops a o.guard) fun c => bsel c
      (Option.rec (motive := fun _ => OR)
        (bsel (bsel (allB (mayLook q cb base n i) (accR o.op (ev a))) (logOk q i (cls o.op) (accR o.op (ev a)) log) false)
          (obind (sem o.op E (ev a) h.rows.get (Nat.add base i)) fun p => bsel (updFit (cls o.op) (accR o.op (ev a)) p.2) (applyK h (Nat.add base i) h.next p.2 fun h => evDraw E cf q cb n base ops l ((i, cls o.op, accR o.op (ev a)) :: log) (putS a o.dst p.1) h) none) none)
        (fun tg => obind (tg a) fun t => obind (cf t.1 t.2 ⟨h.rows, h.next, 1000000000⟩) fun p =>
          evDraw E cf q cb n base ops l (callLog (bsel (Nat.ble h.next p.2.lo) true (solo q i ops 0)) i log) (putS a o.dst p.1) ⟨p.2.rows, p.2.next, lower h.lo p.2.lo⟩)
        (tgt o.op))
      (evDraw E cf q cb n base ops l log (putS a o.dst .undef) h)) h
    refine GoodAt.const fun o _ => GoodAt.const fun c _ => GoodAt.bsel ?_ (evDraw_good hC l _ _ b h hb hbn)
    have hbi : b ≤ base + i := by omega
    cases tgt o.op with
    | none =>
      refine GoodAt.bsel (sem_good fun v u hs hu => GoodAt.bsel ?_ GoodAt.none) GoodAt.none
      refine apply_good (next := fun h => h.next) hbi (Nat.le_refl _) (fun _ _ hf => hf.next) hu (evDraw_good hC l _ _ b _ hb ?_)
      exact Nat.le_trans hbn (After.apply (b := b) h hbi (Nat.le_refl _) hu).next
    | some tg =>
      refine GoodAt.const fun t _ => ?_
      intro y e
      obtain ⟨p, h1, h2⟩ := obind_eq e
      obtain ⟨v, h', rfl, hA, hF⟩ := hC t.1 t.2 b ⟨h.rows, h.next, 1000000000⟩ hbn p h1
      have h3 := h2
      have hA' : After b h ⟨h'.rows, h'.next, lower h.lo h'.lo⟩ := ⟨hA.next, (lower_le _ _).1, hA.ok, fun r hr hl => hA.keep r hr (Nat.lt_of_lt_of_le hl (lower_le _ _).2), hA.gone⟩
      obtain ⟨v2, h'', e1, e2, e3⟩ := evDraw_good hC l (callLog (bsel (Nat.ble h.next h'.lo) true (solo q i ops 0)) i log) (putS a o.dst v) b ⟨h'.rows, h'.next, lower h.lo h'.lo⟩ hb (Nat.le_trans hbn hA.next) y h3
      refine ⟨v2, h'', e1, hA'.trans e2, fun x h2 hf => ?_⟩
      obtain ⟨h2', e4, e5⟩ := hF x ⟨h2.rows, h2.next, 1000000000⟩ (hf.lift _)
      obtain ⟨h2'', e6, e7⟩ := e3 x ⟨h2'.rows, h2'.next, lower h2.lo h2'.lo⟩ ⟨e5.next, by show lower h2.lo h2'.lo = lower h.lo h'.lo; rw [hf.lo, e5.lo], e5.ok, e5.dom, e5.old, e5.add⟩
      refine ⟨h2'', ?_, e7⟩
      show obind (cf t.1 t.2 ⟨h2.rows, h2.next, 1000000000⟩) _ = _
      rw [e4]
      show evDraw E cf q cb n base ops l (callLog (bsel (Nat.ble h2.next h2'.lo) true (solo q i ops 0)) i log) (putS a o.dst v) ⟨h2'.rows, h2'.next, lower h2.lo h2'.lo⟩ = _
      rw [show Nat.ble h2.next h2'.lo = Nat.ble h.next h'.lo by rw [hf.next, e5.lo]]
      exact e6
theorem goDraw_good (hC : Good cf) {ops : List Oper} {a : Tmps} {b : Nat} {h : Heap} (hb : b ≤ h.next) : GoodAt Prod.mk b (goDraw E cf ops a) h := by
  refine GoodAt.next (g := fun n h => bsel (drawOk ops) (evDraw E cf (ancQ ops) (callBits ops 0) (llen ops) n ops (canon (ancQ ops) ops) [] a ⟨h.rows, Nat.add n (llen ops), h.lo⟩) none) ?_
  refine GoodAt.bsel ?_ GoodAt.none
  refine GoodAt.step (T := fun h' => ⟨h'.rows, Nat.add h.next (llen ops), h'.lo⟩) ⟨Nat.le_add_right _ _, Nat.le_refl _, fun _ => rfl, fun _ _ _ => rfl, fun _ _ h => h⟩ (fun x h2 hf => ⟨rfl, hf.lo, hf.ok, hf.dom, hf.old, hf.add⟩)
    (evDraw_good hC _ _ _ b _ hb (Nat.le_trans hb (Nat.le_add_right _ _)))

def mkC (p : Ex × Tmps) (h : Heap) : Ex × Tmps × Heap := (p.1, p.2, h)
theorem thenN_good {b : Nat} {h : Heap} {f : Heap → CR} {k : Tmps → Heap → CR} (hf : GoodAt mkC b f h) (hk : ∀ a h', After b h h' → GoodAt mkC b (k a) h') : GoodAt mkC b (fun h => thenN (f h) k) h := by
  refine GoodAt.bind (k := fun p => Ex.rec (motive := fun _ => CR) (k p.2.1 p.2.2) (fun i => some (.exit i, p.2)) (some (.ret, p.2)) p.1) hf fun v h' _ hA => ?_
  obtain ⟨e, a⟩ := v
  cases e with
  | normal => exact hk a h' hA
  | exit id => exact GoodAt.ret (v := (Ex.exit id, a))
  | ret => exact GoodAt.ret (v := (Ex.ret, a))
theorem iter_good {f : Tmps → Heap → CR} {b : Nat} (hf : ∀ a h, b ≤ h.next → GoodAt mkC b (f a) h) : ∀ (n : Nat) (a : Tmps) (h : Heap), b ≤ h.next → GoodAt mkC b (iter f n a) h
  | 0, _, _, _ => GoodAt.none
  | n + 1, a, h, hb => thenN_good (hf a h hb) fun a' h' hA => iter_good hf n a' h' (Nat.le_trans hb hA.next)
theorem outOf_good {b id : Nat} {h : Heap} {f : Heap → CR} (hf : GoodAt mkC b f h) : GoodAt mkC b (fun h => outOf id (f h)) h := by
  refine GoodAt.bind (k := fun p => Ex.rec (motive := fun _ => CR) (some (.normal, p.2)) (fun i => some (bsel (Nat.beq i id) .normal (.exit i), p.2)) (some (.ret, p.2)) p.1) hf fun v h' _ hA => ?_
  obtain ⟨e, a⟩ := v
  cases e with
  | normal => exact GoodAt.ret (v := (Ex.normal, a))
  | exit i => exact GoodAt.ret (v := (bsel (Nat.beq i id) Ex.normal (Ex.exit i), a))
  | ret => exact GoodAt.ret (v := (Ex.ret, a))
theorem read_row {x : Nat → Option Row} {b : Nat} {h h2 : Heap} {γ : Type} {f : Row → Option γ} (r : Nat) (hf : FR x b h h2) : Le (obind (h.rows.get r) f) (obind (h2.rows.get r) f) := (hf.le r).obind fun _ => Le.refl _
theorem roHere_mono {x : Nat → Option Row} {b : Nat} {h h2 : Heap} (hf : FR x b h h2) : Le (roHere ro h) (roHere ro h2) := by
  cases ro with
  | none => exact Le.refl _
  | some r => exact read_row r hf
theorem rangeS_good (hC : Good cf) {f : Operand} {ps : Array Tmp} {assign body : Code} {a : Tmps} {b : Nat} {h : Heap} (hb : b ≤ h.next) : GoodAt mkC b (rangeS E cf ro f ps assign body a) h := by
  refine GoodAt.read (g := roHere ro) (fun x h2 hf => roHere_mono hf) fun _ _ => ?_
  refine GoodAt.next (g := fun n h => obind (tgtV [.yield n] (ev a f)) fun q => bsel (plainTgt E q.1)
    (obind (cf q.1 q.2 ⟨h.rows.set n (.loop false none a ps.toList assign body), Nat.succ n, h.lo⟩) fun p =>
    obind (obind (p.2.rows.get n) loopAll) fun z => bsel z.1 none
      (Option.rec (motive := fun _ => CR) (some (.normal, a, overS n z p.2)) (fun c => obind (exOf c) fun e => some (e, a, overS n z p.2)) z.2.1)) none) ?_
  refine GoodAt.const fun q _ => GoodAt.bsel ?_ GoodAt.none
  refine GoodAt.step (T := fun h' => ⟨h'.rows.set h.next (.loop false none a ps.toList assign body), Nat.succ h.next, h'.lo⟩) (After.new h _ hb (Nat.le_succ _)) (fun x h2 hf => hf.new _ hb)
    (f := fun h' => obind (cf q.1 q.2 h') fun p => obind (obind (p.2.rows.get h.next) loopAll) fun z => bsel z.1 none
      (Option.rec (motive := fun _ => CR) (some (.normal, a, overS h.next z p.2)) (fun c => obind (exOf c) fun e => some (e, a, overS h.next z p.2)) z.2.1)) ?_
  refine GoodAt.bind (hC q.1 q.2 b _ (Nat.le_trans hb (Nat.le_succ _))) fun v h' _ hA => ?_
  refine GoodAt.read (g := fun h' => obind (h'.rows.get h.next) loopAll) (fun x h2 hf => read_row _ hf) fun z hz => GoodAt.bsel GoodAt.none ?_
  obtain ⟨row0, h0, _⟩ := obind_eq hz
  have hA' : After b h' (overS h.next z h') := ⟨Nat.le_refl _, Nat.le_refl _, fun r => Q.ok_set _ _ _ _, fun r hr _ => Q.get_set_ne _ _ _ _ (by omega), fun r hr hg => by
    show (h'.rows.set _ _).get r = none
    rw [Q.get_set_ne _ _ _ _ (by omega)]; exact hg⟩
  have hT : ∀ x h2, FR x b h' h2 → FR x b (overS h.next z h') (overS h.next z h2) := fun x h2 hf => hf.setLo _ _ _ hf.lo h0
  cases z.2.1 with
  | none => exact GoodAt.step (f := fun h => some (mkC (Ex.normal, a) h)) hA' hT GoodAt.ret
  | some c =>
    refine GoodAt.const fun e _ => ?_
    exact GoodAt.step (f := fun h => some (mkC (e, a) h)) hA' hT GoodAt.ret
theorem evCode_good (hC : Good cf) (c : Code) : ∀ (a : Tmps) (b : Nat) (h : Heap), b ≤ h.next → GoodAt mkC b (evCode E cf L ro c a) h := by
  induction c with
  | skip => intro a b h _; exact GoodAt.ret (v := (Ex.normal, a))
  | exit id => intro a b h _; exact GoodAt.ret (v := (Ex.exit id, a))
  | ret => intro a b h _; exact GoodAt.ret (v := (Ex.ret, a))
  | region id ops d =>
    intro a b h hb
    show GoodAt mkC b (fun h => obind (bsel d (goDraw E cf ops.toList a h) (evOps E cf ops.toList ops.toList a h)) fun p => some (.normal, p)) h
    refine GoodAt.bind (mk := Prod.mk) (GoodAt.bsel (goDraw_good hC hb) (evOps_good hC _ _ b h hb)) fun v h' _ hA => ?_
    exact GoodAt.ret (mk := mkC) (v := (Ex.normal, v))
  | seq x y ix iy => intro a b h hb; exact thenN_good (ix a b h hb) fun a' h' hA => iy a' b h' (Nat.le_trans hb hA.next)
  | cond t x y ix iy =>
    intro a b h hb
    show GoodAt mkC b (fun h => condS (ev a t) (evCode E cf L ro x a h) (evCode E cf L ro y a h)) h
    unfold condS
    cases ev a t <;> first | exact GoodAt.none | skip
    exact GoodAt.bsel (ix a b h hb) (iy a b h hb)
  | block id x ix => intro a b h hb; exact outOf_good (ix a b h hb)
  | loop x ix => intro a b h hb; exact iter_good (fun a h hb => ix a b h hb) L a h hb
  | rangeFunc f ps assign body _ _ => intro a b h hb; exact rangeS_good hC hb
  | scope => intro a b h hb; exact GoodAt.none
  | label => intro a b h hb; exact GoodAt.none
  | goto => intro a b h hb; exact GoodAt.none
  | refuse => intro a b h hb; exact GoodAt.none

theorem mapO_mono {α β : Type} {f g : α → Option β} (h : ∀ x, Le (f x) (g x)) : ∀ (l : List α), Le (mapO f l) (mapO g l)
  | [] => Le.refl _
  | x :: l => (h x).obind fun _ => (mapO_mono h l).obind fun _ => Le.refl _
theorem resOne_mono {x : Nat → Option Row} {b : Nat} {h h2 : Heap} {a : Tmps} (hf : FR x b h h2) (r : ResultVar) : Le (resOne E h a r) (resOne E h2 a r) := by
  unfold resOne
  split
  · exact Le.refl _
  · exact (Le.refl _).obind fun _ => loadS_mono hf.le
theorem freeze_mono {look look' : Look} {base : Nat} (h : LookLe look look') : ∀ (n : Nat) (v : AV), Le (freeze look base n v) (freeze look' base n v)
  | 0, _ => Le.refl _
  | n + 1, v => by
    show Le (freezeRow base (freeze look base n) look v) (freezeRow base (freeze look' base n) look' v)
    have ih := freeze_mono (base := base) h n
    unfold freezeRow
    split
    · exact Le.bsel ((rdRow_mono h).obind fun _ => (mapO_mono ih _).obind fun _ => Le.refl _) (Le.refl _)
    · exact Le.bsel (((h _).obind fun _ => Le.refl _).obind fun _ => (mapO_mono ih _).obind fun _ => (mapO_mono ih _).obind fun _ => Le.refl _) (Le.refl _)
    · exact Le.bsel ((rdRow_mono h).obind fun _ => (mapO_mono ih _).obind fun _ => Le.refl _) (Le.refl _)
    · exact (mapO_mono ih _).obind fun _ => Le.refl _
    · exact (mapO_mono ih _).obind fun _ => Le.refl _
    · exact (mapO_mono ih _).obind fun _ => (mapO_mono ih _).obind fun _ => Le.refl _
    · exact (ih _).obind fun _ => Le.refl _
    · exact Le.refl _
    · exact (mapO_mono ih _).obind fun _ => Le.refl _
    · exact (mapO_mono ih _).obind fun _ => Le.refl _
    · exact (mapO_mono ih _).obind fun _ => (mapO_mono ih _).obind fun _ => Le.refl _
    · exact Le.refl _
theorem leave_good {f : FuncId} {b : Nat} {h h1 : Heap} {v : AV} {y : AV × Heap} (hb : b ≤ h.next) (hA : After b ⟨h.rows, h.next, 1000000000⟩ h1) (hl : leave E f h h1 v = some y) :
    ∃ v' h', y = (v', h') ∧ After b h h' ∧ ∀ x h2 h12, FR x b h h2 → FR x b h1 h12 → ∃ h2', leave E f h2 h12 v = some (v', h2') ∧ FR x b h' h2' := by
  unfold leave at hl
  have hlo : After b h ⟨h1.rows, h1.next, lower h.lo h1.lo⟩ := ⟨hA.next, (lower_le _ _).1, hA.ok, fun r hr hl => hA.keep r hr (Nat.lt_of_lt_of_le hl (lower_le _ _).2), hA.gone⟩
  cases hc : Nat.ble h.next h1.lo with
  | true =>
    rw [hc, bsel_true] at hl
    have hle := ble_le hc
    cases hn : E.nof f with
    | true =>
      rw [hn, bsel_true] at hl
      cases hl
      refine ⟨v, _, rfl, ⟨hA.next, Nat.le_refl _, hA.ok, fun r hr _ => hA.keep r hr (by omega), hA.gone⟩, fun x h2 h12 hf hf1 => ?_⟩
      unfold leave
      rw [hf.next, hf1.lo, hc, hn, bsel_true, bsel_true]
      exact ⟨_, rfl, ⟨hf1.next, hf.lo, hf1.ok, hf1.dom, hf1.old, hf1.add⟩⟩
    | false =>
      rw [hn, bsel_false] at hl
      obtain ⟨v', h3, h4⟩ := obind_eq hl
      cases h4
      refine ⟨v', h, rfl, After.refl b h, fun x h2 h12 hf hf1 => ⟨h2, ?_, hf⟩⟩
      unfold leave
      rw [hf.next, hf1.lo, hc, hn, bsel_true, bsel_false, freeze_mono hf1.le 60 v v' h3]
      rfl
  | false =>
    rw [hc, bsel_false] at hl
    cases hl
    refine ⟨v, _, rfl, hlo, fun x h2 h12 hf hf1 => ?_⟩
    unfold leave
    rw [hf.next, hf1.lo, hc, bsel_false]
    exact ⟨_, rfl, ⟨hf1.next, by show lower h2.lo _ = lower h.lo _; rw [hf.lo], hf1.ok, hf1.dom, hf1.old, hf1.add⟩⟩
theorem enter_good (hC : Good cf) {f : FuncId} {args : List AV} {fn : Func} {b : Nat} {h : Heap} (hb : b ≤ h.next) : GoodAt Prod.mk b (fun h => enter E cf L f args h fn) h := by
  unfold enter
  refine GoodAt.const fun c _ => GoodAt.bsel ?_ GoodAt.none
  intro y e
  obtain ⟨p, h1, h2⟩ := obind_eq e
  obtain ⟨⟨ex, a'⟩, h', rfl, hA, hF⟩ := evCode_good hC c (Q.fillK args 0 (Q.full (depthOf fn.ntmps)) (fun q => q)) b ⟨h.rows, h.next, 1000000000⟩ hb p h1
  have hfin : obind (mapO (resOne E h' a') fn.results.toList) (fun vs => leave E f h h' (packR vs)) = some y → (∀ i, ex ≠ .exit i) →
      ∃ v' h'', y = (v', h'') ∧ After b h h'' ∧ ∀ x h2, FR x b h h2 → ∃ h2', finish E f fn.results.toList h2 (evCode E cf L none c (Q.fillK args 0 (Q.full (depthOf fn.ntmps)) (fun q => q)) ⟨h2.rows, h2.next, 1000000000⟩) = some (v', h2') ∧ FR x b h'' h2' := by
    intro h3 hex
    obtain ⟨vs, h4, h5⟩ := obind_eq h3
    obtain ⟨v', h'', e1, e2, e3⟩ := leave_good hb hA h5
    refine ⟨v', h'', e1, e2, fun x h2 hf => ?_⟩
    obtain ⟨h12, e4, e5⟩ := hF x ⟨h2.rows, h2.next, 1000000000⟩ (hf.lift _)
    obtain ⟨h2', e6, e7⟩ := e3 x h2 h12 hf e5
    refine ⟨h2', ?_, e7⟩
    have e8 : obind (mapO (resOne E h12 a') fn.results.toList) (fun vs => leave E f h2 h12 (packR vs)) = some (v', h2') := by
      rw [mapO_mono (resOne_mono e5) _ vs h4]; exact e6
    unfold finish
    rw [e4]
    cases ex with
    | normal => exact e8
    | exit i => exact absurd rfl (hex i)
    | ret => exact e8
  cases ex with
  | normal => exact hfin h2 (fun i e => by cases e)
  | exit i => cases h2
  | ret => exact hfin h2 (fun i e => by cases e)
theorem setLoop_good {α β : Type} {mk : α → Heap → β} {r : Nat} {busy : Bool} {pend : Option Code} {z : Bool × Option Code × Tmps × List Nat × Code × Code} {b : Nat} {h : Heap} {row0 : Row} {f : Heap → Option β} (hr : h.rows.get r = some row0)
    (hf : GoodAt mk b f (setLoop r busy pend z h)) : GoodAt mk b (fun h => f (setLoop r busy pend z h)) h :=
  GoodAt.step (After.set h _ hr) (fun _ _ hx => hx.set _ hr) hf
theorem endS_good {r : Nat} {e : Ex} {b : Nat} {h : Heap} : GoodAt Prod.mk b (endS r e) h := by
  refine GoodAt.read (g := fun h => obind (h.rows.get r) loopAll) (fun x h2 hf => read_row _ hf) fun z hz => ?_
  obtain ⟨row0, h0, _⟩ := obind_eq hz
  exact setLoop_good (f := fun h => some (AV.bool (isNorm e), h)) h0 (GoodAt.ret (mk := Prod.mk))
theorem bodyS_good (hC : Good cf) {r : Nat} {body : Code} {a : Tmps} {b : Nat} {h : Heap} (hb : b ≤ h.next) : GoodAt Prod.mk b (bodyS E cf L r body a) h := by
  refine GoodAt.read (g := fun h => obind (h.rows.get r) loopAll) (fun x h2 hf => read_row _ hf) fun z hz => GoodAt.bsel GoodAt.none ?_
  obtain ⟨row0, h0, _⟩ := obind_eq hz
  cases z.2.1 with
  | some _ => exact GoodAt.none
  | none =>
    refine setLoop_good (f := fun h => obind (evCode E cf L (some r) body a h) fun p => endS r p.1 p.2.2) h0 ?_
    refine GoodAt.bind (evCode_good hC body a b _ (Nat.le_trans hb (Nat.le_refl _))) fun v h' _ _ => ?_
    exact endS_good
theorem roundS_good (hC : Good cf) {r : Nat} {args : List AV} {b : Nat} {h : Heap} (hb : b ≤ h.next) : GoodAt Prod.mk b (roundS E cf L r args) h := by
  refine GoodAt.read (g := fun h => obind (h.rows.get r) loopAll) (fun x h2 hf => read_row _ hf) fun z hz => GoodAt.bsel GoodAt.none ?_
  cases z.2.1 with
  | some _ => exact GoodAt.none
  | none =>
    refine GoodAt.const fun a _ => ?_
    refine GoodAt.bind (evCode_good hC _ a b _ hb) fun v h' _ hA => ?_
    exact GoodAt.bsel (bodyS_good hC (Nat.le_trans hb hA.next)) GoodAt.none
/-- What is asked of hooks. -/
def HooksGood (E : Env) : Prop := ∀ f g, E.hook f = some g → ∀ args b h, b ≤ h.next → GoodAt Prod.mk b (g args) h
theorem evCall_good (hH : HooksGood E) : ∀ n, Good (evCall E L n)
  | 0 => fun _ _ _ _ _ => GoodAt.none
  | n + 1 => fun t args b h hb => by
    have ih := evCall_good hH n
    cases t with
    | fn f =>
      refine GoodAt.next (g := fun N h => Option.rec (motive := fun _ => Option (AV × Heap)) (Option.rec (motive := fun _ => Option (AV × Heap)) (obind (E.funcs.get f) (enter E (evCall E L n) L f args h)) (fun g => g args h) (E.hook f)) (fun v => some (v, h)) (E.memo f args N)) ?_
      cases E.memo f args h.next with
      | some v => exact GoodAt.ret (mk := Prod.mk)
      | none =>
        show GoodAt Prod.mk b (fun h => Option.rec (motive := fun _ => Option (AV × Heap)) (obind (E.funcs.get f) (enter E (evCall E L n) L f args h)) (fun g => g args h) (E.hook f)) h
        cases hh : E.hook f with
        | none => exact GoodAt.const fun fn _ => enter_good ih hb
        | some g => exact hH f g hh args b h hb
    | round r => exact roundS_good ih hb
end
end Go.CE

namespace Go.CE

/-! ### bits -/
theorem hasBit_eq (m i : Nat) : hasBit m i = m.testBit i := by
  show Nat.beq (Nat.mod (Nat.shiftRight m i) 2) 1 = _
  have h : Nat.mod (Nat.shiftRight m i) 2 = m / 2 ^ i % 2 := by
    show (m >>> i) % 2 = _
    rw [Nat.shiftRight_eq_div_pow]
  rw [h, Nat.testBit_eq_decide_div_mod_eq]
  cases hb : Nat.beq (m / 2 ^ i % 2) 1 with
  | true => have := beq_eq hb; simp [this]
  | false => have := beq_ne hb; simp [this]
theorem hasBit_or (a b i : Nat) : hasBit (Nat.lor a b) i = (hasBit a i || hasBit b i) := by
  rw [hasBit_eq, hasBit_eq, hasBit_eq]
  exact Nat.testBit_or a b i
theorem hasBit_pow (k i : Nat) : hasBit (Nat.pow 2 k) i = decide (k = i) := by
  rw [hasBit_eq]
  exact Nat.testBit_two_pow
theorem hasBit_zero (i : Nat) : hasBit 0 i = false := by rw [hasBit_eq]; exact Nat.zero_testBit i
theorem subMask_spec {a b i : Nat} (h : subMask a b = true) (hi : hasBit a i = true) : hasBit b i = true := by
  have e : Nat.lor a b = b := beq_eq h
  rw [← e, hasBit_or, hi]; rfl
theorem callBits_cons (x : Oper) (l : List Oper) (k : Nat) : callBits (x :: l) k = bsel (Nat.beq (cls x.op) 4) (Nat.lor (Nat.pow 2 k) (callBits l (k + 1))) (callBits l (k + 1)) := rfl
theorem callBits_spec (l : List Oper) : ∀ (k j : Nat) (o : Oper), l[j]? = some o → cls o.op = 4 → hasBit (callBits l k) (k + j) = true := by
  induction l with
  | nil => intro k j o hj _; cases hj
  | cons x l ih =>
    intro k j o hj hc
    rw [callBits_cons]
    cases j with
    | zero =>
      rw [List.getElem?_cons_zero] at hj
      have hxo : x = o := by injection hj
      have e : Nat.beq (cls x.op) 4 = true := by rw [hxo, hc]; rfl
      rw [e, bsel_true, hasBit_or, hasBit_pow]; simp
    | succ j =>
      rw [List.getElem?_cons_succ] at hj
      have h1 := ih (k + 1) j o hj hc
      rw [show k + 1 + j = k + (j + 1) by omega] at h1
      cases Nat.beq (cls x.op) 4 with
      | true => rw [bsel_true, hasBit_or, h1]; simp
      | false => exact h1
theorem allB_spec {α : Type} {f : α → Bool} : ∀ {l : List α}, allB f l = true → ∀ x ∈ l, f x = true
  | x :: l, h, y, hy => by
    obtain ⟨h1, h2⟩ := wf_two (show bsel (f x) (allB f l) false = true from h)
    rcases List.mem_cons.1 hy with rfl | hy
    · exact h1
    · exact allB_spec h2 y hy
theorem nmem_spec (x : Nat) : ∀ l, nmem x l = true ↔ x ∈ l
  | [] => by constructor <;> intro h <;> cases h
  | y :: l => by
    show bsel (Nat.beq x y) true (nmem x l) = true ↔ _
    rw [List.mem_cons, ← nmem_spec x l]
    cases hb : Nat.beq x y with
    | true => have := beq_eq hb; simp [this]
    | false => have := beq_ne hb; simp [this]
theorem ordered_eq (q : Q Nat) (i j : Nat) : ordered q i j = (hasBit (ancI q j) i || hasBit (ancI q i) j) := by
  unfold ordered; cases hasBit (ancI q j) i <;> rfl
theorem ordered_comm (q : Q Nat) (i j : Nat) : ordered q i j = ordered q j i := by rw [ordered_eq, ordered_eq, Bool.or_comm]

/-! ### what an operation looks at -/
theorem mem_tmpsL {t : Nat} : ∀ {l : List Operand}, Operand.tmp t ∈ l → t ∈ tmpsL l
  | x :: l, h => by
    show t ∈ napp (tmpsX x) (tmpsL l)
    rw [napp_eq]
    rcases List.mem_cons.1 h with rfl | h
    · exact List.mem_append_left _ (by simp [tmpsX])
    · exact List.mem_append_right _ (mem_tmpsL h)
/-- The temporaries that an operation looks at are the same. -/
def Agree (ops : List Oper) (o : Oper) (a a2 : Tmps) : Prop := ∀ t ∈ looksAt ops o, a2.get t = a.get t
theorem Agree.ev {ops : List Oper} {o : Oper} {a a2 : Tmps} (h : Agree ops o a a2) : ∀ x ∈ o.op.operands, ev a2 x = ev a x := by
  intro x hx
  cases x with
  | tmp t =>
    show orUndef (a2.get t) = orUndef (a.get t)
    rw [h t ?_]
    unfold looksAt
    rw [napp_eq]
    exact List.mem_append_right _ (mem_tmpsL (by simpa using hx))
  | _ => rfl
theorem Agree.wanted {ops : List Oper} {o : Oper} {a a2 : Tmps} (h : Agree ops o a a2) : wantedS ops a2 o.guard = wantedS ops a o.guard := by
  unfold wantedS
  cases hg : o.guard with
  | none => rfl
  | some p =>
    show (Option.rec (motive := fun _ => Option Bool) (some false) (fun o => Option.rec (motive := fun _ => Option Bool) (some false) (fun d => wantV p.2 (orUndef (a2.get d))) o.dst) (nth ops p.1)) = _
    cases hn : nth ops p.1 with
    | none => simp only [hn]
    | some g =>
      show (Option.rec (motive := fun _ => Option Bool) (some false) (fun d => wantV p.2 (orUndef (a2.get d))) g.dst) = _
      cases hd : g.dst with
      | none => simp only [hn, hd]
      | some d =>
        have : a2.get d = a.get d := h d (by
          unfold looksAt
          rw [napp_eq]
          refine List.mem_append_left _ ?_
          simp only [hg, hn, hd]
          simp)
        simp only [hn, hd, this]
theorem Agree.put {ops : List Oper} {o : Oper} {a : Tmps} {dst : Option Nat} {v : AV} (h : ∀ d, dst = some d → d ∉ looksAt ops o) : Agree ops o a (putS a dst v) := by
  intro t ht
  cases dst with
  | none => rfl
  | some d =>
    show (a.set d v).get t = a.get t
    exact Q.get_set_ne _ _ _ _ (fun e => h d rfl (e ▸ ht))
theorem Agree.symm {ops : List Oper} {o : Oper} {a a2 : Tmps} (h : Agree ops o a a2) : Agree ops o a2 a := fun t ht => (h t ht).symm
theorem Agree.of_QE {ops : List Oper} {o : Oper} {a a2 : Tmps} (h : QE a a2) : Agree ops o a a2 := fun t _ => (h t).1
theorem rowsOf_congr {ρ ρ' : Operand → AV} : ∀ {l : List Operand}, (∀ x ∈ l, ρ x = ρ' x) → rowsOf ρ l = rowsOf ρ' l
  | [], _ => rfl
  | x :: l, h => by
    show napp (rowOf (ρ x)) (rowsOf ρ l) = napp (rowOf (ρ' x)) (rowsOf ρ' l)
    rw [h x (by simp), rowsOf_congr fun y hy => h y (by simp [hy])]
theorem accR_congr {ρ ρ' : Operand → AV} (op : Op) (h : ∀ x ∈ op.operands, ρ x = ρ' x) : accR op ρ = accR op ρ' := by
  cases op <;> simp only [Op.operands] at h <;> try rfl
  case load t x => show rowOf (ρ x) = rowOf (ρ' x); rw [h x (by simp)]
  case store t x v => show rowOf (ρ x) = rowOf (ρ' x); rw [h x (by simp)]
  case lookup t x i ok => show rowOf (ρ x) = rowOf (ρ' x); rw [h x (by simp)]
  case mapUpdate t x k v => show rowOf (ρ x) = rowOf (ρ' x); rw [h x (by simp)]
  case insert t x k v => show rowOf (ρ x) = rowOf (ρ' x); rw [h x (by simp)]
  case next x s => show rowOf (ρ x) = rowOf (ρ' x); rw [h x (by simp)]
  case range t x => show rowOf (ρ x) = rowOf (ρ' x); rw [h x (by simp)]
  case convert s d x => show rowOf (ρ x) = rowOf (ρ' x); rw [h x (by simp)]
  case call c => exact rowsOf_congr fun x hx => h x (by simp only [Call.operands, Array.mem_append]; exact .inr (by simpa using hx))
theorem tgt_congr {op : Op} {a a2 : Tmps} {tg : Tmps → Option (Tgt × List AV)} (ht : tgt op = some tg) (h : ∀ x ∈ op.operands, ev a2 x = ev a x) : tg a2 = tg a := by
  cases op <;> try (cases ht; done)
  rename_i c
  obtain ⟨f, args, ats⟩ := c
  cases f with
  | builtin b => cases ht
  | invoke x n => cases ht
  | value x =>
    have htg : tg = fun a => tgtX args a x := (Option.some.injEq _ _ ▸ ht : (fun a => tgtX args a x) = tg).symm
    subst htg
    simp only [Op.operands, Call.operands] at h
    show tgtV (args.toList.map (ev a2)) (ev a2 x) = tgtV (args.toList.map (ev a)) (ev a x)
    rw [h x (by simp), List.map_congr_left (f := ev a2) (g := ev a) fun y hy => h y (by simp [Array.mem_toList_iff.1 hy])]
theorem tgt_cls {op : Op} {tg : Tmps → Option (Tgt × List AV)} (ht : tgt op = some tg) : cls op = 4 := by
  cases op <;> try (cases ht; done)
  rename_i c
  obtain ⟨f, args, ats⟩ := c
  cases f with
  | builtin b => cases ht
  | invoke x n => cases ht
  | value x => rfl

/-! ### one operation of a region that draws its order -/
inductive Lab where
  | skip
  | op (acc : List Nat)
  | call (fr : Bool)
def Lab.isCall : Lab → Prop
  | .call _ => True
  | _ => False
section
variable (E : Env) (cf : CallF) (q : Q Nat) (cb n base : Nat) (ops : List Oper)
inductive Core (i : Nat) (o : Oper) : Lab → Tmps → Heap → AV → Heap → Prop
  | skip {a h} : wantedS ops a o.guard = some false → Core i o .skip a h .undef h
  | op {a h v u} : wantedS ops a o.guard = some true → tgt o.op = none → (∀ r ∈ accR o.op (ev a), mayLook q cb base n i r = true) →
      sem o.op E (ev a) h.rows.get (base + i) = some (v, u) → updFit (cls o.op) (accR o.op (ev a)) u = true → Core i o (.op (accR o.op (ev a))) a h v (applyU h (base + i) h.next u)
  | call {a h v tg t h' fr} : wantedS ops a o.guard = some true → tgt o.op = some tg → tg a = some t → cf t.1 t.2 ⟨h.rows, h.next, 1000000000⟩ = some (v, h') → (fr = true → h.next ≤ h'.lo ∨ solo q i ops 0 = true) →
      Core i o (.call fr) a h v ⟨h'.rows, h'.next, lower h.lo h'.lo⟩
end
section
variable {E : Env} {cf : CallF} {q : Q Nat} {cb n base : Nat} {ops : List Oper}

theorem Core.tm {i : Nat} {o : Oper} {l : Lab} {a a2 : Tmps} {h h' : Heap} {v : AV} (hA : Agree ops o a a2) (hc : Core E cf q cb n base ops i o l a h v h') : Core E cf q cb n base ops i o l a2 h v h' := by
  cases hc with
  | skip h1 => exact .skip (hA.wanted.trans h1)
  | op h1 h2 h3 h4 h5 =>
    have e := accR_congr o.op hA.ev
    rw [← e] at h3 h5 ⊢
    exact .op (hA.wanted.trans h1) h2 h3 ((sem_ops o.op hA.ev).trans h4) h5
  | call h1 h2 h3 h4 h5 => exact .call (hA.wanted.trans h1) h2 ((tgt_congr h2 hA.ev).trans h3) h4 h5
abbrev FR0 := FR (fun _ => none)
theorem FR0.refl (b : Nat) (h : Heap) : FR0 b h h := ⟨rfl, rfl, fun _ => rfl, fun _ _ h => (by cases h), fun _ _ => rfl, fun _ _ h => (by cases h)⟩
theorem FR0.get {b : Nat} {h h2 : Heap} (f : FR0 b h h2) : h2.rows.get = h.rows.get := funext fun r => f.old r rfl
theorem FR0.trans {b : Nat} {h h2 h3 : Heap} (f : FR0 b h h2) (g : FR0 b h2 h3) : FR0 b h h3 :=
  ⟨g.next.trans f.next, g.lo.trans f.lo, fun r => (g.ok r).trans (f.ok r), fun _ _ h => (by cases h), fun r _ => (g.old r rfl).trans (f.old r rfl), fun _ _ h => (by cases h)⟩
theorem Core.heap (hG : Good cf) {b : Nat} (hb : b ≤ base) {i : Nat} {o : Oper} {l : Lab} {a : Tmps} {h h2 h' : Heap} {v : AV} (hbn : b ≤ h.next) (hf : FR0 b h h2) (hc : Core E cf q cb n base ops i o l a h v h') :
    ∃ h2', Core E cf q cb n base ops i o l a h2 v h2' ∧ FR0 b h' h2' := by
  cases hc with
  | skip h1 => exact ⟨h2, .skip h1, hf⟩
  | op h1 h2' h3 h4 h5 =>
    refine ⟨_, .op h1 h2' h3 (by rw [hf.get]; exact h4) h5, ?_⟩
    exact hf.apply hf.next (by omega) fun r row e => sem_okr o.op _ r row (e ▸ h4)
  | call h1 h2' h3 h4 h5 =>
    rename_i tg t h'' fr
    obtain ⟨v', hh, e1, e2, e3⟩ := hG t.1 t.2 b ⟨h.rows, h.next, 1000000000⟩ hbn _ h4
    cases e1
    obtain ⟨h22, e4, e5⟩ := e3 _ ⟨h2.rows, h2.next, 1000000000⟩ (hf.lift _)
    refine ⟨_, .call h1 h2' h3 e4 ?_, ⟨e5.next, by show lower h2.lo _ = lower h.lo _; rw [hf.lo, e5.lo], e5.ok, e5.dom, e5.old, e5.add⟩⟩
    rw [hf.next, e5.lo]; exact h5
/-- What a step leaves as it was. -/
theorem Core.after (hG : Good cf) {b : Nat} (hb : b ≤ base) {i : Nat} {o : Oper} {l : Lab} {a : Tmps} {h h' : Heap} {v : AV} (hbn : b ≤ h.next) (hc : Core E cf q cb n base ops i o l a h v h') : After b h h' := by
  cases hc with
  | skip h1 => exact After.refl b h
  | op h1 h2' h3 h4 h5 => exact After.apply h (by omega) (Nat.le_refl _) fun r row e => sem_okr o.op _ r row (e ▸ h4)
  | call h1 h2' h3 h4 h5 =>
    rename_i tg t h'' fr
    obtain ⟨v', hh, e1, hA, e3⟩ := hG t.1 t.2 b ⟨h.rows, h.next, 1000000000⟩ hbn _ h4
    cases e1
    exact ⟨hA.next, (lower_le _ _).1, hA.ok, fun r hr hl => hA.keep r hr (Nat.lt_of_lt_of_le hl (lower_le _ _).2), hA.gone⟩
/-- Rows that are not yet laid stay so. -/
theorem Core.absent (hG : Good cf) {i k : Nat} (hk : k ≠ i) (hkn : k < n) {o : Oper} {l : Lab} {a : Tmps} {h h' : Heap} {v : AV} (hbn : base + n ≤ h.next) (h0 : h.rows.get (base + k) = none) (hc : Core E cf q cb n base ops i o l a h v h') :
    h'.rows.get (base + k) = none := by
  cases hc with
  | skip h1 => exact h0
  | op h1 h2' h3 h4 h5 =>
    rename_i u
    cases u with
    | keep => exact h0
    | new row => show (h.rows.set (base + i) row).get (base + k) = none; rw [Q.get_set_ne _ _ _ _ (by omega)]; exact h0
    | set r row =>
      obtain ⟨row0, hr⟩ := sem_okr o.op _ r row h4
      show (h.rows.set r row).get (base + k) = none
      rw [Q.get_set_ne _ _ _ _ (fun e => by rw [e, hr] at h0; cases h0)]; exact h0
  | call h1 h2' h3 h4 h5 =>
    rename_i tg t h'' fr
    obtain ⟨v', hh, e1, hA, e3⟩ := hG t.1 t.2 (base + n) ⟨h.rows, h.next, 1000000000⟩ hbn _ h4
    cases e1
    exact hA.gone (base + k) (by omega) h0

/-- Rows that an operation looks at: from before, or of what comes ahead. -/
theorem mayLook_spec {i r : Nat} (h : mayLook q cb base n i r = true) : r < base ∨ (∃ k, r = base + k ∧ k < n ∧ hasBit (ancI q i) k = true) ∨ (base + n ≤ r ∧ subMask cb (ancI q i) = true) := by
  unfold mayLook at h
  cases h1 : Nat.ble (Nat.succ r) base with
  | true => exact .inl (ble_le h1)
  | false =>
    have h1' := ble_lt h1
    rw [h1, bsel_false] at h
    cases h2 : Nat.ble (Nat.succ (Nat.sub r base)) n with
    | true =>
      rw [h2, bsel_true] at h
      have h2' : r - base + 1 ≤ n := ble_le h2
      exact .inr (.inl ⟨r - base, by omega, by omega, h⟩)
    | false =>
      rw [h2, bsel_false] at h
      have h2' : n < r - base + 1 := ble_lt h2
      exact .inr (.inr ⟨by omega, h⟩)
/-- Two steps do not disturb each other. -/
def IndLab (q : Q Nat) (ops : List Oper) (i : Nat) (li : Lab) (j : Nat) (lj : Lab) : Prop :=
  ordered q i j = false → (∀ acci accj oi oj, li = .op acci → lj = .op accj → ops[i]? = some oi → ops[j]? = some oj → (cls oi.op = 3 ∨ cls oj.op = 3) → ∀ r ∈ acci, r ∉ accj) ∧ (∀ acci, li = .op acci → lj = .call false → acci = [])
theorem updFit_spec {c : Nat} {acc : List Nat} {u : Upd} (h : updFit c acc u = true) : (∀ row, u = .new row → 2 ≤ c) ∧ (∀ r row, u = .set r row → c = 3 ∧ r ∈ acc) := by
  cases u with
  | keep => exact ⟨fun _ e => (by cases e), fun _ _ e => (by cases e)⟩
  | new row => exact ⟨fun _ _ => ble_le h, fun _ _ e => (by cases e)⟩
  | set r row =>
    refine ⟨fun _ e => (by cases e), fun r' row' e => ?_⟩
    cases e
    obtain ⟨h1, h2⟩ := bsel_two h
    exact ⟨beq_eq h1, (nmem_spec _ _).1 h2⟩
where bsel_two {x y : Bool} (h : bsel x y false = true) : x = true ∧ y = true := wf_two h
end
end Go.CE

namespace Go.CE
section
variable {E : Env} {cf : CallF} {q : Q Nat} {cb n base : Nat} {ops : List Oper}

theorem solo_spec {i : Nat} : ∀ (l : List Oper) (k : Nat), solo q i l k = true → ∀ (j : Nat) (o : Oper), l[j]? = some o → k + j ≠ i → cls o.op ≠ 0 → ordered q i (k + j) = true := by
  intro l
  induction l with
  | nil => intro k _ j o hj; cases hj
  | cons x l ih =>
    intro k h j o hj hne hc
    obtain ⟨h1, h2⟩ := wf_two (show bsel (bsel (Nat.beq i k) true (bsel (Nat.beq (cls x.op) 0) true (ordered q i k))) (solo q i l (k + 1)) false = true from h)
    cases j with
    | zero =>
      rw [List.getElem?_cons_zero] at hj
      have hxo : x = o := by injection hj
      subst hxo
      cases hb : Nat.beq i k with
      | true => exact absurd (beq_eq hb).symm (by simpa using hne)
      | false =>
        rw [hb, bsel_false] at h1
        cases hb2 : Nat.beq (cls x.op) 0 with
        | true => exact absurd (beq_eq hb2) hc
        | false => rw [hb2, bsel_false] at h1; exact h1
    | succ j =>
      rw [List.getElem?_cons_succ] at hj
      have := ih (k + 1) h2 j o hj (by rw [show k + 1 + j = k + (j + 1) by omega]; exact hne) hc
      rwa [show k + 1 + j = k + (j + 1) by omega] at this
theorem FR0.mk' {b : Nat} {h h2 : Heap} (hn : h2.next = h.next) (hl : h2.lo = h.lo) (hq : QE h.rows h2.rows) : FR0 b h h2 :=
  ⟨hn, hl, fun r => (hq r).2, fun _ _ h => (by cases h), fun r _ => (hq r).1, fun _ _ h => (by cases h)⟩
theorem lower_comm (lo r r' : Nat) : lower (lower lo r) r' = lower (lower lo r') r := by simp only [lower_min]; omega
/-- The places that two changes touch are not the same. -/
def Touch (at_ : Nat) : Upd → Nat → Prop
  | .keep, _ => False
  | .new _, r => r = at_
  | .set r' _, r => r = r'
theorem applyU_comm {b : Nat} {h : Heap} {at1 at2 : Nat} {u v : Upd} (hd : ∀ r, Touch at1 u r → ¬ Touch at2 v r) :
    FR0 b (applyU (applyU h at1 h.next u) at2 (applyU h at1 h.next u).next v) (applyU (applyU h at2 h.next v) at1 (applyU h at2 h.next v).next u) := by
  cases u with
  | keep => cases v <;> exact FR0.refl _ _
  | new ru =>
    cases v with
    | keep => exact FR0.refl _ _
    | new rv => exact FR0.mk' rfl rfl (QE.comm h.rows (fun e => hd at1 rfl e) ru rv)
    | set rv wv => exact FR0.mk' rfl rfl (QE.comm h.rows (fun e => hd at1 rfl e) ru wv)
  | set r w =>
    cases v with
    | keep => exact FR0.refl _ _
    | new rv => exact FR0.mk' rfl rfl (QE.comm h.rows (fun e => hd r rfl e) w rv)
    | set rv wv => exact FR0.mk' rfl (lower_comm _ _ _) (QE.comm h.rows (fun e => hd r rfl e) w wv)
theorem get_applyU {h : Heap} {at_ r : Nat} {u : Upd} (hr : ¬ Touch at_ u r) : (applyU h at_ h.next u).rows.get r = h.rows.get r := by
  cases u with
  | keep => rfl
  | new row => exact Q.get_set_ne _ _ _ _ hr
  | set r' row => exact Q.get_set_ne _ _ _ _ hr
theorem un_of {i j : Nat} (hun : ordered q i j = false) : hasBit (ancI q j) i = false ∧ hasBit (ancI q i) j = false := by
  rw [ordered_eq] at hun; simpa using hun
theorem swap_core (hG : Good cf) {a : Tmps} {h h1 h2 : Heap} {i j : Nat} {oi oj : Oper} {li lj : Lab} {vi vj : AV} (hb : base + n ≤ h.next) (hcb : cb = callBits ops 0) (hoi : ops[i]? = some oi) (hoj : ops[j]? = some oj) (hci4 : cls oi.op ≤ 4) (hcj4 : cls oj.op ≤ 4) (hin : i < n) (hjn : j < n) (hne : i ≠ j)
    (hun : ordered q i j = false) (hfit : clsFit (cls oi.op) (cls oj.op) = true) (hind : IndLab q ops i li j lj) (hi0 : h.rows.get (base + i) = none)
    (hnc : ¬ li.isCall) (hj : Core E cf q cb n base ops j oj lj a h vj h1) (hi : Core E cf q cb n base ops i oi li a h1 vi h2) :
    ∃ h1' h2', Core E cf q cb n base ops i oi li a h vi h1' ∧ Core E cf q cb n base ops j oj lj a h1' vj h2' ∧ FR0 base h2 h2' := by
  obtain ⟨hu1, hu2⟩ := un_of hun
  cases hi with
  | skip w => exact ⟨h, h1, .skip w, hj, FR0.refl _ _⟩
  | call => exact absurd trivial hnc
  | op wi hti hlook hsi hfi =>
    rename_i ui
    obtain ⟨fi1, fi2⟩ := updFit_spec hfi
    cases hj with
    | skip w => exact ⟨_, _, .op wi hti hlook hsi hfi, .skip w, FR0.refl _ _⟩
    | op wj htj hlookj hsj hfj =>
      rename_i uj
      obtain ⟨fj1, fj2⟩ := updFit_spec hfj
      have hdis : (cls oi.op = 3 ∨ cls oj.op = 3) → ∀ r ∈ accR oi.op (ev a), r ∉ accR oj.op (ev a) := (hind hun).1 _ _ oi oj rfl rfl hoi hoj
      have ni : ∀ r ∈ accR oi.op (ev a), r ≠ base + j := fun r hr e => by
        rcases mayLook_spec (hlook r hr) with h3 | ⟨k, h3, h4, h5⟩ | ⟨h3, h4⟩
        · omega
        · have : k = j := by omega
          subst this; rw [hu2] at h5; cases h5
        · omega
      have nj : ∀ r ∈ accR oj.op (ev a), r ≠ base + i := fun r hr e => by
        rcases mayLook_spec (hlookj r hr) with h3 | ⟨k, h3, h4, h5⟩ | ⟨h3, h4⟩
        · omega
        · have : k = i := by omega
          subst this; rw [hu1] at h5; cases h5
        · omega
      have ti : ∀ r ∈ accR oi.op (ev a), ¬ Touch (base + j) uj r := fun r hr ht => by
        cases uj with
        | keep => exact ht
        | new row => exact ni r hr ht
        | set r' row =>
          have ht' : r = r' := ht
          obtain ⟨c3, hm⟩ := fj2 r' row rfl
          exact hdis (.inr c3) r hr (ht' ▸ hm)
      have tj : ∀ r ∈ accR oj.op (ev a), ¬ Touch (base + i) ui r := fun r hr ht => by
        cases ui with
        | keep => exact ht
        | new row => exact nj r hr ht
        | set r' row =>
          have ht' : r = r' := ht
          obtain ⟨c3, hm⟩ := fi2 r' row rfl
          exact hdis (.inl c3) r (ht' ▸ hm) hr
      have hsi' : sem oi.op E (ev a) h.rows.get (base + i) = some (vi, ui) := by
        rw [← hsi]; exact sem_look oi.op hci4 fun r hr => (get_applyU (ti r hr)).symm
      have hsj' : sem oj.op E (ev a) (applyU h (base + i) h.next ui).rows.get (base + j) = some (vj, uj) := by
        rw [← hsj]; exact sem_look oj.op hcj4 fun r hr => get_applyU (tj r hr)
      refine ⟨_, _, .op wi hti hlook hsi' hfi, .op wj htj hlookj hsj' hfj, applyU_comm fun r hr hr' => ?_⟩
      cases uj with
      | keep => exact hr
      | new row =>
        cases ui with
        | keep => exact hr'
        | new row' =>
          have e1 : r = base + j := hr
          have e2 : r = base + i := hr'
          omega
        | set r' row' =>
          have e2 : r = r' := hr'
          exact ti r (e2 ▸ (fi2 r' row' rfl).2) hr
      | set r1 row =>
        have e1 : r = r1 := hr
        exact tj r (e1 ▸ (fj2 r1 row rfl).2) hr'
    | call wj htj htg hcf hs =>
      rename_i tg t h' fr
      have c4 := tgt_cls htj
      rw [c4] at hfit
      have hci : cls oi.op ≤ 2 := by
        unfold clsFit at hfit
        cases hb0 : Nat.beq (cls oi.op) 0 with
        | true => have := beq_eq hb0; omega
        | false =>
          rw [hb0, bsel_false, show Nat.beq 4 0 = false from rfl, bsel_false] at hfit
          cases hb3 : Nat.ble (cls oi.op) 3 with
          | true =>
            rw [hb3, bsel_true, show Nat.ble 4 3 = false from rfl, bsel_false, show Nat.beq 4 4 = true from rfl, bsel_true] at hfit
            exact ble_le hfit
          | false =>
            rw [hb3, bsel_false, show Nat.ble 4 2 = false from rfl] at hfit
            cases hb4 : Nat.beq (cls oi.op) 4 <;> rw [hb4] at hfit <;> cases hfit
      obtain ⟨v', hh, e1, hA, hF⟩ := hG t.1 t.2 (base + n) ⟨h.rows, h.next, 1000000000⟩ hb _ hcf
      cases e1
      have key : ∀ r ∈ accR oi.op (ev a), h'.rows.get r = h.rows.get r := fun r hr => by
        by_cases h0 : cls oi.op = 0
        · rw [acc_cls0 _ h0] at hr; cases hr
        · cases fr with
          | false => rw [(hind hun).2 _ rfl rfl] at hr; cases hr
          | true =>
          replace hs := hs rfl
          have hlo : h.next ≤ h'.lo := by
            rcases hs with hs | hs
            · exact hs
            · have := solo_spec ops 0 hs i oi hoi (by simpa using hne) h0
              rw [Nat.zero_add, ordered_comm, hun] at this; cases this
          have hlt : r < base + n := by
            rcases mayLook_spec (hlook r hr) with h3 | ⟨k, h3, h4, h5⟩ | ⟨h3, h4⟩
            · omega
            · omega
            · have h5 := subMask_spec h4 (i := j) (by rw [hcb]; have := callBits_spec ops 0 j oj hoj c4; rwa [Nat.zero_add] at this)
              rw [hu2] at h5; cases h5
          exact hA.keep r hlt (by omega)
      have hsi' : sem oi.op E (ev a) h.rows.get (base + i) = some (vi, ui) := by
        rw [← hsi]; exact sem_look oi.op hci4 fun r hr => (key r hr).symm
      cases ui with
      | set r row => have := (fi2 r row rfl).1; omega
      | keep => exact ⟨h, _, .op wi hti hlook hsi' hfi, .call wj htj htg hcf hs, FR0.refl _ _⟩
      | new row =>
        let x : Nat → Option Row := fun r => if r = base + i then (h.rows.set (base + i) row).get r else none
        have hx : FR x (base + n) ⟨h.rows, h.next, 1000000000⟩ ⟨h.rows.set (base + i) row, h.next, 1000000000⟩ := by
          refine ⟨rfl, rfl, fun r => Q.ok_set _ _ _ _, fun r row' hr => ?_, fun r hr => ?_, fun r row' hr => ?_⟩
          · by_cases e : r = base + i
            · omega
            · simp only [x, if_neg e] at hr; cases hr
          · by_cases e : r = base + i
            · simp only [x, if_pos e] at hr
              show (h.rows.set (base + i) row).get r = h.rows.get r
              rw [hr, e, hi0]
            · exact Q.get_set_ne _ _ _ _ e
          · by_cases e : r = base + i
            · simp only [x, if_pos e] at hr
              exact ⟨by show h.rows.get r = none; rw [e, hi0], hr⟩
            · simp only [x, if_neg e] at hr; cases hr
        obtain ⟨hc, e4, e5⟩ := hF x _ hx
        refine ⟨_, _, .op wi hti hlook hsi' hfi, .call wj htj htg e4 ?_, ?_⟩
        · intro hfr
          show h.next ≤ hc.lo ∨ _
          rw [e5.lo]; exact hs hfr
        · refine FR0.mk' e5.next (by show lower h.lo hc.lo = lower h.lo h'.lo; rw [e5.lo]) fun r => ⟨?_, ?_⟩
          · show hc.rows.get r = (h'.rows.set (base + i) row).get r
            rw [Q.get_set]
            by_cases e : r = base + i
            · rw [if_pos e]
              have hok : h'.rows.ok (base + i) = h.rows.ok (base + i) := hA.ok _
              have hxr : x r = if h.rows.ok (base + i) then some row else none := by
                simp only [x, if_pos e]; rw [e, Q.get_set_self]
              cases ho : h.rows.ok (base + i) with
              | true =>
                rw [ho] at hxr hok
                rw [(e5.add r row (by simpa using hxr)).2, hok]; rfl
              | false =>
                rw [ho] at hxr hok
                rw [e5.old r (by simpa using hxr), e, Q.get_notok _ _ hok, hok]; rfl
            · rw [if_neg e]
              exact e5.old r (by simp only [x, if_neg e])
          · show hc.rows.ok r = (h'.rows.set (base + i) row).ok r
            rw [Q.ok_set]; exact e5.ok r
end
end Go.CE

namespace Go.CE
abbrev Sta := Tmps × Heap
section
variable (E : Env) (cf : CallF) (q : Q Nat) (cb n base : Nat) (ops : List Oper)
def Step (i : Nat) (l : Lab) (s s' : Sta) : Prop := ∃ o v, ops[i]? = some o ∧ Core E cf q cb n base ops i o l s.1 s.2 v s'.2 ∧ s'.1 = putS s.1 o.dst v
def Runs : List (Nat × Lab) → Sta → Sta → Prop
  | [], s, t => t = s
  | p :: R, s, t => ∃ s1, Step E cf q cb n base ops p.1 p.2 s s1 ∧ Runs R s1 t
/-- The same to all who look. -/
def SE (s s' : Sta) : Prop := QE s.1 s'.1 ∧ FR0 base s.2 s'.2
/-- What is known of the operations, whatever they meet. -/
structure Static : Prop where
  cb : cb = callBits ops 0
  cls4 : ∀ (i : Nat) (o : Oper), ops[i]? = some o → cls o.op ≤ 4
  pair : ∀ i j x y, ops[i]? = some x → ops[j]? = some y → i ≠ j → ordered q i j = false → pairOk ops x y = true
end
theorem dstIn_spec {d : Option Nat} {l : List Nat} (h : dstIn d l = false) : ∀ x, d = some x → x ∉ l := by
  intro x e hx
  subst e
  have : nmem x l = true := (nmem_spec x l).2 hx
  have h' : nmem x l = false := h
  rw [this] at h'; cases h'
theorem pairOk_spec {ops : List Oper} {x y : Oper} (h : pairOk ops x y = true) : (∀ d, x.dst = some d → y.dst ≠ some d) ∧ (∀ d, x.dst = some d → d ∉ looksAt ops y) ∧ (∀ d, y.dst = some d → d ∉ looksAt ops x) ∧ clsFit (cls x.op) (cls y.op) = true := by
  unfold pairOk at h
  cases h1 : dstIn x.dst (napp (dstList y.dst) (looksAt ops y)) with
  | true => rw [h1] at h; cases h
  | false =>
    rw [h1, bsel_false] at h
    cases h2 : dstIn y.dst (looksAt ops x) with
    | true => rw [h2] at h; cases h
    | false =>
      rw [h2, bsel_false] at h
      have h3 := dstIn_spec h1
      rw [napp_eq] at h3
      refine ⟨fun d hd e => h3 d hd (List.mem_append_left _ ?_), fun d hd e => h3 d hd (List.mem_append_right _ e), dstIn_spec h2, h⟩
      rw [e]; exact List.mem_singleton.2 rfl
theorem put_comm {a : Tmps} {x y : Option Nat} {v u : AV} (h : ∀ d, x = some d → y ≠ some d) : QE (putS (putS a x v) y u) (putS (putS a y u) x v) := by
  cases x with
  | none => exact QE.refl _
  | some d =>
    cases y with
    | none => exact QE.refl _
    | some e => exact QE.comm a (fun he => h d rfl (congrArg some he.symm)) v u
theorem put_QE {a a2 : Tmps} (h : QE a a2) (x : Option Nat) (v : AV) : QE (putS a x v) (putS a2 x v) := by
  cases x with
  | none => exact h
  | some d => exact h.set d v
section
variable {E : Env} {cf : CallF} {q : Q Nat} {cb n base : Nat} {ops : List Oper}

theorem SE.refl (s : Sta) : SE base s s := ⟨QE.refl _, FR0.refl _ _⟩
theorem SE.trans {s s' s'' : Sta} (h : SE base s s') (h' : SE base s' s'') : SE base s s'' := ⟨h.1.trans h'.1, h.2.trans h'.2⟩
theorem Step.congr (hG : Good cf) {i : Nat} {l : Lab} {s s' s1 : Sta} (hb : base ≤ s.2.next) (he : SE base s s') (hs : Step E cf q cb n base ops i l s s1) : ∃ s1', Step E cf q cb n base ops i l s' s1' ∧ SE base s1 s1' := by
  obtain ⟨o, v, h1, h2, h3⟩ := hs
  obtain ⟨h2', h4, h5⟩ := (h2.tm (Agree.of_QE he.1)).heap hG (Nat.le_refl _) hb he.2
  exact ⟨(putS s'.1 o.dst v, h2'), ⟨o, v, h1, h4, rfl⟩, by rw [h3]; exact put_QE he.1 _ _, h5⟩
theorem Step.next (hG : Good cf) {i : Nat} {l : Lab} {s s1 : Sta} (hb : base ≤ s.2.next) (hs : Step E cf q cb n base ops i l s s1) : s.2.next ≤ s1.2.next := by
  obtain ⟨o, v, h1, h2, h3⟩ := hs
  exact (h2.after hG (Nat.le_refl _) hb).next
theorem Runs.congr (hG : Good cf) : ∀ (R : List (Nat × Lab)) (s s' t : Sta), base ≤ s.2.next → SE base s s' → Runs E cf q cb n base ops R s t → ∃ t', Runs E cf q cb n base ops R s' t' ∧ SE base t t'
  | [], s, s', t, _, he, hr => ⟨s', rfl, by rw [show t = s from hr]; exact he⟩
  | p :: R, s, s', t, hb, he, hr => by
    obtain ⟨s1, h1, h2⟩ := hr
    obtain ⟨s1', h3, h4⟩ := h1.congr hG hb he
    obtain ⟨t', h5, h6⟩ := Runs.congr hG R s1 s1' t (Nat.le_trans hb (h1.next hG hb)) h4 h2
    exact ⟨t', ⟨s1', h3, h5⟩, h6⟩
theorem Step.swap (hG : Good cf) (hst : Static q cb ops) {i j : Nat} {li lj : Lab} {s s1 s2 : Sta} (hb : base + n ≤ s.2.next) (hin : i < n) (hjn : j < n) (hne : i ≠ j) (hun : ordered q i j = false) (hind : IndLab q ops i li j lj)
    (hi0 : s.2.rows.get (base + i) = none) (hnc : ¬ li.isCall) (hj : Step E cf q cb n base ops j lj s s1) (hi : Step E cf q cb n base ops i li s1 s2) :
    ∃ s1' s2', Step E cf q cb n base ops i li s s1' ∧ Step E cf q cb n base ops j lj s1' s2' ∧ SE base s2 s2' := by
  obtain ⟨oj, vj, j1, j2, j3⟩ := hj
  obtain ⟨oi, vi, i1, i2, i3⟩ := hi
  obtain ⟨p1, p2, p3, p4⟩ := pairOk_spec (hst.pair i j oi oj i1 j1 hne hun)
  rw [j3] at i2
  have i2' := i2.tm (Agree.put (v := vj) p3).symm
  obtain ⟨h1', h2', c1, c2, c3⟩ := swap_core hG hb hst.cb i1 j1 (hst.cls4 _ _ i1) (hst.cls4 _ _ j1) hin hjn hne hun p4 hind hi0 hnc j2 i2'
  refine ⟨(putS s.1 oi.dst vi, h1'), (putS (putS s.1 oi.dst vi) oj.dst vj, h2'), ⟨oi, vi, i1, c1, rfl⟩, ⟨oj, vj, j1, c2.tm (Agree.put p2), rfl⟩, ?_, c3⟩
  rw [i3, j3]
  exact put_comm (fun d hd e => p1 d e hd)
theorem Step.absent (hG : Good cf) {i k : Nat} {l : Lab} {s s1 : Sta} (hk : k ≠ i) (hkn : k < n) (hb : base + n ≤ s.2.next) (h0 : s.2.rows.get (base + k) = none) (hs : Step E cf q cb n base ops i l s s1) : s1.2.rows.get (base + k) = none := by
  obtain ⟨o, v, h1, h2, h3⟩ := hs
  exact h2.absent hG hk hkn hb h0
/-- An operation that may come first is taken first. -/
theorem Runs.pull (hG : Good cf) (hst : Static q cb ops) {i : Nat} {li : Lab} {R2 : List (Nat × Lab)} (hin : i < n) : ∀ (R1 : List (Nat × Lab)) (s t : Sta), base + n ≤ s.2.next → s.2.rows.get (base + i) = none →
    (∀ p ∈ R1, i ≠ p.1 ∧ p.1 < n ∧ ordered q i p.1 = false ∧ IndLab q ops i li p.1 p.2) → (R1 = [] ∨ ¬ li.isCall) → Runs E cf q cb n base ops (R1 ++ (i, li) :: R2) s t →
    ∃ t', Runs E cf q cb n base ops ((i, li) :: (R1 ++ R2)) s t' ∧ SE base t t'
  | [], s, t, _, _, _, _, hr => ⟨t, hr, SE.refl t⟩
  | p :: R1, s, t, hb, h0, hp, hc, hr => by
    obtain ⟨s1, h1, h2⟩ := hr
    obtain ⟨q1, q2, q3, q4⟩ := hp p (by simp)
    have hnc : ¬ li.isCall := by
      rcases hc with hc | hc
      · cases hc
      · exact hc
    have hb1 : base ≤ s.2.next := by omega
    have hn1 := h1.next hG hb1
    obtain ⟨t1, ⟨s2, h3, h4⟩, h5⟩ := Runs.pull hG hst hin R1 s1 t (Nat.le_trans hb hn1) (h1.absent hG q1 hin hb h0) (fun p' hp' => hp p' (by simp [hp'])) (.inr hnc) h2
    obtain ⟨s1', s2', h6, h7, h8⟩ := Step.swap hG hst hb hin q2 q1 q3 q4 h0 hnc h1 h3
    have hn2 := h3.next hG (Nat.le_trans hb1 hn1)
    obtain ⟨t2, h9, h10⟩ := Runs.congr hG (R1 ++ R2) s2 s2' t1 (by omega) h8 h4
    exact ⟨t2, ⟨s1', h6, s2', h7, h9⟩, h5.trans h10⟩

/-! ### the run that the evaluator has made -/
theorem apart_spec {x y : List Nat} (h : apart x y = true) : ∀ r ∈ x, r ∉ y := by
  intro r hr hy
  have h1 : (!nmem r y) = true := allB_spec h r hr
  rw [(nmem_spec r y).2 hy] at h1; cases h1
def IndLog (q : Q Nat) (ops : List Oper) (p : Nat × Lab) (e : Nat × Nat × List Nat) : Prop :=
  ordered q p.1 e.1 = false → (∀ acc o, p.2 = .op acc → ops[p.1]? = some o → (cls o.op = 3 ∨ e.2.1 = 3) → ∀ r ∈ acc, r ∉ e.2.2) ∧ (∀ acc, p.2 = .op acc → e.2.1 = 9 → acc = [])
theorem logOk_spec {i : Nat} {o : Oper} (ho : ops[i]? = some o) {acc : List Nat} {log : DLog} (h : logOk q i (cls o.op) acc log = true) : ∀ e ∈ log, IndLog q ops (i, .op acc) e := by
  intro e he hun
  have h1 : bsel (ordered q i e.1) true (bsel (Nat.beq e.2.1 9) (nilB acc) (bsel (bsel (Nat.beq (cls o.op) 3) true (Nat.beq e.2.1 3)) (apart acc e.2.2) true)) = true := allB_spec h e he
  rw [show ordered q i e.1 = false from hun, bsel_false] at h1
  cases h9 : Nat.beq e.2.1 9 with
  | true =>
    rw [h9, bsel_true] at h1
    have hn : acc = [] := by
      cases acc with
      | nil => rfl
      | cons x xs => cases h1
    subst hn
    refine ⟨fun acc' o' e1 _ _ r hr => ?_, fun acc' e1 _ => ?_⟩
    · cases e1; cases hr
    · cases e1; rfl
  | false =>
    rw [h9, bsel_false] at h1
    refine ⟨fun acc' o' e1 e2 hc => ?_, fun acc' _ e3 => ?_⟩
    · cases e1
      rw [ho] at e2
      have e3 : o = o' := by injection e2
      subst e3
      have h2 : bsel (Nat.beq (cls o.op) 3) true (Nat.beq e.2.1 3) = true := by
        rcases hc with hc | hc
        · rw [hc]; rfl
        · rw [hc]; cases Nat.beq (cls o.op) 3 <;> rfl
      rw [h2, bsel_true] at h1
      exact apart_spec h1
    · rw [e3] at h9; cases h9
theorem runs_of_ev : ∀ (l : List Nat) (log : DLog) (a : Tmps) (h : Heap) (t : Sta), evDraw E cf q cb n base ops l log a h = some t →
    ∃ R, R.map (·.1) = l ∧ Runs E cf q cb n base ops R (a, h) t ∧ (∀ p ∈ R, ∀ e ∈ log, IndLog q ops p e) ∧ R.Pairwise (fun x y => IndLab q ops y.1 y.2 x.1 x.2)
  | [], log, a, h, t, he => by cases he; exact ⟨[], rfl, rfl, fun p hp => (by cases hp), .nil⟩
  | i :: l, log, a, h, t, he => by
    obtain ⟨o, ho, h1⟩ := obind_eq (show obind (nth ops i) (fun o => evDrawOne E cf q cb n base i ops o log a h (evDraw E cf q cb n base ops l)) = some t from he)
    rw [nth_eq] at ho
    obtain ⟨c, hw, h2⟩ := obind_eq h1
    cases c with
    | false =>
      rw [bsel_false] at h2
      obtain ⟨R, r1, r2, r3, r4⟩ := runs_of_ev l _ _ _ t h2
      refine ⟨(i, .skip) :: R, by simp [r1], ⟨(putS a o.dst .undef, h), ⟨o, .undef, ho, .skip hw, rfl⟩, r2⟩, fun p hp e hee => ?_, .cons (fun p hp => ?_) r4⟩
      · rcases List.mem_cons.1 hp with rfl | hp
        · exact fun _ => ⟨fun acc o' e1 => (by cases e1), fun acc e1 => (by cases e1)⟩
        · exact r3 p hp e hee
      · exact fun _ => ⟨fun acci accj oi oj e1 e2 => (by cases e2), fun acci e1 e2 => (by cases e2)⟩
    | true =>
      rw [bsel_true] at h2
      unfold evDrawOp at h2
      cases ht : tgt o.op with
      | none =>
        rw [ht] at h2
        obtain ⟨hc, h3⟩ := bsel_none h2
        obtain ⟨hc1, hc2⟩ := wf_two hc
        obtain ⟨p, hs, h4⟩ := obind_eq h3
        obtain ⟨v, u⟩ := p
        obtain ⟨hf, h5⟩ := bsel_none h4
        rw [applyK_eq] at h5
        obtain ⟨R, r1, r2, r3, r4⟩ := runs_of_ev l _ _ _ t h5
        refine ⟨(i, .op (accR o.op (ev a))) :: R, by simp [r1], ⟨(putS a o.dst v, applyU h (base + i) h.next u), ⟨o, v, ho, .op hw ht (allB_spec hc1) hs hf, rfl⟩, r2⟩, fun p hp e hee => ?_, .cons (fun p hp => ?_) r4⟩
        · rcases List.mem_cons.1 hp with rfl | hp
          · exact logOk_spec ho hc2 e hee
          · exact r3 p hp e (by simp [hee])
        · refine fun hun => ⟨fun acci accj oi oj e1 e2 e3 e4 hc r hr hr' => ?_, fun acci e1 e2 => (by cases e2)⟩
          cases e2
          have := r3 p hp (i, cls o.op, accR o.op (ev a)) (by simp)
          rw [show ops[i]? = some o from ho] at e4
          have e5 : o = oj := by injection e4
          subst e5
          exact (this hun).1 acci oi e1 e3 hc r hr hr'
      | some tg =>
        rw [ht] at h2
        obtain ⟨tt, htg, h3⟩ := obind_eq (show obind (tg a) (fun t => obind (cf t.1 t.2 ⟨h.rows, h.next, 1000000000⟩) fun p =>
          evDraw E cf q cb n base ops l (callLog (bsel (Nat.ble h.next p.2.lo) true (solo q i ops 0)) i log) (putS a o.dst p.1) ⟨p.2.rows, p.2.next, lower h.lo p.2.lo⟩) = some t from h2)
        obtain ⟨p, hcf, h5⟩ := obind_eq h3
        obtain ⟨v, h'⟩ := p
        obtain ⟨R, r1, r2, r3, r4⟩ := runs_of_ev l _ _ _ t h5
        refine ⟨(i, .call (bsel (Nat.ble h.next h'.lo) true (solo q i ops 0))) :: R, by simp [r1], ⟨(putS a o.dst v, ⟨h'.rows, h'.next, lower h.lo h'.lo⟩), ⟨o, v, ho, .call hw ht htg hcf ?_, rfl⟩, r2⟩, fun p hp e hee => ?_, .cons (fun p hp => ?_) r4⟩
        · intro hc
          cases hb : Nat.ble h.next h'.lo with
          | true => exact .inl (ble_le hb)
          | false => rw [hb, bsel_false] at hc; exact .inr hc
        · rcases List.mem_cons.1 hp with rfl | hp
          · exact fun _ => ⟨fun acc o' e1 => (by cases e1), fun acc e1 => (by cases e1)⟩
          · refine r3 p hp e ?_
            unfold callLog
            cases bsel (Nat.ble h.next (v, h').2.lo) true (solo q i ops 0) with
            | true => exact hee
            | false => exact List.mem_cons_of_mem _ hee
        · refine fun hun => ⟨fun acci accj oi oj e1 e2 => (by cases e2), fun acci e1 e2 => ?_⟩
          have hfr : bsel (Nat.ble h.next (v, h').2.lo) true (solo q i ops 0) = false := by injection e2
          refine (r3 p hp (i, 9, []) ?_ hun).2 acci e1 rfl
          rw [hfr]
          exact List.mem_cons_self
end
end Go.CE

namespace Go.CE
variable {GI : GInv}
section
variable {P : Program} {E : Env} {F : Fence} {cf : CallF} {q : Q Nat} {cb n base : Nat}

/-- One operation, in whatever order the machine makes them. -/
theorem core_sound {ops : Array Oper} {L : List Oper} (hL : L = ops.toList) {i : Nat} {o : Oper} {l : Lab} {a : Tmps} {h h' h0 : Heap} {v : AV} {S S0 : St} {w : World} {act : Act} {Q : Exit → Act → World → Prop} {K : Act → World → Prop}
    (hF : Free F) (hE : EnvTypes P E) (hC : CallOK GI P cf) (ho : ops[i]? = some o) (hc : Core E cf q cb n base L i o l a h v h') (hAt : At GI S h w) (hT : TmOK S a act.tmps)
    (hd : ∀ d, o.dst = some d → d < act.tmps.size) (hat : ¬ S.kn (base + i)) (hbi : base + i < h.next) (h0b : h0.next ≤ base) (hB : Behind S0 h0 S h) (hS0 : Rel S0)
    (hK : ∀ (S' : St) (act' : Act) (w' : World), At GI S' h' w' → Behind S0 h0 S' h' → TmOK S' (putS a o.dst v) act'.tmps → act'.tmps.size = act.tmps.size → act'.defers = act.defers →
      (∀ r, S'.kn r → S.kn r ∨ r = base + i ∨ h.next ≤ r) → K act' w') : wpOpIn F 0 P ops Q i K act w := by
  subst hL
  unfold wpOpIn
  simp only [ho]
  have hn0 : h0.next ≤ h.next := hB.le
  cases hc with
  | skip hw =>
    rw [wanted_ok hT hw]
    exact ⟨fun f _ => hF.fn f, hK S _ w hAt hB (hT.put V.undef hd) (put_size _ _ _) (put_defers' _ _ _) fun r hr => .inl hr⟩
  | op hw ht hl hs hf =>
    rename_i u
    rw [wanted_ok hT hw]
    refine ⟨fun f _ => hF.fn f, ?_⟩
    rw [← hAt.look] at hs
    obtain ⟨S', w', nx, hr, g1, g2, g3, g4, g5, g6, g7, hso⟩ := sem_sound hE hAt.rel hAt.hp (ev_V hT) hat (updOK_apply hAt.look (base + i) h.next u) hs
    have hnx : (applyU h (base + i) h.next u).next = h.next := by cases u <;> rfl
    have hAt' : At GI S' (applyU h (base + i) h.next u) w' := ⟨g2, g1, g4, fun r hr => by
      rw [hnx]
      rcases (g5 r).1 hr with hk | ⟨_, rfl⟩
      · exact hAt.kn r hk
      · exact hbi, hAt.met.ext g3, hAt.ok.apply, hAt.out.trans hso⟩
    have hlo : (applyU h (base + i) h.next u).lo ≤ h.lo := by
      cases u with
      | set r row => exact (lower_le h.lo r).1
      | _ => exact Nat.le_refl _
    have hkeep : Keep (applyU h (base + i) h.next u).lo S S' := g6 _ (by
      cases u with
      | set r row => exact (lower_le h.lo r).2
      | _ => trivial)
    have hB' : Behind S0 h0 S' (applyU h (base + i) h.next u) := ⟨hB.ext.trans g3 hS0.lt, fun r hr => by
      rw [hnx]
      rcases (g5 r).1 hr with hk | ⟨_, rfl⟩
      · exact hB.kn r hk
      · exact .inr ⟨by omega, hbi⟩, hB.keep.trans hkeep hB.ext.kn hlo, Nat.le_trans hlo hB.lo, by rw [hnx]; exact hn0⟩
    have hkn : ∀ r, S'.kn r → S.kn r ∨ r = base + i ∨ h.next ≤ r := fun r hr => by
      rcases (g5 r).1 hr with hk | ⟨_, rfl⟩
      · exact .inl hk
      · exact .inr (.inl rfl)
    rw [Oper.semAt_eq _ _ _ (sem_not_call hs), hr]
    rcases g7 with ⟨x, rfl, hx⟩ | ⟨rfl, rfl⟩
    · exact hK S' _ w' hAt' hB' ((hT.ext g3).put hx hd) (put_size _ _ _) (put_defers' _ _ _) hkn
    · exact hK S' _ w' hAt' hB' ((hT.ext g3).put V.undef hd) (put_size _ _ _) (put_defers' _ _ _) hkn
  | call hw ht htg hcf hs =>
    rename_i tg t h1 fr
    rw [wanted_ok hT hw]
    refine ⟨fun f _ => hF.fn f, ?_⟩
    obtain ⟨hlv, hmain⟩ := hC _ _ _ _ _ hcf
    obtain ⟨hnd, vs, hvs, hrun⟩ := tgt_sound (P := P) (w := w) hT ht htg (fun r hr => by obtain ⟨row, ha, hb⟩ := hlv r hr; exact ⟨row, by rw [hAt.look]; exact ha, hb⟩)
    rw [Oper.semAt_eq _ _ _ hnd, hrun]
    have hAt0 : At GI S ⟨h.rows, h.next, 1000000000⟩ w := ⟨hAt.rel, hAt.hp, hAt.look, hAt.kn, hAt.met, hAt.ok, hAt.out⟩
    refine (hmain F hF S w vs hAt0 hvs).uponIn hF fun x w' hx => ?_
    obtain ⟨S', hAt', hBc, hv⟩ := hx
    have hlo := lower_le h.lo h1.lo
    refine hK S' _ w' ⟨hAt'.rel, hAt'.hp, hAt'.look, hAt'.kn, hAt'.met, hAt'.ok, hAt'.out⟩ ⟨hB.ext.trans hBc.ext hS0.lt, fun r hr => ?_, hB.keep.trans (hBc.keep.mono hlo.2) hB.ext.kn hlo.1, Nat.le_trans hlo.1 hB.lo, Nat.le_trans hn0 hBc.le⟩
      ((hT.ext hBc.ext).put hv hd) (put_size _ _ _) (put_defers' _ _ _) fun r hr => ?_
    · have hle : h.next ≤ h1.next := hBc.le
      rcases hBc.kn r hr with hk | ⟨hk1, hk2⟩
      · rcases hB.kn r hk with hk | ⟨hk1, hk2⟩
        · exact .inl hk
        · exact .inr ⟨hk1, Nat.lt_of_lt_of_le hk2 hle⟩
      · exact .inr ⟨Nat.le_trans hn0 hk1, hk2⟩
    · rcases hBc.kn r hr with hk | ⟨hk1, hk2⟩
      · exact .inl hk
      · exact .inr (.inr hk1)

/-! ### what the order of the evaluator has -/
theorem orderOk_spec {ops : List Oper} : ∀ (l : List Nat) (done : Nat), orderOk q ops l done = true →
    (∀ i ∈ l, hasBit done i = false ∧ ∃ o, ops[i]? = some o) ∧
    (∀ i ∈ l, ∀ o, ops[i]? = some o → cls o.op = 4 → ∀ j, hasBit done j = true → hasBit (ancI q i) j = true) ∧
    l.Pairwise (fun j i => j ≠ i ∧ hasBit (ancI q j) i = false ∧ (∀ o, ops[i]? = some o → cls o.op = 4 → hasBit (ancI q i) j = true)) ∧
    (∀ k, k < ops.length → hasBit done k = true ∨ k ∈ l) ∧
    (∀ i ∈ l, hasBit (ancI q i) i = false ∧ ∀ m, hasBit (ancI q i) m = true → hasBit done m = true ∨ m ∈ l)
  | [], done, h => by
    refine ⟨fun i hi => (by cases hi), fun i hi => (by cases hi), .nil, fun k hk => .inl ?_, fun i hi => (by cases hi)⟩
    have h1 : Nat.beq done (Nat.sub (Nat.pow 2 (llen ops)) 1) = true := h
    rw [beq_eq h1, hasBit_eq, llen_eq]
    show (2 ^ ops.length - 1).testBit k = true
    rw [Nat.testBit_two_pow_sub_one]; simp [hk]
  | i :: l, done, h => by
    have h1 : bsel (hasBit done i) false (bsel (subMask (ancI q i) done)
      (Option.rec (motive := fun _ => Bool) false (fun o => bsel (bsel (Nat.beq (cls o.op) 4) (Nat.beq done (ancI q i)) (Nat.ble (cls o.op) 3)) (orderOk q ops l (Nat.lor done (Nat.pow 2 i))) false) (nth ops i)) false) = true := h
    cases hb : hasBit done i with
    | true => rw [hb] at h1; cases h1
    | false =>
      rw [hb, bsel_false] at h1
      obtain ⟨hs, h2⟩ := wf_two h1
      rw [nth_eq] at h2
      cases ho : ops[i]? with
      | none => rw [ho] at h2; cases h2
      | some o =>
        rw [ho] at h2
        obtain ⟨h3, h4⟩ := wf_two (show bsel (bsel (Nat.beq (cls o.op) 4) (Nat.beq done (ancI q i)) (Nat.ble (cls o.op) 3)) (orderOk q ops l (Nat.lor done (Nat.pow 2 i))) false = true from h2)
        obtain ⟨r1, r2, r3, r4, r5⟩ := orderOk_spec l _ h4
        have hcall : ∀ o', ops[i]? = some o' → cls o'.op = 4 → ∀ j, hasBit done j = true → hasBit (ancI q i) j = true := fun o' e hc j hj => by
          rw [ho] at e
          have e' : o = o' := by injection e
          subst e'
          rw [hc, show Nat.beq 4 4 = true from rfl, bsel_true] at h3
          rw [← beq_eq h3]; exact hj
        have hor : ∀ k, hasBit (Nat.lor done (Nat.pow 2 i)) k = (hasBit done k || decide (i = k)) := fun k => by rw [hasBit_or, hasBit_pow]
        have hsub : ∀ m, hasBit (ancI q i) m = true → hasBit done m = true := fun m hm => subMask_spec hs hm
        have htl : ∀ k ∈ l, hasBit done k = false ∧ i ≠ k := fun k hk => by
          have := (r1 k hk).1
          rw [hor] at this
          simpa using this
        refine ⟨fun k hk => ?_, fun k hk o' e hc j hj => ?_, .cons (fun k hk => ⟨(htl k hk).2, ?_, fun o' e hc => r2 k hk o' e hc i (by rw [hor]; simp)⟩) r3, fun k hk => ?_, fun k hk => ?_⟩
        · rcases List.mem_cons.1 hk with rfl | hk
          · exact ⟨hb, o, ho⟩
          · exact ⟨(htl k hk).1, (r1 k hk).2⟩
        · rcases List.mem_cons.1 hk with rfl | hk
          · exact hcall o' e hc j hj
          · exact r2 k hk o' e hc j (by rw [hor, hj]; rfl)
        · cases hh : hasBit (ancI q i) k with
          | false => rfl
          | true => have := hsub k hh; rw [(htl k hk).1] at this; cases this
        · rcases r4 k hk with h5 | h5
          · rw [hor] at h5
            cases hd : hasBit done k with
            | true => exact .inl rfl
            | false => rw [hd] at h5; exact .inr (by simp at h5; simp [h5])
          · exact .inr (by simp [h5])
        · rcases List.mem_cons.1 hk with rfl | hk
          · refine ⟨?_, fun m hm => .inl (hsub m hm)⟩
            cases hh : hasBit (ancI q k) k with
            | false => rfl
            | true => have := hsub k hh; rw [hb] at this; cases this
          · refine ⟨(r5 k hk).1, fun m hm => ?_⟩
            rcases (r5 k hk).2 m hm with h5 | h5
            · rw [hor] at h5
              cases hd : hasBit done m with
              | true => exact .inl rfl
              | false => rw [hd] at h5; exact .inr (by simp at h5; simp [h5])
            · exact .inr (by simp [h5])
theorem orderOk_cls {ops : List Oper} : ∀ (l : List Nat) (done : Nat), orderOk q ops l done = true → ∀ i ∈ l, ∀ o, ops[i]? = some o → cls o.op ≤ 4
  | [], _, _, i, hi, _, _ => by cases hi
  | k :: l, done, h, i, hi, o, ho => by
    have h1 : bsel (hasBit done k) false (bsel (subMask (ancI q k) done)
      (Option.rec (motive := fun _ => Bool) false (fun o => bsel (bsel (Nat.beq (cls o.op) 4) (Nat.beq done (ancI q k)) (Nat.ble (cls o.op) 3)) (orderOk q ops l (Nat.lor done (Nat.pow 2 k))) false) (nth ops k)) false) = true := h
    cases hb : hasBit done k with
    | true => rw [hb] at h1; cases h1
    | false =>
      rw [hb, bsel_false] at h1
      obtain ⟨_, h2⟩ := wf_two h1
      rw [nth_eq] at h2
      cases hk : ops[k]? with
      | none => rw [hk] at h2; cases h2
      | some ok =>
        rw [hk] at h2
        obtain ⟨h3, h4⟩ := wf_two (show bsel (bsel (Nat.beq (cls ok.op) 4) (Nat.beq done (ancI q k)) (Nat.ble (cls ok.op) 3)) (orderOk q ops l (Nat.lor done (Nat.pow 2 k))) false = true from h2)
        rcases List.mem_cons.1 hi with rfl | hi
        · rw [hk] at ho
          have e : ok = o := by injection ho
          subst e
          cases hc : Nat.beq (cls ok.op) 4 with
          | true => have := beq_eq hc; omega
          | false => rw [hc, bsel_false] at h3; have := ble_le h3; omega
        · exact orderOk_cls l _ h4 i hi o ho
theorem rowOk_spec {ops : List Oper} {x : Oper} {i : Nat} : ∀ (l : List Oper) (k : Nat), rowOk q ops x i l k = true → ∀ (j : Nat) (y : Oper), l[j]? = some y → i ≠ k + j → ordered q i (k + j) = false → pairOk ops x y = true := by
  intro l
  induction l with
  | nil => intro k _ j y hj; cases hj
  | cons z l ih =>
    intro k h j y hj hne hun
    obtain ⟨h1, h2⟩ := wf_two (show bsel (bsel (Nat.beq i k) true (bsel (ordered q i k) true (pairOk ops x z))) (rowOk q ops x i l (k + 1)) false = true from h)
    cases j with
    | zero =>
      rw [List.getElem?_cons_zero] at hj
      have hxo : z = y := by injection hj
      subst hxo
      cases hb : Nat.beq i k with
      | true => exact absurd (beq_eq hb) (by simpa using hne)
      | false =>
        rw [hb, bsel_false, show ordered q i k = false from by simpa using hun, bsel_false] at h1
        exact h1
    | succ j =>
      rw [List.getElem?_cons_succ] at hj
      exact ih (k + 1) h2 j y hj (by omega) (by rw [show k + 1 + j = k + (j + 1) by omega]; exact hun)
theorem allOk_spec {ops : List Oper} : ∀ (l : List Oper) (k : Nat), allOk q ops l k = true → ∀ (i : Nat) (x : Oper), l[i]? = some x → rowOk q ops x (k + i) ops 0 = true := by
  intro l
  induction l with
  | nil => intro k _ i x hi; cases hi
  | cons z l ih =>
    intro k h i x hi
    obtain ⟨h1, h2⟩ := wf_two (show bsel (rowOk q ops z k ops 0) (allOk q ops l (k + 1)) false = true from h)
    cases i with
    | zero =>
      rw [List.getElem?_cons_zero] at hi
      have hxo : z = x := by injection hi
      subst hxo; exact h1
    | succ i =>
      rw [List.getElem?_cons_succ] at hi
      have := ih (k + 1) h2 i x hi
      rwa [show k + 1 + i = k + (i + 1) by omega] at this

/-! ### what must come ahead -/
theorem maskOf_cons (q : Q Nat) (e : Edge) (es : List Edge) : maskOf q (e :: es) = bsel (bindsAny e.ground) (Nat.lor (maskOf q es) (Nat.lor (Nat.pow 2 e.on) (Option.rec (motive := fun _ => Nat) 0 (fun m => m) (q.get e.on)))) (maskOf q es) := rfl
theorem maskOf_sound {m : Nat} : ∀ {es : List Edge}, hasBit (maskOf q es) m = true → ∃ e ∈ es, bindsAny e.ground = true ∧ (m = e.on ∨ ∃ mm, q.get e.on = some mm ∧ hasBit mm m = true)
  | [], h => by rw [show maskOf q [] = 0 from rfl, hasBit_zero] at h; cases h
  | e :: es, h => by
    rw [maskOf_cons] at h
    cases hb : bindsAny e.ground with
    | false =>
      rw [hb, bsel_false] at h
      obtain ⟨e', h1, h2⟩ := maskOf_sound h
      exact ⟨e', by simp [h1], h2⟩
    | true =>
      rw [hb, bsel_true, hasBit_or, hasBit_or, hasBit_pow] at h
      cases h1 : hasBit (maskOf q es) m with
      | true =>
        obtain ⟨e', h1, h2⟩ := maskOf_sound h1
        exact ⟨e', by simp [h1], h2⟩
      | false =>
        rw [h1] at h
        refine ⟨e, by simp, hb, ?_⟩
        by_cases h2 : e.on = m
        · exact .inl h2.symm
        · right
          cases h3 : q.get e.on with
          | none => simp only [h3] at h; rw [hasBit_zero] at h; simp [h2] at h
          | some mm => simp only [h3] at h; exact ⟨mm, rfl, by simpa [h2] using h⟩
theorem maskOf_comp : ∀ {es : List Edge} {e : Edge}, e ∈ es → bindsAny e.ground = true → hasBit (maskOf q es) e.on = true
  | e' :: es, e, he, hb => by
    rw [maskOf_cons]
    rcases List.mem_cons.1 he with rfl | he
    · rw [hb, bsel_true, hasBit_or, hasBit_or, hasBit_pow]; simp
    · have := maskOf_comp he hb
      cases bindsAny e'.ground with
      | false => exact this
      | true => rw [bsel_true, hasBit_or, this]; rfl
theorem ancs_cons (o : Oper) (l : List Oper) (k : Nat) (q : Q Nat) : ancs (o :: l) k q = ancs l (k + 1) (q.set k (maskOf q o.after.toList)) := rfl
theorem ancs_keep : ∀ (l : List Oper) (k : Nat) (q : Q Nat) (j : Nat), j < k → (ancs l k q).get j = q.get j
  | [], _, _, _, _ => rfl
  | o :: l, k, q, j, hj => by
    rw [ancs_cons, ancs_keep l (k + 1) _ j (by omega), Q.get_set_ne _ _ _ _ (by omega)]
theorem ancs_at : ∀ (l : List Oper) (k : Nat) (q : Q Nat) (i : Nat) (o : Oper), l[i]? = some o → (∀ j, k ≤ j → q.get j = none) →
    ∃ q' : Q Nat, (∀ j, q'.get j = none ∨ q'.get j = (ancs l k q).get j) ∧ (ancs l k q).get (k + i) = if q.ok (k + i) then some (maskOf q' o.after.toList) else none
  | [], _, _, _, _, hi, _ => by cases hi
  | x :: l, k, q, i, o, hi, hn => by
    rw [ancs_cons]
    cases i with
    | zero =>
      rw [List.getElem?_cons_zero] at hi
      have hxo : x = o := by injection hi
      subst hxo
      refine ⟨q, fun j => ?_, ?_⟩
      · by_cases hj : j < k
        · right; rw [ancs_keep l (k + 1) _ j (by omega), Q.get_set_ne _ _ _ _ (by omega)]
        · exact .inl (hn j (by omega))
      · show (ancs l (k + 1) (q.set k (maskOf q x.after.toList))).get k = if q.ok k = true then some (maskOf q x.after.toList) else none
        rw [ancs_keep l (k + 1) _ k (by omega), Q.get_set_self]
    | succ i =>
      rw [List.getElem?_cons_succ] at hi
      obtain ⟨q', h1, h2⟩ := ancs_at l (k + 1) (q.set k (maskOf q x.after.toList)) i o hi fun j hj => by
        rw [Q.get_set_ne _ _ _ _ (by omega)]; exact hn j (by omega)
      refine ⟨q', h1, ?_⟩
      rw [show k + 1 + i = k + (i + 1) by omega, Q.ok_set] at h2
      exact h2
theorem anc_at {ops : List Oper} {i : Nat} {o : Oper} (ho : ops[i]? = some o) (hn : ops.length ≤ 1024) : ∃ q' : Q Nat, (∀ j, q'.get j = none ∨ q'.get j = (ancQ ops).get j) ∧ ancI (ancQ ops) i = maskOf q' o.after.toList := by
  obtain ⟨q', h1, h2⟩ := ancs_at ops 0 (Q.full 5) i o ho fun j _ => Q.get_full 5 j
  refine ⟨q', h1, ?_⟩
  have hi : i < ops.length := (List.getElem?_eq_some_iff.1 ho).1
  rw [Nat.zero_add, (Q.ok_full 5 i).2 (by show i < 4 ^ 5; omega)] at h2
  unfold ancI
  rw [show (ancQ ops).get i = some (maskOf q' o.after.toList) from h2]
theorem anc_sound {ops : List Oper} {i m : Nat} {o : Oper} (ho : ops[i]? = some o) (hn : ops.length ≤ 1024) (hm : hasBit (ancI (ancQ ops) i) m = true) :
    ∃ e ∈ o.after.toList, bindsAny e.ground = true ∧ (m = e.on ∨ hasBit (ancI (ancQ ops) e.on) m = true) := by
  obtain ⟨q', h1, h2⟩ := anc_at ho hn
  rw [h2] at hm
  obtain ⟨e, h3, h4, h5⟩ := maskOf_sound hm
  refine ⟨e, h3, h4, h5.imp id fun ⟨mm, h6, h7⟩ => ?_⟩
  rcases h1 e.on with h8 | h8
  · rw [h6] at h8; cases h8
  · unfold ancI; rw [← h8, h6]; exact h7
theorem anc_comp {ops : List Oper} {i : Nat} {o : Oper} (ho : ops[i]? = some o) (hn : ops.length ≤ 1024) {e : Edge} (he : e ∈ o.after.toList) (hb : bindsAny e.ground = true) : hasBit (ancI (ancQ ops) i) e.on = true := by
  obtain ⟨q', h1, h2⟩ := anc_at ho hn
  rw [h2]; exact maskOf_comp he hb
theorem binds_any (e : Edge) : Region.binds .any e = bindsAny e.ground := by
  unfold Region.binds bindsAny; cases e.ground <;> rfl
end
end Go.CE

namespace Go.CE
variable {GI : GInv}
section
variable {P : Program} {E : Env} {F : Fence} {cf : CallF}

theorem Step.isCall {q : Q Nat} {cb n base : Nat} {ops : List Oper} {i : Nat} {l : Lab} {s s' : Sta} (h : Step E cf q cb n base ops i l s s') (hl : l.isCall) : ∃ o, ops[i]? = some o ∧ cls o.op = 4 := by
  obtain ⟨o, v, h1, h2, h3⟩ := h
  clear h3
  generalize s.2 = x, s'.2 = y at h2
  cases h2 with
  | skip => exact hl.elim
  | op => exact hl.elim
  | call hw ht htg hcf hs => exact ⟨o, h1, tgt_cls ht⟩
theorem nodup_length : ∀ (n : Nat) (l : List Nat), l.Nodup → (∀ x ∈ l, x < n) → l.length ≤ n
  | 0, [], _, _ => Nat.le_refl _
  | 0, x :: _, _, h => absurd (h x (by simp)) (by omega)
  | n + 1, l, hd, h => by
    by_cases hm : n ∈ l
    · obtain ⟨l1, l2, rfl⟩ := List.append_of_mem hm
      obtain ⟨h1, h2, h3⟩ := List.pairwise_append.1 hd
      have h4 := List.pairwise_cons.1 h2
      have := nodup_length n (l1 ++ l2) (List.pairwise_append.2 ⟨h1, h4.2, fun x hx y hy => h3 x hx y (by simp [hy])⟩) fun x hx => by
        have hlt : x < n + 1 := h x (by
          rcases List.mem_append.1 hx with hx | hx
          · exact List.mem_append_left _ hx
          · exact List.mem_append_right _ (by simp [hx]))
        have hne : x ≠ n := by
          rcases List.mem_append.1 hx with hx | hx
          · exact h3 x hx n (by simp)
          · exact fun e => h4.1 x hx e.symm
        omega
      simp at this ⊢; omega
    · have := nodup_length n l hd fun x hx => by
        have := h x hx
        have hne : x ≠ n := fun e => hm (e ▸ hx)
        omega
      omega
theorem Runs.mem {q : Q Nat} {cb n base : Nat} {ops : List Oper} {i : Nat} {l : Lab} {R2 : List (Nat × Lab)} : ∀ {R1 : List (Nat × Lab)} {s t : Sta}, Runs E cf q cb n base ops (R1 ++ (i, l) :: R2) s t → ∃ s1 s2, Step E cf q cb n base ops i l s1 s2
  | [], s, t, ⟨s1, h, _⟩ => ⟨s, s1, h⟩
  | _ :: _, _, _, ⟨_, _, h⟩ => Runs.mem h
theorem wfOps_at {n : Nat} : ∀ {l : List Oper}, wfOps n l = true → ∀ {i : Nat} {o : Oper}, l[i]? = some o → ∀ d, o.dst = some d → d < n := by
  intro l
  induction l with
  | nil => intro _ i o h; cases h
  | cons x l ih =>
    intro h i o ho d hd
    obtain ⟨h1, h2⟩ := wfOps_cons h
    cases i with
    | zero =>
      rw [List.getElem?_cons_zero] at ho
      have e : x = o := by injection ho
      subst e; exact h1 d hd
    | succ i => rw [List.getElem?_cons_succ] at ho; exact ih h2 ho d hd
/-- The pairs of what is still to be done. -/
def PairIs (ops : List Oper) (x y : Nat × Lab) : Prop :=
  x.1 ≠ y.1 ∧ hasBit (ancI (ancQ ops) x.1) y.1 = false ∧ (∀ o, ops[y.1]? = some o → cls o.op = 4 → hasBit (ancI (ancQ ops) y.1) x.1 = true) ∧ IndLab (ancQ ops) ops y.1 y.2 x.1 x.2
structure Todo (ops : Array Oper) (listed : Array Bool) (R : List (Nat × Lab)) : Prop where
  size : listed.size = ops.size
  cover : ∀ k, k < ops.size → listed.getD k false = false → ∃ l, (k, l) ∈ R
  un : ∀ p ∈ R, p.1 < ops.size ∧ listed.getD p.1 false = false
  pairs : R.Pairwise (PairIs ops.toList)
  anc : ∀ p ∈ R, hasBit (ancI (ancQ ops.toList) p.1) p.1 = false ∧ ∀ m, hasBit (ancI (ancQ ops.toList) p.1) m = true → m < ops.size
  closed : ∀ k, listed.getD k false = true → ∀ m, hasBit (ancI (ancQ ops.toList) k) m = true → listed.getD m false = true
theorem getD_true {listed : Array Bool} {k : Nat} (h : k < listed.size) : listed.getD k true = listed.getD k false := by simp [h]
theorem getD_lt {listed : Array Bool} {k : Nat} (h : listed.getD k false = true) : k < listed.size := by
  rcases Nat.lt_or_ge k listed.size with h' | h'
  · exact h'
  · simp [Array.getElem?_eq_none h'] at h
theorem ready_spec {ops : Array Oper} {listed : Array Bool} {R : List (Nat × Lab)} (hT : Todo ops listed R) (hn : ops.toList.length ≤ 1024) {i : Nat} (h : i ∈ Region.ready .any ops listed) :
    ∃ o, ops[i]? = some o ∧ i < ops.size ∧ listed.getD i false = false ∧ ∀ m, hasBit (ancI (ancQ ops.toList) i) m = true → listed.getD m false = true := by
  obtain ⟨h1, o, ho, h2⟩ := mem_ready.1 h
  have hi : i < ops.size := (Array.getElem?_eq_some_iff.1 ho).1
  refine ⟨o, ho, hi, by rw [← getD_true (by rw [hT.size]; exact hi)]; exact h1, fun m hm => ?_⟩
  obtain ⟨e, he, hb, hc⟩ := anc_sound (by rw [Array.getElem?_toList]; exact ho) hn hm
  have hl := h2 e (by simpa using he) (by rw [binds_any]; exact hb)
  rcases hc with rfl | hc
  · exact hl
  · exact hT.closed e.on hl m hc
theorem ready_first {ops : Array Oper} {listed : Array Bool} {p : Nat × Lab} {R : List (Nat × Lab)} (hT : Todo ops listed (p :: R)) (hn : ops.toList.length ≤ 1024) : p.1 ∈ Region.ready .any ops listed := by
  obtain ⟨h1, h2⟩ := hT.un p (by simp)
  refine mem_ready.2 ⟨by rw [getD_true (by rw [hT.size]; exact h1)]; exact h2, ops[p.1], by simp [h1], fun e he hb => ?_⟩
  have hm := anc_comp (ops := ops.toList) (i := p.1) (o := ops[p.1]) (by rw [Array.getElem?_toList]; simp [h1]) hn (e := e) (by simpa using he) (by rw [← binds_any]; exact hb)
  have hlt := (hT.anc p (by simp)).2 _ hm
  cases hl : listed.getD e.on false with
  | true => rfl
  | false =>
    obtain ⟨l, hin⟩ := hT.cover e.on hlt hl
    rcases List.mem_cons.1 hin with h3 | h3
    · have h4 : e.on = p.1 := by rw [← h3]
      have := (hT.anc p (by simp)).1
      rw [h4, this] at hm; cases hm
    · have := ((List.pairwise_cons.1 hT.pairs).1 _ h3).2.1
      rw [show hasBit (ancI (ancQ ops.toList) p.1) e.on = false from this] at hm; cases hm
theorem Todo.take {ops : Array Oper} {listed : Array Bool} {i : Nat} {l : Lab} {R1 R2 : List (Nat × Lab)} (hT : Todo ops listed (R1 ++ (i, l) :: R2)) (hi : i < ops.size) (hanc : ∀ m, hasBit (ancI (ancQ ops.toList) i) m = true → listed.getD m false = true) :
    Todo ops (listed.setIfInBounds i true) (R1 ++ R2) := by
  have hne : ∀ p ∈ R1 ++ R2, p.1 ≠ i := fun p hp => by
    obtain ⟨h1, h2, h3⟩ := List.pairwise_append.1 hT.pairs
    rcases List.mem_append.1 hp with hp | hp
    · exact (h3 p hp (i, l) (by simp)).1
    · exact ((List.pairwise_cons.1 h2).1 p hp).1.symm
  have hsub : ∀ p ∈ R1 ++ R2, p ∈ R1 ++ (i, l) :: R2 := fun p hp => by
    rcases List.mem_append.1 hp with hp | hp
    · exact List.mem_append_left _ hp
    · exact List.mem_append_right _ (by simp [hp])
  have hset : ∀ k, (listed.setIfInBounds i true).getD k false = true → k = i ∨ listed.getD k false = true := fun k hk => by
    by_cases e : i = k
    · exact .inl e.symm
    · rw [getD_set_ne false e] at hk; exact .inr hk
  refine ⟨by simp [hT.size], fun k hk hl => ?_, fun p hp => ⟨(hT.un p (hsub p hp)).1, ?_⟩, ?_, fun p hp => hT.anc p (hsub p hp), fun k hk m hm => ?_⟩
  · have hki : i ≠ k := fun e => by
      subst e
      rw [Array.getD_eq_getD_getElem?, Array.getElem?_setIfInBounds_self_of_lt (by rw [hT.size]; exact hi)] at hl
      cases hl
    rw [getD_set_ne false hki] at hl
    obtain ⟨l', hin⟩ := hT.cover k hk hl
    refine ⟨l', ?_⟩
    rcases List.mem_append.1 hin with h | h
    · exact List.mem_append_left _ h
    · rcases List.mem_cons.1 h with h | h
      · cases h; exact absurd rfl hki
      · exact List.mem_append_right _ h
  · rw [getD_set_ne false (hne p hp).symm]; exact (hT.un p (hsub p hp)).2
  · obtain ⟨h1, h2, h3⟩ := List.pairwise_append.1 hT.pairs
    exact List.pairwise_append.2 ⟨h1, (List.pairwise_cons.1 h2).2, fun x hx y hy => h3 x hx y (by simp [hy])⟩
  · rcases hset k hk with rfl | hk
    · exact getD_set_true (hanc m hm)
    · exact getD_set_true (hT.closed k hk m hm)
theorem At.se {base : Nat} {S : St} {s t : Sta} {w : World} (he : SE base s t) (h : At GI S t.2 w) : At GI S s.2 w := ⟨h.rel, h.hp, by rw [h.look]; exact he.2.get, fun r hr => by rw [← he.2.next]; exact h.kn r hr, h.met, fun r => (he.2.ok r).symm.trans (h.ok r), h.out⟩
theorem Behind.se {base : Nat} {S S0 : St} {h0 : Heap} {s t : Sta} (he : SE base s t) (h : Behind S0 h0 S t.2) : Behind S0 h0 S s.2 :=
  ⟨h.ext, fun r hr => by rw [← he.2.next]; exact h.kn r hr, by rw [← he.2.lo]; exact h.keep, by rw [← he.2.lo]; exact h.lo, by rw [← he.2.next]; exact h.le⟩
theorem TmOK.se {S : St} {a a2 : Tmps} {t : Array Value} (he : QE a a2) (h : TmOK S a2 t) : TmOK S a t := fun x => by rw [← (he x).1]; exact h x

theorem any_sound {ops : Array Oper} {base nt : Nat} {fin : Sta} {S0 : St} {h0 : Heap} {Q : Exit → Act → World → Prop} {ds : List Deferred} (hF : Free F) (hE : EnvTypes P E) (hC : CallOK GI P cf) (hG : Good cf)
    (hst : Static (ancQ ops.toList) (callBits ops.toList 0) ops.toList) (hn : ops.toList.length ≤ 1024) (hwf : wfOps nt ops.toList = true) (h0b : h0.next ≤ base) (hS0 : Rel S0)
    (hQ : ∀ (S' : St) (act' : Act) (w' : World), At GI S' fin.2 w' → Behind S0 h0 S' fin.2 → TmOK S' fin.1 act'.tmps → act'.tmps.size = nt → act'.defers = ds → Q .normal act' w') :
    ∀ (fuel : Nat) (listed : Array Bool) (R : List (Nat × Lab)) (s t : Sta) (S : St) (w : World) (act : Act), R.length ≤ fuel → Todo ops listed R → base + ops.size ≤ s.2.next →
      (∀ p ∈ R, s.2.rows.get (base + p.1) = none ∧ ¬ S.kn (base + p.1)) → Runs E cf (ancQ ops.toList) (callBits ops.toList 0) ops.size base ops.toList R s t → SE base fin t →
      At GI S s.2 w → TmOK S s.1 act.tmps → act.tmps.size = nt → act.defers = ds → Behind S0 h0 S s.2 → wpAnyIn F 0 P .any ops Q fuel listed act w
  | 0, listed, R, s, t, S, w, act, hf, hT, _, _, hr, he, hAt, hTm, hsz, hds, hB => by
    have : R = [] := List.length_eq_zero_iff.1 (by omega)
    subst this
    have ht : t = s := hr
    subst ht
    refine ⟨?_, hQ S act w (hAt.se he) (hB.se he) (hTm.se he.1) hsz hds⟩
    cases hrd : Region.ready .any ops listed with
    | nil => rfl
    | cons i l =>
      obtain ⟨o, _, h1, h2, _⟩ := ready_spec hT hn (i := i) (by rw [hrd]; simp)
      obtain ⟨l', h3⟩ := hT.cover i h1 h2
      cases h3
  | fuel + 1, listed, R, s, t, S, w, act, hf, hT, hbn, habs, hr, he, hAt, hTm, hsz, hds, hB => by
    refine ⟨fun h => ?_, fun i hi => ?_⟩
    · cases R with
      | nil =>
        have ht : t = s := hr
        subst ht
        exact hQ S act w (hAt.se he) (hB.se he) (hTm.se he.1) hsz hds
      | cons p R => have := ready_first hT hn; rw [h] at this; cases this
    · obtain ⟨o, ho, hi1, hi2, hi3⟩ := ready_spec hT hn hi
      obtain ⟨li, hin⟩ := hT.cover i hi1 hi2
      obtain ⟨R1, R2, rfl⟩ := List.append_of_mem hin
      have hpw := List.pairwise_append.1 hT.pairs
      have hfront : ∀ p ∈ R1, i ≠ p.1 ∧ p.1 < ops.size ∧ ordered (ancQ ops.toList) i p.1 = false ∧ IndLab (ancQ ops.toList) ops.toList i li p.1 p.2 := fun p hp => by
        obtain ⟨c1, c2, c3, c4⟩ := hpw.2.2 p hp (i, li) (by simp)
        obtain ⟨u1, u2⟩ := hT.un p (List.mem_append_left _ hp)
        refine ⟨c1.symm, u1, ?_, c4⟩
        rw [ordered_eq, c2]
        cases hh : hasBit (ancI (ancQ ops.toList) i) p.1 with
        | false => rfl
        | true => have := hi3 _ hh; rw [u2] at this; cases this
      have hcall : R1 = [] ∨ ¬ li.isCall := by
        cases R1 with
        | nil => exact .inl rfl
        | cons p R1' =>
          refine .inr fun hc => ?_
          obtain ⟨s1, s2, hs⟩ := hr.mem
          obtain ⟨o', ho', hc4⟩ := hs.isCall hc
          have h1 := (hpw.2.2 p (by simp) (i, li) (by simp)).2.2.1 o' ho' hc4
          have h2 := hi3 _ h1
          rw [(hT.un p (by simp)).2] at h2; cases h2
      obtain ⟨t', ⟨s1, hs1, hr1⟩, he1⟩ := hr.pull hG hst hi1 R1 s t hbn (habs (i, li) (by simp)).1 hfront hcall
      have hsub : ∀ p ∈ R1 ++ R2, p ∈ R1 ++ (i, li) :: R2 := fun p hp => by
        rcases List.mem_append.1 hp with hp | hp
        · exact List.mem_append_left _ hp
        · exact List.mem_append_right _ (by simp [hp])
      have hne : ∀ p ∈ R1 ++ R2, p.1 ≠ i := fun p hp => by
        rcases List.mem_append.1 hp with hp | hp
        · exact (hfront p hp).1.symm
        · exact ((List.pairwise_cons.1 hpw.2.1).1 p hp).1.symm
      have hnx := hs1.next hG (by omega : base ≤ s.2.next)
      have habs1 : ∀ p ∈ R1 ++ R2, s1.2.rows.get (base + p.1) = none := fun p hp => hs1.absent hG (hne p hp) (hT.un p (hsub p hp)).1 hbn (habs p (hsub p hp)).1
      obtain ⟨o', v, ho', hc, hput⟩ := hs1
      have hoo : ops.toList[i]? = some o := by rw [Array.getElem?_toList]; exact ho
      have e : o' = o := by rw [hoo] at ho'; injection ho' with e; exact e.symm
      subst e
      have hd : ∀ d, o'.dst = some d → d < act.tmps.size := fun d hd => by rw [hsz]; exact wfOps_at hwf ho' d hd
      refine core_sound rfl hF hE hC ho hc hAt hTm hd (habs (i, li) (by simp)).2 (by omega) h0b hB hS0 fun S' act' w' g1 g2 g3 g4 g5 g6 => ?_
      rw [← hput] at g3
      refine any_sound hF hE hC hG hst hn hwf h0b hS0 hQ fuel _ (R1 ++ R2) s1 t' S' w' act' ?_ (hT.take hi1 hi3) (Nat.le_trans hbn hnx) (fun p hp => ⟨habs1 p hp, fun hk => ?_⟩) hr1 (he.trans he1) g1 g3 (g4.trans hsz) (g5.trans hds) g2
      · simp at hf ⊢; omega
      · have hp1 := (hT.un p (hsub p hp)).1
        have hpne := hne p hp
        rcases g6 _ hk with h | h | h
        · exact (habs p (hsub p hp)).2 h
        · omega
        · omega
/-- Regions that draw their order are sound. -/
theorem draw_sound (hm : P.follows .mixedOrders = true) (hE : EnvTypes P E) (hC : CallOK GI P cf) (hG : Good cf) : DrawOK GI P E cf := by
  intro F hF id n ops a h a' h' S w act Q he hwf hsz hAt hT hQ
  obtain ⟨hok, hev⟩ := bsel_none (show bsel (drawOk ops.toList) (evDraw E cf (ancQ ops.toList) (callBits ops.toList 0) (llen ops.toList) h.next ops.toList (canon (ancQ ops.toList) ops.toList) [] a ⟨h.rows, Nat.add h.next (llen ops.toList), h.lo⟩) none = some (a', h') from he)
  obtain ⟨hn, hok2⟩ := wf_two hok
  obtain ⟨hall, hord⟩ := wf_two hok2
  have hlen : llen ops.toList = ops.size := by rw [llen_eq]; simp
  rw [hlen] at hev hn
  have hn' : ops.toList.length ≤ 1024 := by have := ble_le hn; simpa using this
  have hst : Static (ancQ ops.toList) (callBits ops.toList 0) ops.toList := ⟨rfl, fun i o ho => by
    have hi : i < ops.toList.length := (List.getElem?_eq_some_iff.1 ho).1
    rcases (orderOk_spec _ _ hord).2.2.2.1 i hi with h1 | h1
    · rw [hasBit_zero] at h1; cases h1
    · exact orderOk_cls _ _ hord i h1 o ho, fun i j x y hx hy hne hun => by
    have h1 := allOk_spec ops.toList 0 hall i x hx
    rw [Nat.zero_add] at h1
    exact rowOk_spec ops.toList 0 h1 j y hy (by simpa using hne) (by simpa using hun)⟩
  obtain ⟨R, r1, r2, r3, r4⟩ := runs_of_ev _ _ _ _ _ hev
  obtain ⟨o1, o2, o3, o4, o5⟩ := orderOk_spec _ _ hord
  rw [← r1] at o1 o2 o3 o4 o5
  have hmem : ∀ p ∈ R, p.1 ∈ R.map (·.1) := fun p hp => List.mem_map.2 ⟨p, hp, rfl⟩
  have hlt : ∀ p ∈ R, p.1 < ops.size := fun p hp => by
    obtain ⟨o, ho⟩ := (o1 p.1 (hmem p hp)).2
    have := (List.getElem?_eq_some_iff.1 ho).1
    simpa using this
  have hgd : ∀ k, (Array.replicate ops.size false).getD k false = false := fun k => by
    rw [Array.getD_eq_getD_getElem?, Array.getElem?_replicate]; split <;> rfl
  have hpairs : R.Pairwise (PairIs ops.toList) := by
    have h1 := List.pairwise_map.1 o3
    refine (h1.and r4).imp fun hab => ⟨hab.1.1, hab.1.2.1, hab.1.2.2, hab.2⟩
  have hcov : ∀ k, k < ops.size → ∃ l, (k, l) ∈ R := fun k hk => by
    rcases o4 k (by simpa using hk) with h1 | h1
    · rw [hasBit_zero] at h1; cases h1
    · obtain ⟨p, hp, e⟩ := List.mem_map.1 h1
      exact ⟨p.2, by rw [← e]; exact hp⟩
  have hT0 : Todo ops (Array.replicate ops.size false) R := ⟨by simp, fun k hk _ => hcov k hk, fun p hp => ⟨hlt p hp, hgd _⟩, hpairs, fun p hp => ⟨(o5 p.1 (hmem p hp)).1, fun m hm => by
    rcases (o5 p.1 (hmem p hp)).2 m hm with h1 | h1
    · rw [hasBit_zero] at h1; cases h1
    · obtain ⟨p', hp', e⟩ := List.mem_map.1 h1
      rw [← e]; exact hlt p' hp'⟩, fun k hk => by rw [hgd] at hk; cases hk⟩
  have hRlen : R.length ≤ ops.size := by
    have hnd : (R.map (·.1)).Nodup := o3.imp fun h => h.1
    have := nodup_length ops.size (R.map (·.1)) hnd fun x hx => by
      obtain ⟨p, hp, e⟩ := List.mem_map.1 hx
      rw [← e]; exact hlt p hp
    simpa using this
  have hAt1 : At GI S ⟨h.rows, Nat.add h.next ops.size, h.lo⟩ { w with drawn := w.drawn + 1 } := ⟨hAt.rel, hAt.hp, hAt.look, fun r hr => Nat.lt_of_lt_of_le (hAt.kn r hr) (Nat.le_add_right _ _), hAt.met, hAt.ok, hAt.out⟩
  have hB1 : Behind S h S ⟨h.rows, Nat.add h.next ops.size, h.lo⟩ := ⟨Ext.refl S, fun r hr => .inl hr, Keep.refl _ S, Nat.le_refl _, Nat.le_add_right _ _⟩
  refine wpIn_region_any hm ?_
  exact any_sound (fin := (a', h')) (base := h.next) hF hE hC hG hst hn' hwf (Nat.le_refl _) hAt.rel hQ ops.size _ R (a, ⟨h.rows, Nat.add h.next ops.size, h.lo⟩) (a', h') S _ act hRlen hT0 (Nat.le_refl _)
    (fun p hp => ⟨by
      show h.rows.get (h.next + p.1) = none
      cases hg : h.rows.get (h.next + p.1) with
      | none => rfl
      | some row =>
        have := hAt.kn _ (hAt.rel.lt _ row (by rw [hAt.look]; exact hg))
        omega, fun hk => by have := hAt.kn _ hk; omega⟩) r2 (SE.refl _) hAt1 hT hsz rfl hB1
end
end Go.CE

namespace Go.CE
variable {GI : GInv}
section
variable {P : Program} {E : Env} {L : Nat}

/-- What is asked of hooks. -/
def HooksOK (GI : GInv) (P : Program) (E : Env) : Prop :=
  ∀ f g, E.hook f = some g → ∀ (args : List AV) (h : Heap) (v : AV) (h' : Heap), g args h = some (v, h') →
    ∀ (F : Fence), Free F → ∀ (S : St) (w : World) (vs : Array Value), At GI S h w → VL S args vs.toList →
      Upon F P (fun x w' => ∃ S', At GI S' h' w' ∧ Behind S h S' h' ∧ V S' v x) ((callFunc f vs).run P w)
/-- What is asked of what is known of calls. -/
def MemoOK (GI : GInv) (P : Program) (E : Env) : Prop :=
  ∀ f args N v, E.memo f args N = some v → E.hook f = none ∧ ∀ (F : Fence), Free F → ∀ (S : St) (h : Heap) (w : World) (vs : Array Value), h.next = N → At GI S h w → VL S args vs.toList →
    (callFunc f vs).run P w = .ok (.enter f vs) w ∧ CallsIn F 0 P f vs w fun | .returned x, w' => ∃ S', At GI S' h w' ∧ Behind S h S' h ∧ V S' v x | _, _ => False
theorem callFunc_enter {f : FuncId} {fn : Func} {c : Code} {vs : Array Value} {w : World} (hf : P.funcs[f]? = some fn) (hn : (fn.name == "runtime.NumGoroutine") = false) (hb : fn.body = some c) :
    (callFunc f vs).run P w = .ok (.enter f vs) w := by
  unfold callFunc
  rw [Sem.run_bind, run_program]
  simp only [Result.andThen, hf, hn, hb]
  rfl
theorem evCall_fn {n : Nat} {f : FuncId} {args : List AV} {h : Heap} {v : AV} {h' : Heap} (he : evCall E L (n + 1) (.fn f) args h = some (v, h')) :
    (E.memo f args h.next = some v ∧ h' = h) ∨ (E.hook f = none ∧ obind (E.funcs.get f) (enter E (evCall E L n) L f args h) = some (v, h')) ∨ ∃ g, E.hook f = some g ∧ g args h = some (v, h') := by
  have e : evCall E L (n + 1) (.fn f) args h = Option.rec (motive := fun _ => Option (AV × Heap)) (Option.rec (motive := fun _ => Option (AV × Heap)) (obind (E.funcs.get f) (enter E (evCall E L n) L f args h)) (fun g => g args h) (E.hook f)) (fun v => some (v, h)) (E.memo f args h.next) := rfl
  rw [e] at he
  cases hm : E.memo f args h.next with
  | some v0 =>
    rw [hm] at he
    have he' : some (v0, h) = some (v, h') := he
    cases he'; exact .inl ⟨rfl, rfl⟩
  | none =>
    rw [hm] at he
    cases hh : E.hook f with
    | none => rw [hh] at he; exact .inr (.inl ⟨rfl, he⟩)
    | some g => rw [hh] at he; exact .inr (.inr ⟨g, rfl, he⟩)
theorem evCall_sound (hm : P.follows .mixedOrders = true) (hE : EnvTypes P E) (hEF : EnvFuncs P E) (hH : HooksOK GI P E) (hM : MemoOK GI P E) (hG : HooksGood E) : ∀ n, CallOK GI P (evCall E L n) ∧ EnterOK GI P E (evCall E L n)
  | 0 => ⟨fun t args h v h' he => (by cases he), fun f args h v h' _ he => (by cases he)⟩
  | n + 1 => by
    obtain ⟨ih1, ih2⟩ := evCall_sound hm hE hEF hH hM hG n
    have hD := draw_sound hm hE ih1 (evCall_good (L := L) hG n)
    have hR := range_sound ih2
    have hEnter : EnterOK GI P E (evCall E L (n + 1)) := by
      intro f args h v h' hh he F hF S w vs hAt hv
      rcases evCall_fn he with ⟨h1, rfl⟩ | ⟨_, he'⟩ | ⟨g, h1, _⟩
      · exact (hM f args h'.next v h1).2 F hF S h' w vs rfl hAt hv
      · obtain ⟨fn, hfn, he2⟩ := obind_eq he'
        obtain ⟨h1, h2⟩ := hEF f fn hfn
        obtain ⟨c, hc, _⟩ := obind_eq he2
        exact ⟨callFunc_enter h1 h2 hc, enter_sound hF hE ih1 hD hR h1 he2 hAt hv⟩
      · rw [hh] at h1; cases h1
    refine ⟨fun t args h v h' he => ?_, hEnter⟩
    cases t with
    | fn f =>
      refine ⟨fun r e => (by cases e), fun F hF S w vs hAt hv => ?_⟩
      show Upon F P _ ((callFunc f vs).run P w)
      cases hh : E.hook f with
      | none =>
        obtain ⟨h1, h2⟩ := hEnter f args h v h' hh he F hF S w vs hAt hv
        rw [h1]
        exact CallsIn.mono h2 fun e w' hx => by cases e <;> first | exact hx.elim | exact hx
      | some g =>
        rcases evCall_fn he with ⟨h1, rfl⟩ | ⟨h1, _⟩ | ⟨g', h1, h2⟩
        · have := (hM f args h'.next v h1).1; rw [hh] at this; cases this
        · rw [hh] at h1; cases h1
        · rw [hh] at h1; cases h1
          exact hH f g hh args h v h' h2 F hF S w vs hAt hv
    | round r =>
      have he' : roundS E (evCall E L n) L r args h = some (v, h') := he
      refine ⟨fun r' e => ?_, fun F hF S w vs hAt hv => round_sound hF hE ih1 hD hR he' hAt hv⟩
      cases e
      obtain ⟨z, h1, _⟩ := obind_eq he'
      obtain ⟨row, h2, h3⟩ := obind_eq h1
      refine ⟨row, h2, ?_⟩
      cases row <;> first | (cases h3; done) | rfl
end
end Go.CE

namespace Go.CE
variable {GI : GInv}

/-! ### equality of values, for the kernel -/
noncomputable def eqL (f : AV → AV → Bool) (x : List AV) : List AV → Bool :=
  List.rec (motive := fun _ => List AV → Bool) (fun y => List.rec (motive := fun _ => Bool) true (fun _ _ _ => false) y)
    (fun a _ ih y => List.rec (motive := fun _ => Bool) false (fun b y _ => bsel (f a b) (ih y) false) y) x
noncomputable def avEq1 (eq : AV → AV → Bool) (x y : AV) : Bool :=
  match x with
  | .bool a => (match y with | .bool b => beqB a b | _ => false)
  | .int j a => (match y with | .int k b => bsel (keq j k) (ieq a b) false | _ => false)
  | .str n a => (match y with | .str m b => bsel (Nat.beq n m) (Nat.beq a b) false | _ => false)
  | .nilptr => (match y with | .nilptr => true | _ => false)
  | .nilslice => (match y with | .nilslice => true | _ => false)
  | .nilmap => (match y with | .nilmap => true | _ => false)
  | .nilfunc => (match y with | .nilfunc => true | _ => false)
  | .niliface => (match y with | .niliface => true | _ => false)
  | .ref cs o => (match y with | .ref ds p => bsel (Nat.beq o p) (eqL eq cs ds) false | _ => false)
  | .pslice cs n e => (match y with | .pslice ds m d => bsel (Nat.beq n m) (bsel (Nat.beq e d) (eqL eq cs ds) false) false | _ => false)
  | .pmap ks vs => (match y with | .pmap ls ws => bsel (eqL eq ks ls) (eqL eq vs ws) false | _ => false)
  | .func f b c => (match y with | .func g d e => bsel (Nat.beq f g) (bsel (eqL eq b d) (eqL eq c e) false) false | _ => false)
  | .iface t v => (match y with | .iface u w => bsel (Nat.beq t u) (eq v w) false | _ => false)
  | .agg cs => (match y with | .agg ds => eqL eq cs ds | _ => false)
  | .tuple cs => (match y with | .tuple ds => eqL eq cs ds | _ => false)
  | _ => false
noncomputable def avEq (n : Nat) : AV → AV → Bool := Nat.rec (motive := fun _ => AV → AV → Bool) (fun _ _ => false) (fun _ ih x y => avEq1 ih x y) n

theorem bselF {x y : Bool} (h : bsel x y false = true) : x = true ∧ y = true := wf_two h
theorem eqL_spec {f : AV → AV → Bool} (hf : ∀ x y, f x y = true → x = y) : ∀ (x y : List AV), eqL f x y = true → x = y
  | [], [], _ => rfl
  | [], _ :: _, h => by cases h
  | _ :: _, [], h => by cases h
  | a :: x, b :: y, h => by
    obtain ⟨h1, h2⟩ := bselF (show bsel (f a b) (eqL f x y) false = true from h)
    rw [hf a b h1, eqL_spec hf x y h2]
theorem avEq1_spec {eq : AV → AV → Bool} (hf : ∀ x y, eq x y = true → x = y) (x y : AV) (h : avEq1 eq x y = true) : x = y := by
  have hl := eqL_spec hf
  unfold avEq1 at h
  cases x <;> cases y <;> first
    | rfl
    | (cases h; done)
    | skip
  case bool.bool a b =>
    have h' : beqB a b = true := h
    rw [beqB_eq] at h'; simp at h'; rw [h']
  case int.int j a k b =>
    obtain ⟨h1, h2⟩ := bselF h
    rw [ieq_eq] at h2
    rw [keq_eq h1, beq_iff_eq.1 h2]
  case str.str n a m b =>
    obtain ⟨h1, h2⟩ := bselF h
    rw [beq_eq h1, beq_eq h2]
  case ref.ref cs o ds p =>
    obtain ⟨h1, h2⟩ := bselF h
    rw [beq_eq h1, hl _ _ h2]
  case pslice.pslice cs n e ds m d =>
    obtain ⟨h1, h2⟩ := bselF h
    obtain ⟨h3, h4⟩ := bselF h2
    rw [beq_eq h1, beq_eq h3, hl _ _ h4]
  case pmap.pmap ks vs ls ws =>
    obtain ⟨h1, h2⟩ := bselF h
    rw [hl _ _ h1, hl _ _ h2]
  case func.func f b c g d e =>
    obtain ⟨h1, h2⟩ := bselF h
    obtain ⟨h3, h4⟩ := bselF h2
    rw [beq_eq h1, hl _ _ h3, hl _ _ h4]
  case iface.iface t v u w =>
    obtain ⟨h1, h2⟩ := bselF h
    rw [beq_eq h1, hf _ _ h2]
  case agg.agg cs ds => rw [hl _ _ h]
  case tuple.tuple cs ds => rw [hl _ _ h]
theorem avEq_spec : ∀ (n : Nat) (x y : AV), avEq n x y = true → x = y
  | 0, _, _, h => by cases h
  | n + 1, x, y, h => avEq1_spec (avEq_spec n) x y h

/-! ### what is known of calls -/
abbrev MTab := List (Nat × List (List AV × AV))
noncomputable def mfindE (args : List AV) (l : List (List AV × AV)) : Option AV :=
  List.rec (motive := fun _ => Option AV) none (fun e _ ih => bsel (eqL (avEq 60) args e.1) (some e.2) ih) l
noncomputable def mQ (M : MTab) : Q (List (List AV × AV)) := List.rec (motive := fun _ => Q (List (List AV × AV))) (Q.full 5) (fun p _ ih => ih.set p.1 p.2) M
noncomputable def memoOf (B : Nat) (q : Q (List (List AV × AV))) (f : Nat) (args : List AV) (N : Nat) : Option AV :=
  obind (q.get f) fun l => bsel (Nat.ble N B) (mfindE args l) none
theorem mfindE_spec {args : List AV} {v : AV} : ∀ {l : List (List AV × AV)}, mfindE args l = some v → (args, v) ∈ l
  | e :: l, h => by
    have h' : bsel (eqL (avEq 60) args e.1) (some e.2) (mfindE args l) = some v := h
    cases hb : eqL (avEq 60) args e.1 with
    | true =>
      rw [hb, bsel_true] at h'
      cases h'
      rw [eqL_spec (avEq_spec 60) _ _ hb]
      simp
    | false => rw [hb, bsel_false] at h'; exact List.mem_cons_of_mem _ (mfindE_spec h')
theorem mQ_spec {f : Nat} {l : List (List AV × AV)} : ∀ {M : MTab}, (mQ M).get f = some l → (f, l) ∈ M
  | [], h => by rw [show mQ [] = Q.full 5 from rfl, Q.get_full] at h; cases h
  | p :: M, h => by
    rw [show mQ (p :: M) = (mQ M).set p.1 p.2 from rfl, Q.get_set] at h
    by_cases e : f = p.1
    · rw [if_pos e] at h
      cases ho : (mQ M).ok p.1 with
      | true => rw [ho] at h; cases h; rw [e]; simp
      | false => rw [ho] at h; cases h
    · rw [if_neg e] at h; exact List.mem_cons_of_mem _ (mQ_spec h)

/-- A call that is known: it leaves all as it was. -/
def Known (GI : GInv) (P : Program) (B : Nat) (f : FuncId) (args : List AV) (v : AV) : Prop :=
  ∀ (F : Fence), Free F → ∀ (S : St) (h : Heap) (w : World) (vs : Array Value), h.next ≤ B → At GI S h w → VL S args vs.toList →
    (callFunc f vs).run P w = .ok (.enter f vs) w ∧ CallsIn F 0 P f vs w fun | .returned x, w' => ∃ S', At GI S' h w' ∧ Behind S h S' h ∧ V S' v x | _, _ => False
noncomputable def hStart (B : Nat) : Heap := ⟨Q.full 7, B, 1000000000⟩
theorem Known.mono {GI : GInv} {P : Program} {B B' : Nat} {f : FuncId} {args : List AV} {v : AV} (h : Known GI P B f args v) (hb : B' ≤ B) : Known GI P B' f args v :=
  fun F hF S hp w vs hN hAt hv => h F hF S hp w vs (Nat.le_trans hN hb) hAt hv
section
variable {P : Program} {E : Env} {L : Nat}
theorem memo_ok {B : Nat} {M : MTab} (hE : E.memo = memoOf B (mQ M)) (hM : ∀ p ∈ M, E.hook p.1 = none ∧ ∀ e ∈ p.2, Known GI P B p.1 e.1 e.2) : MemoOK GI P E := by
  intro f args N v h
  rw [hE] at h
  obtain ⟨l, h1, h2⟩ := obind_eq h
  obtain ⟨h3, h4⟩ := bsel_none h2
  obtain ⟨h5, h6⟩ := hM (f, l) (mQ_spec h1)
  refine ⟨h5, fun F hF S h' w vs hN hAt hv => h6 _ (mfindE_spec h4) F hF S h' w vs (by rw [hN]; exact ble_le h3) hAt hv⟩
theorem okRows_full : okRows (Q.full 7) := fun _ => rfl
/-- What the evaluator finds in the empty heap, it finds in each. -/
theorem known_of_eval (hm : P.follows .mixedOrders = true) (hE : EnvTypes P E) (hEF : EnvFuncs P E) (hH : HooksOK GI P E) (hM : MemoOK GI P E) (hG : HooksGood E) {n B : Nat} {f : FuncId} {args : List AV} {v : AV}
    (hB9 : B ≤ 100000000) (hh : E.hook f = none) (he : evCall E L n (.fn f) args (hStart B) = some (v, hStart B)) : Known GI P B f args v := by
  intro F hF S h w vs hN hAt hv
  have hsnd := (evCall_sound (L := L) hm hE hEF hH hM hG n).2
  have hgood := evCall_good (L := L) hG n (.fn f) args B (hStart B) (Nat.le_refl _) _ he
  obtain ⟨v', h1, e1, _, hfr⟩ := hgood
  cases e1
  have hx : FR h.rows.get B (hStart B) ⟨h.rows, B, 1000000000⟩ := by
    refine ⟨rfl, rfl, hAt.ok, fun r row hr => ?_, fun r hr => ?_, fun r row hr => ⟨?_, hr⟩⟩
    · have := hAt.kn r (hAt.rel.lt r row (by rw [hAt.look]; exact hr))
      omega
    · show h.rows.get r = (Q.full 7).get r
      rw [Q.get_full]; exact hr
    · show (Q.full 7).get r = none
      exact Q.get_full 7 r
  obtain ⟨h2, e2, e3⟩ := hfr _ _ hx
  have hAt1 : At GI S ⟨h.rows, B, 1000000000⟩ w := ⟨hAt.rel, hAt.hp, hAt.look, fun r hr => Nat.lt_of_lt_of_le (hAt.kn r hr) hN, hAt.met, hAt.ok, hAt.out⟩
  obtain ⟨g1, g2⟩ := hsnd f args _ v h2 hh e2 F hF S w vs hAt1 hv
  refine ⟨g1, CallsIn.mono g2 fun e w' hx => ?_⟩
  cases e with
  | returned x =>
    obtain ⟨S', k1, k2, k3⟩ := hx
    have hrow : h2.rows.get = h.rows.get := funext fun r => by
      cases hr : h.rows.get r with
      | none => rw [e3.old r hr]; exact Q.get_full 7 r
      | some row => exact (e3.add r row hr).2
    have hkn : ∀ r, S'.kn r → S.kn r := fun r hr => by
      rcases k2.kn r hr with h5 | ⟨h5, h6⟩
      · exact h5
      · have e4 : h2.next = B := e3.next
        have h5' : B ≤ r := h5
        omega
    refine ⟨S', ⟨k1.rel, k1.hp, by rw [k1.look, hrow], fun r hr => hAt.kn r (hkn r hr), k1.met, hAt.ok, k1.out⟩, ⟨k2.ext, fun r hr => .inl (hkn r hr), fun r hr _ => k2.keep r hr ?_, Nat.le_refl _, Nat.le_refl _⟩, k3⟩
    have e4 : h2.lo = 1000000000 := e3.lo
    rw [e4]
    have := hAt.kn r hr
    omega
  | panicked c => exact hx
  | outgrown => exact hx
end
end Go.CE
