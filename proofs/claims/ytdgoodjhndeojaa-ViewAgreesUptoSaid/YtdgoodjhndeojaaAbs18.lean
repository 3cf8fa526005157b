/-
  THE ABSTRACT LOGIC, 18: maps that are owned: made, asked, written, counted. Conditions: each rule's own premises.
-/
import Derived.Test.YtdgoodjhndeojaaAbs16
import Derived.MapKept
import Derived.Laws.IdiomRangeMap
set_option linter.unusedVariables false
set_option linter.unusedSimpArgs false
namespace Go.Abs

/-- A kind of keys. -/
structure KeyKind (α : Type) where
  d : TypeDesc
  pv : α → PV
  val : α → Value
  rel : ∀ (w : World) (I : Nat → Prop) (v : Value) (a : α), PRep w I v (pv a) → v = val a
  inj : ∀ a b, val a = val b → a = b
  is : ∀ a, MapKept.IsKey d (val a)
  rep : ∀ (w : World) (I : Nat → Prop) (a : α), PRep w I (val a) (pv a)
def strK : KeyKind ByteArray := ⟨.string, .str, .string, fun _ _ _ _ h => by cases h; rfl, fun _ _ h => by cases h; rfl, fun _ => trivial, fun _ _ _ => .str _⟩
def intK (k : IntKind) : KeyKind Int := ⟨.int k, .int k, .int k, fun _ _ _ _ h => by cases h; rfl, fun _ _ h => by cases h; rfl, fun _ => rfl, fun _ _ _ => .int _ _⟩
def boolK : KeyKind Bool := ⟨.bool, .bool, .bool, fun _ _ _ _ h => by cases h; rfl, fun _ _ h => by cases h; rfl, fun _ => trivial, fun _ _ _ => .bool _⟩

/-- The rows of a map from which nothing was struck: the stamps are the places. -/
def mrows {α : Type} (κ : KeyKind α) (l : List (α × AV)) : List (List AV) := l.mapIdx fun i p => [.pv (κ.pv p.1), p.2, .pv (.int .i64 i)]
theorem mrows_get {α : Type} {κ : KeyKind α} {l : List (α × AV)} {i : Nat} {r : List AV} : (mrows κ l)[i]? = some r ↔ ∃ p, l[i]? = some p ∧ r = [.pv (κ.pv p.1), p.2, .pv (.int .i64 i)] := by
  rw [mrows, List.getElem?_mapIdx]
  cases l[i]? with
  | none => simp
  | some p => simp [eq_comm]
theorem mrows_length {α : Type} (κ : KeyKind α) (l : List (α × AV)) : (mrows κ l).length = l.length := by simp [mrows]
theorem rep_val {α : Type} {κ : KeyKind α} {H : Heap} {w : World} {I : Nat → Prop} {ι : Plc} {v : Value} {k : α} (h : VRel w I ι H v (.pv (κ.pv k))) : v = κ.val k := κ.rel _ _ _ _ h.pv_inv
section
variable {α : Type}
/-- What a map's block holds. -/
structure MapAt (w : World) (I : Nat → Prop) (ι : Plc) (H : Heap) (κ : KeyKind α) (l : List (α × AV)) (es : Array MapEntry) : Prop where
  size : es.size = l.length
  rel : ∀ (i : Nat) (p : α × AV), l[i]? = some p → ∃ e, es[i]? = some e ∧ e.born = i ∧ e.key = κ.val p.1 ∧ VRel w I ι H e.val p.2

theorem map_at {w : World} {I : Nat → Prop} {ι : Plc} {H : Heap} {id b : Nat} {ob : Ob} {κ : KeyKind α} {l : List (α × AV)} (h : ObjRel w I ι H id ob) (hz : ob.sz = 0) (hι : ι id = some (b, 0)) (hrows : ob.rows = mrows κ l) :
    ∃ es, w.heap[b]? = some (.map es ob.ty) ∧ ¬ I b ∧ MapAt w I ι H κ l es := by
  obtain ⟨_, b', es, e1, e2, e3, e4, e5, e6, e7⟩ := h.map hz hι
  rw [hι] at e1; cases e1
  refine ⟨es, e2, e3, ⟨by rw [e4, hrows, mrows_length], fun i p hp => ?_⟩⟩
  obtain ⟨e, k, a, n, q1, q2, q3, q4, q5⟩ := e7 i _ (by rw [hrows]; exact mrows_get.2 ⟨p, hp, rfl⟩)
  cases q2
  exact ⟨e, q1, by injection q5.int_inv with _ hh; omega, κ.rel _ _ _ _ q3.pv_inv, q4⟩
theorem MapAt.born {w : World} {I : Nat → Prop} {ι : Plc} {H : Heap} {κ : KeyKind α} {l : List (α × AV)} {es : Array MapEntry} (h : MapAt w I ι H κ l es) {i : Nat} {e : MapEntry} (hi : es[i]? = some e) : e.born = i ∧ i < l.length := by
  have hlt : i < l.length := by rw [← h.size]; exact (Array.getElem?_eq_some_iff.1 hi).1
  obtain ⟨e', q1, q2, _⟩ := h.rel i l[i] (List.getElem?_eq_getElem hlt)
  rw [hi] at q1; cases q1
  exact ⟨q2, hlt⟩
section
variable {I : Nat → Prop} {ι : Plc} {H H' : Heap} {w : World} {id b cap : Nat} {ob ob' : Ob}
def World.setObj (w : World) (b : Nat) (x : Obj) : World := { w with heap := w.heap.setIfInBounds b x }
def isCells : Obj → Bool
  | .cells .. => true
  | _ => false
/-- The block of a map or of an iterator is written anew. -/
theorem Rel.rewrite {x0 x : Obj} (hr : Rel I ι H w) (hH : H.get id = some ob) (hι : ι id = some (b, cap)) (hz : ob.sz = 0) (hb : w.heap[b]? = some x0) (h0 : isCells x0 = false) (hx : isCells x = false) (hg : ob'.g = ob.g) (hz' : ob'.sz = 0)
    (hnew : w.heap.size = (World.setObj w b x).heap.size → (World.setObj w b x).heap[b]? = some x → ¬ I b → (∀ v a, VRel w I ι H v a → VRel (World.setObj w b x) I ι H' v a) → ObjRel (World.setObj w b x) I ι H' id ob')
    (h1 : H'.get id = some ob') (h2 : ∀ j, j ≠ id → H'.get j = H.get j) : Rel I ι H' (World.setObj w b x) ∧ Step I ι H w I ι H' (World.setObj w b x) := by
  have hown : Own ι H b := ⟨id, ob, cap, hH, hι⟩
  obtain ⟨hs1, hs2⟩ := MapKept.heap_set (w := w) (o' := x) hb
  have hst : Step I ι H w I ι H' (World.setObj w b x) := by
    refine ⟨rfl, rfl, rfl, by simp [World.setObj], fun a _ => ?_, fun _ h => h, fun _ h => .inl h, ?_, ?_, ?_⟩
    · by_cases e : a.block = b
      · simp only [World.frozen?, World.setObj, e, hs1, hb]
        cases x <;> cases x0 <;> first | rfl | (simp [isCells] at hx h0)
      · simp [World.frozen?, World.setObj, hs2 _ e]
    · rintro y ⟨j, o, c, hj, hc⟩
      by_cases e : j = id
      · subst e; exact .inl ⟨j, ob, c, hH, hc⟩
      · exact .inl ⟨j, o, c, (h2 j e).symm.trans hj, hc⟩
    · intro y _ hy
      exact hs2 y (fun e => hy (e ▸ hown))
    · intro j o hj
      by_cases e : j = id
      · subst e
        rw [hH] at hj; cases hj
        exact ⟨ob', h1, by omega, fun _ => ⟨rfl, by omega, fun h => by omega⟩⟩
      · exact ⟨o, (h2 j e).trans hj, Nat.le_refl _, fun _ => ⟨rfl, rfl, fun _ => Nat.le_refl _⟩⟩
  refine ⟨⟨fun y hy => by simpa [World.setObj] using hr.imm y hy, ?_, ?_⟩, hst⟩
  · intro j o hj
    by_cases e : j = id
    · subst e
      rw [h1] at hj; cases hj
      exact hnew (by simp [World.setObj]) hs1 ((hr.obj j ob hH).block hι).2 (fun v a hv => hv.mono hr hst)
    · rw [h2 j e] at hj
      exact (hr.obj j o hj).keep rfl (fun y c hy _ => ⟨hs2 y (fun hbb => e (hr.inj j id o ob b c cap hj hH (hbb ▸ hy) hι)), fun h => h⟩) (fun r _ a _ v hv => hv.mono hr hst)
  · intro j j' o o' y c c' hj hj' hc hc'
    have key : ∀ j o, H'.get j = some o → ∃ o, H.get j = some o := by
      intro j o hj
      by_cases e : j = id
      · exact ⟨ob, e ▸ hH⟩
      · exact ⟨o, (h2 j e).symm.trans hj⟩
    obtain ⟨q, hq⟩ := key j o hj
    obtain ⟨q', hq'⟩ := key j' o' hj'
    exact hr.inj j j' q q' y c c' hq hq' hc hc'
theorem Rel.remap {κ : KeyKind α} {l : List (α × AV)} {es0 es' : Array MapEntry} {c0 : Nat} (hr : Rel I ι H w) (hH : H.get id = some ob) (hι : ι id = some (b, 0)) (hz : ob.sz = 0) (hb : w.heap[b]? = some (.map es0 c0)) (hg : ob'.g = ob.g) (hz' : ob'.sz = 0) (hty : ob'.ty = l.length) (hrows : ob'.rows = mrows κ l)
    (hm : MapAt w I ι H κ l es') (h1 : H'.get id = some ob') (h2 : ∀ j, j ≠ id → H'.get j = H.get j) : Rel I ι H' (World.setObj w b (.map es' l.length)) ∧ Step I ι H w I ι H' (World.setObj w b (.map es' l.length)) := by
  refine hr.rewrite hH hι hz hb rfl rfl hg hz' (fun _ hs1 hI hmono => ?_) h1 h2
  refine .inr (.inl ⟨hz', b, es', hι, by rw [hty]; exact hs1, hI, by rw [hm.size, hrows, mrows_length], fun i e hi => ?_, fun i j e e' hij hi hj => ?_, fun i r hr' => ?_⟩)
  · obtain ⟨q1, q2⟩ := hm.born hi
    rw [q1, hty]; exact q2
  · have q1 := (hm.born hi).1
    have q2 := (hm.born hj).1
    omega
  · rw [hrows] at hr'
    obtain ⟨p, hp, rfl⟩ := mrows_get.1 hr'
    obtain ⟨e, q1, q2, q3, q4⟩ := hm.rel i p hp
    exact ⟨e, _, _, _, q1, rfl, by rw [q3]; exact .pv (κ.rep _ _ p.1), hmono _ _ q4, by rw [q2]; exact .pv (.int _ _)⟩
end

theorem mp_ptr {w : World} {I : Nat → Prop} {ι : Plc} {H : Heap} {v : Value} {id g : Nat} {ob : Ob} (h : VRel w I ι H v (.mp id g)) (hH : H.get id = some ob) (hg : ob.g = g) : ob.sz = 0 ∧ ∃ b, ι id = some (b, 0) ∧ v = .map (some b) := by
  cases h with
  | mp o' h1 h2 _ h3 =>
    rw [hH] at h1; cases h1
    exact h3 hg
/-- The entries of a map are counted. -/
theorem opd_len_mp {P : Program} {N : Nat} {o : Oper} {E : Env} {H : Heap} {T kt et : TypeId} {x : Operand} {κ : KeyKind α} {l : List (α × AV)} {id g : Nat} {ob : Ob} (ho : o.op = .call { callee := .builtin .len, args := #[x], argTypes := #[T] }) (hT : P.underlying T = some (.map kt et)) (hx : aeval E x = some (.mp id g)) (hH : H.get id = some ob) (hg : ob.g = g) (hrows : ob.rows = mrows κ l) :
    OpD P N o E H (.pv (.int .i64 l.length)) H :=
  .of_run fun a w I ι hr he => by
    obtain ⟨hsz, b, hι, hvx⟩ := mp_ptr (aeval_rel he hx) hH hg
    obtain ⟨es, e2, e3, e4⟩ := map_at (hr.obj id ob hH) hsz hι hrows
    refine ⟨.int .i64 l.length, ?_, .pv (.int _ _)⟩
    simp [execOp, ho, resolve, invoke, builtin, hvx, Builtin.len_, run_underlying hT, MapKept.run_getObj_map e2, goInt, e4.size]
variable [DecidableEq α]
def mget : List (α × AV) → α → Option AV
  | [], _ => none
  | (k', a) :: r, k => if k' = k then some a else mget r k
def mput : List (α × AV) → α → AV → List (α × AV)
  | [], k, v => [(k, v)]
  | (k', a) :: r, k, v => if k' = k then (k, v) :: r else (k', a) :: mput r k v
def mdel : List (α × AV) → α → List (α × AV)
  | [], _ => []
  | (k', a) :: r, k => if k' = k then r else (k', a) :: mdel r k

theorem find_at {w : World} {I : Nat → Prop} {ι : Plc} {H : Heap} (κ : KeyKind α) (k : α) : ∀ (l : List (α × AV)) (es : List MapEntry) (i : Nat), es.length = l.length → (∀ (i : Nat) (p : α × AV), l[i]? = some p → ∃ e, es[i]? = some e ∧ e.key = κ.val p.1 ∧ VRel w I ι H e.val p.2) →
    (Instr.findNow κ.d (κ.val k) es i = some none ∧ mget l k = none ∧ ∀ v, mput l k v = l ++ [(k, v)]) ∨
    ∃ j e a, Instr.findNow κ.d (κ.val k) es i = some (some (i + j, e.val)) ∧ es[j]? = some e ∧ e.key = κ.val k ∧ mget l k = some a ∧ VRel w I ι H e.val a ∧ l[j]? = some (k, a) ∧ (∀ v, mput l k v = l.set j (k, v)) ∧ mdel l k = l.eraseIdx j
  | [], [], i, _, _ => .inl ⟨rfl, rfl, fun _ => rfl⟩
  | (k', a) :: l, e :: es, i, hl, hr => by
    obtain ⟨e0, z1, z2, z3⟩ := hr 0 (k', a) rfl
    cases z1
    obtain ⟨r, hr1, hiff⟩ := MapKept.sameNow_of_keys (κ.is k) (show MapKept.IsKey κ.d e.key by rw [z2]; exact κ.is k')
    by_cases hk : k' = k
    · subst hk
      have hrt : r = true := hiff.2 z2.symm
      subst hrt
      exact .inr ⟨0, e, a, by simp [Instr.findNow, hr1], rfl, z2, by simp [mget], z3, rfl, fun v => by simp [mput], by simp [mdel]⟩
    · have hrf : r = false := by
        cases r with
        | false => rfl
        | true => exact absurd (κ.inj _ _ ((hiff.1 rfl).trans z2)).symm hk
      subst hrf
      rcases find_at κ k l es (i + 1) (by simpa using hl) (fun i p hp => hr (i + 1) p hp) with ⟨h1, h2, h3⟩ | ⟨j, e', a', h1, h2, h3, h4, h5, h6, h7, h8⟩
      · exact .inl ⟨by simp [Instr.findNow, hr1, h1], by simp [mget, hk, h2], fun v => by simp [mput, hk, h3]⟩
      · exact .inr ⟨j + 1, e', a', by simp [Instr.findNow, hr1, h1]; omega, by simpa using h2, h3, by simp [mget, hk, h4], h5, by simpa using h6, fun v => by simp [mput, hk, h7], by simp [mdel, hk, h8]⟩

section
variable {P : Program} {N : Nat} {o : Oper} {E : Env} {H : Heap} {T kt et : TypeId} {x y z : Operand} {κ : KeyKind α} {l : List (α × AV)} {id g : Nat} {ob : Ob} {k : α}
/-- A map is asked. -/
theorem opd_lookup {zv : Value} {v0 : AV} (ho : o.op = .lookup T x y false) (hT : P.underlying T = some (.map kt et)) (hd : P.underlying kt = some κ.d) (hx : aeval E x = some (.mp id g)) (hH : H.get id = some ob) (hg : ob.g = g)
    (hrows : ob.rows = mrows κ l) (hy : aeval E y = some (.pv (κ.pv k))) (hz : ∀ w, (zeroValue et).run P w = .ok zv w) (hv : ZV zv v0) : OpD P N o E H ((mget l k).getD v0) H :=
  .of_run fun a w I ι hr he => by
    obtain ⟨hsz, b, hι, hvx⟩ := mp_ptr (aeval_rel he hx) hH hg
    obtain ⟨es, e2, e3, e4⟩ := map_at (hr.obj id ob hH) hsz hι hrows
    have hvy := rep_val (aeval_rel he hy)
    rcases find_at κ k l es.toList 0 (by simpa using e4.size) (fun i p hp => let ⟨e, q1, _, q3⟩ := e4.rel i p hp; ⟨e, by simpa using q1, q3⟩) with ⟨h1, h2, h3⟩ | ⟨j, e, a', h1, h2, h3, h4, h5, _⟩
    · refine ⟨zv, ?_, by rw [h2]; exact hv.rel⟩
      simp only [execOp, ho, hvx, hvy]
      simp [Instr.lookup, run_underlying hT, MapKept.run_getObj_map e2, MapKept.run_checkKey hd (κ.is k), MapKept.run_findKey hd h1, hz]
    · refine ⟨e.val, ?_, by rw [h4]; exact h5⟩
      simp only [execOp, ho, hvx, hvy]
      simp [Instr.lookup, run_underlying hT, MapKept.run_getObj_map e2, MapKept.run_checkKey hd (κ.is k), MapKept.run_findKey hd h1]
theorem opd_lookup_ok {zv : Value} {v0 : AV} (ho : o.op = .lookup T x y true) (hT : P.underlying T = some (.map kt et)) (hd : P.underlying kt = some κ.d) (hx : aeval E x = some (.mp id g)) (hH : H.get id = some ob) (hg : ob.g = g)
    (hrows : ob.rows = mrows κ l) (hy : aeval E y = some (.pv (κ.pv k))) (hz : ∀ w, (zeroValue et).run P w = .ok zv w) (hv : ZV zv v0) : OpD P N o E H (.tup [(mget l k).getD v0, .pv (.bool (mget l k).isSome)]) H :=
  .of_run fun a w I ι hr he => by
    obtain ⟨hsz, b, hι, hvx⟩ := mp_ptr (aeval_rel he hx) hH hg
    obtain ⟨es, e2, e3, e4⟩ := map_at (hr.obj id ob hH) hsz hι hrows
    have hvy := rep_val (aeval_rel he hy)
    have two : ∀ {u : Value} {a : AV} {c : Bool}, VRel w I ι H u a → VRel w I ι H (.tuple #[u, .bool c]) (.tup [a, .pv (.bool c)]) := fun {u a c} hu => .tup rfl (fun i v q hv hq => by
      match i with
      | 0 => simp at hv hq; subst hv hq; exact hu
      | 1 => simp at hv hq; subst hv hq; exact .pv (.bool _)
      | i + 2 => simp at hv)
    rcases find_at κ k l es.toList 0 (by simpa using e4.size) (fun i p hp => let ⟨e, q1, _, q3⟩ := e4.rel i p hp; ⟨e, by simpa using q1, q3⟩) with ⟨h1, h2, h3⟩ | ⟨j, e, a', h1, h2, h3, h4, h5, _⟩
    · refine ⟨.tuple #[zv, .bool false], ?_, by rw [h2]; exact two hv.rel⟩
      simp only [execOp, ho, hvx, hvy]
      simp [Instr.lookup, run_underlying hT, MapKept.run_getObj_map e2, MapKept.run_checkKey hd (κ.is k), MapKept.run_findKey hd h1, hz]
    · refine ⟨.tuple #[e.val, .bool true], ?_, by rw [h4]; exact two h5⟩
      simp only [execOp, ho, hvx, hvy]
      simp [Instr.lookup, run_underlying hT, MapKept.run_getObj_map e2, MapKept.run_checkKey hd (κ.is k), MapKept.run_findKey hd h1]
/-- An entry is written. -/
theorem opd_mapUpdate {v : AV} {H2 : Heap} (ho : o.op = .mapUpdate T x y z ∨ o.op = .insert T x y z) (hT : P.underlying T = some (.map kt et)) (hd : P.underlying kt = some κ.d) (hx : aeval E x = some (.mp id g)) (hH : H.get id = some ob) (hg : ob.g = g)
    (hty : ob.ty = l.length) (hrows : ob.rows = mrows κ l) (hy : aeval E y = some (.pv (κ.pv k))) (hz : aeval E z = some v) (hH2 : H.set id { ob with ty := (mput l k v).length, rows := mrows κ (mput l k v) } = H2) : OpD P N o E H .any H2 := by
  intro a w I ι _ _ hr he K Q hkk
  obtain ⟨hsz, b, hι, hvx⟩ := mp_ptr (aeval_rel he hx) hH hg
  obtain ⟨es, e2, e3, e4⟩ := map_at (hr.obj id ob hH) hsz hι hrows
  rw [hty] at e2
  have hvy := rep_val (aeval_rel he hy)
  have hvz := aeval_rel he hz
  subst hH2
  have fin : ∀ es', (Instr.mapUpdate T (a.eval x) (a.eval y) (a.eval z)).run P w = .ok () (World.setObj w b (.map es' (mput l k v).length)) → MapAt w I ι H κ (mput l k v) es' → o.wp P a w K Q := by
    intro es' hrun hm
    obtain ⟨k2, k3⟩ := Rel.remap (H' := H.set id { ob with ty := (mput l k v).length, rows := mrows κ (mput l k v) }) (ob' := { ob with ty := (mput l k v).length, rows := mrows κ (mput l k v) }) hr hH hι hsz e2 rfl hsz rfl rfl hm (Heap.get_set_same _ _ _) (fun j hj => Heap.get_set_other _ _ hj)
    unfold Oper.wp execOp
    rcases ho with ho | ho
    · simp only [ho, Sem.run_bind, hrun, Result.andThen_ok, Sem.run_pure]
      exact hkk _ _ I ι _ _ ⟨rfl, rfl⟩ (.any _) k2 k3
    · simp only [ho, Sem.run_bind, hrun, Result.andThen_ok, Sem.run_pure]
      exact hkk _ _ I ι _ _ ⟨rfl, rfl⟩ (.any _) k2 k3
  rcases find_at κ k l es.toList 0 (by simpa using e4.size) (fun i p hp => let ⟨e, q1, _, q3⟩ := e4.rel i p hp; ⟨e, by simpa using q1, q3⟩) with ⟨h1, h2, h3⟩ | ⟨j, e, a', h1, h2, h3, h4, h5, h6, h7, h8⟩
  · refine fin (es.push { key := κ.val k, val := a.eval z, born := l.length }) ?_ ⟨?_, ?_⟩
    · simp [Instr.mapUpdate, hvx, hvy, run_underlying hT, MapKept.run_getObj_map e2, MapKept.run_checkKey hd (κ.is k), MapKept.run_findKey hd h1, MapKept.run_setObj_map _ e2, World.setObj, h3]
    · rw [h3]; simp [e4.size]
    · intro i p hp
      rw [h3] at hp
      by_cases hi : i < l.length
      · rw [List.getElem?_append_left hi] at hp
        obtain ⟨e, q1, q2⟩ := e4.rel i p hp
        exact ⟨e, by rw [Array.getElem?_push, if_neg (by rw [e4.size]; omega)]; exact q1, q2⟩
      · rw [List.getElem?_append_right (by omega)] at hp
        cases hil : i - l.length with
        | zero =>
          rw [hil] at hp
          cases hp
          exact ⟨_, by rw [Array.getElem?_push, if_pos (by rw [e4.size]; omega)], by show l.length = i; omega, rfl, hvz⟩
        | succ m => rw [hil] at hp; simp at hp
  · have hj : es[j]? = some e := by simpa using h2
    have hjl : j < es.size := (Array.getElem?_eq_some_iff.1 hj).1
    have hln : (mput l k v).length = l.length := by rw [h7]; simp
    refine fin (es.modify j fun e => { e with key := κ.val k, val := a.eval z }) ?_ ⟨?_, ?_⟩
    · simp [Instr.mapUpdate, hvx, hvy, run_underlying hT, MapKept.run_getObj_map e2, MapKept.run_checkKey hd (κ.is k), MapKept.run_findKey hd h1, hj, h3, MapKept.run_keyThatStays (κ.is k), MapKept.run_setObj_map _ e2, World.setObj, hln]
    · rw [h7]; simp [e4.size]
    · intro i p hp
      rw [h7] at hp
      by_cases e : i = j
      · subst e
        rw [List.getElem?_set_self (by rw [← e4.size]; exact hjl)] at hp
        cases hp
        exact ⟨{ e with key := κ.val k, val := a.eval z }, by rw [Array.getElem?_modify, if_pos rfl, hj]; rfl, (e4.born hj).1, rfl, hvz⟩
      · rw [List.getElem?_set_ne (Ne.symm e)] at hp
        obtain ⟨e', q1, q2⟩ := e4.rel i p hp
        exact ⟨e', by rw [Array.getElem?_modify, if_neg (Ne.symm e)]; exact q1, q2⟩

/-- A map or an iterator gets a new block. -/
theorem Rel.placeX {I : Nat → Prop} {ι : Plc} {H H' : Heap} {w w' : World} {id cap : Nat} {ob' : Ob} {x : Obj} (hr : Rel I ι H w) (hos : w'.os = w.os) (htape : w'.tape = w.tape) (hout : w'.output = w.output) (hw : w'.heap = w.heap.push x)
    (hold : ∀ o, H.get id = some o → o.g < ob'.g)
    (hobj : w'.heap[w.heap.size]? = some x → ¬ I w.heap.size → (∀ v a, VRel w I ι H v a → VRel w' I (fun j => if j = id then some (w.heap.size, cap) else ι j) H' v a) → ObjRel w' I (fun j => if j = id then some (w.heap.size, cap) else ι j) H' id ob')
    (h1 : H'.get id = some ob') (h2 : ∀ j, j ≠ id → H'.get j = H.get j) :
    Rel I (fun j => if j = id then some (w.heap.size, cap) else ι j) H' w' ∧ Step I ι H w I (fun j => if j = id then some (w.heap.size, cap) else ι j) H' w' := by
  have hnew : w'.heap[w.heap.size]? = some x := by rw [hw]; simp
  have holdb : ∀ x, x < w.heap.size → w'.heap[x]? = w.heap[x]? := fun x hx => by rw [hw, Array.getElem?_push, if_neg (Nat.ne_of_lt hx)]
  have hsize : w'.heap.size = w.heap.size + 1 := by rw [hw]; simp
  have hst : Step I ι H w I (fun j => if j = id then some (w.heap.size, cap) else ι j) H' w' := by
    refine ⟨hos, htape, hout, by omega, fun a ha => ?_, fun _ h => h, fun _ h => .inl h, ?_, fun x hx _ => holdb x hx, ?_⟩
    · simp [World.frozen?, holdb a.block ha]
    · rintro x ⟨j, o, c, hj, hc⟩
      by_cases e : j = id
      · simp only [e, if_true] at hc; cases hc; exact .inr (Nat.le_refl _)
      · simp only [e, if_false] at hc; exact .inl ⟨j, o, c, (h2 j e).symm.trans hj, hc⟩
    · intro j o hj
      by_cases e : j = id
      · subst e
        have := hold o hj
        exact ⟨ob', h1, by omega, fun e => by omega⟩
      · exact ⟨o, (h2 j e).trans hj, Nat.le_refl _, fun _ => ⟨by simp [e], rfl, fun _ => Nat.le_refl _⟩⟩
  refine ⟨⟨fun x hx => by have := hr.imm x hx; omega, ?_, ?_⟩, hst⟩
  · intro j o hj
    by_cases e : j = id
    · subst e
      rw [h1] at hj; cases hj
      exact hobj hnew (fun hi => Nat.lt_irrefl _ (hr.imm _ hi)) (fun v a hv => hv.mono hr hst)
    · rw [h2 j e] at hj
      exact (hr.obj j o hj).keep (by simp [e]) (fun x c _ hx => ⟨holdb x hx, fun h => h⟩) (fun r _ a _ v hv => hv.mono hr hst)
  · intro j j' o o' x c c' hj hj' hc hc'
    by_cases e : j = id <;> by_cases e' : j' = id
    · rw [e, e']
    · simp only [e, if_true] at hc
      simp only [e', if_false] at hc'
      cases hc
      have := hr.lt ⟨j', o', c', (h2 j' e').symm.trans hj', hc'⟩
      exact absurd this (Nat.lt_irrefl _)
    · simp only [e, if_false] at hc
      simp only [e', if_true] at hc'
      cases hc'
      have := hr.lt ⟨j, o, c, (h2 j e).symm.trans hj, hc⟩
      exact absurd this (Nat.lt_irrefl _)
    · simp only [e, if_false] at hc
      simp only [e', if_false] at hc'
      exact hr.inj j j' o o' x c c' ((h2 j e).symm.trans hj) ((h2 j' e').symm.trans hj') hc hc'
theorem Rel.placeM {I : Nat → Prop} {ι : Plc} {H H' : Heap} {w w' : World} {id : Nat} {ob' : Ob} (hr : Rel I ι H w) (hos : w'.os = w.os) (htape : w'.tape = w.tape) (hout : w'.output = w.output) (hw : w'.heap = w.heap.push (.map #[] 0))
    (hold : ∀ o, H.get id = some o → o.g < ob'.g) (hsz : ob'.sz = 0) (hty : ob'.ty = 0) (hrows : ob'.rows = []) (h1 : H'.get id = some ob') (h2 : ∀ j, j ≠ id → H'.get j = H.get j) :
    Rel I (fun j => if j = id then some (w.heap.size, 0) else ι j) H' w' ∧ Step I ι H w I (fun j => if j = id then some (w.heap.size, 0) else ι j) H' w' :=
  hr.placeX hos htape hout hw hold (fun hnew hI _ => .inr (.inl ⟨hsz, w.heap.size, #[], by simp, by rw [hty]; exact hnew, hI, by rw [hrows]; rfl, by simp, by simp, by rw [hrows]; simp⟩)) h1 h2
theorem lay_map {I : Nat → Prop} {ι : Plc} {w : World} {id gg : Nat} (hr : Rel I ι H w) (hid : ∀ o, H.get id = some o → o.g < gg) :
    ∃ ι', VRel (w.alloc (.map #[] 0)) I ι' ((id, ⟨gg, 0, 0, []⟩) :: H) (.map (some w.heap.size)) (.mp id gg) ∧ Rel I ι' ((id, ⟨gg, 0, 0, []⟩) :: H) (w.alloc (.map #[] 0)) ∧ Step I ι H w I ι' ((id, ⟨gg, 0, 0, []⟩) :: H) (w.alloc (.map #[] 0)) := by
  obtain ⟨h1, h2⟩ := Rel.placeM (H' := (id, ⟨gg, 0, 0, []⟩) :: H) (id := id) (ob' := ⟨gg, 0, 0, []⟩) (w' := w.alloc (.map #[] 0)) hr rfl rfl rfl rfl hid rfl rfl rfl (get_cons_same _ _ _) (fun j hj => get_cons_other _ _ hj)
  exact ⟨_, .mp ⟨gg, 0, 0, []⟩ (get_cons_same _ _ _) (Nat.le_refl _) rfl fun _ => ⟨rfl, w.heap.size, by simp, rfl⟩, h1, h2⟩
theorem opd_makeMap {α : Type} (κ : KeyKind α) (ho : o.op = .makeMap T none) (hid : H.get id = none) : OpD P N o E H (.mp id 0) ((id, ⟨0, 0, ([] : List (α × AV)).length, mrows κ []⟩) :: H) := by
  intro a w I ι _ _ hr he K Q hk
  obtain ⟨ι', h1, h2, h3⟩ := lay_map (id := id) (gg := 0) hr (fun o ho => by rw [hid] at ho; cases ho)
  unfold Oper.wp execOp
  simp only [ho, Instr.makeMap, Option.map_none, Sem.run_bind, run_newObj, Sem.run_pure, Result.andThen_ok]
  exact hk _ _ I ι' _ _ ⟨rfl, rfl⟩ h1 h2 h3
theorem opd_makeMap_n {α : Type} (κ : KeyKind α) {kk : IntKind} {n : Int} (ho : o.op = .makeMap T (some x)) (hT : P.underlying T = some (.map kt et)) (hx : aeval E x = some (.pv (.int kk n))) (hid : H.get id = none) : OpD P N o E H (.mp id 0) ((id, ⟨0, 0, ([] : List (α × AV)).length, mrows κ []⟩) :: H) := by
  intro a w I ι _ _ hr he K Q hk
  obtain ⟨ι', h1, h2, h3⟩ := lay_map (id := id) (gg := 0) hr (fun o ho => by rw [hid] at ho; cases ho)
  have hn := (aeval_rel he hx).int_inv
  unfold Oper.wp execOp
  simp only [ho, Instr.makeMap, Option.map_some, hn, Sem.run_bind, run_underlying hT, asInt, asIntOf, run_newObj, Sem.run_pure, Result.andThen_ok]
  exact hk _ _ I ι' _ _ ⟨rfl, rfl⟩ h1 h2 h3
theorem x_mapUpdate {v : AV} {l' : List (α × AV)} (ho : o.op = .mapUpdate T x y z ∨ o.op = .insert T x y z) (hT : P.underlying T = some (.map kt et)) (hd : P.underlying kt = some κ.d) (hx : aeval E x = some (.mp id g)) (hH : H.get id = some ob) (hg : ob.g = g)
    (hty : ob.ty = l.length) (hrows : ob.rows = mrows κ l) (hy : aeval E y = some (.pv (κ.pv k))) (hz : aeval E z = some v) (hr : mput l k v = l') : OpD P N o E H .any ((id, ⟨g, ob.sz, l'.length, mrows κ l'⟩) :: H) := by
  subst hg hr
  exact (opd_mapUpdate ho hT hd hx hH rfl hty hrows hy hz rfl).congr (set_cons _ _ _)
end
end
end Go.Abs
