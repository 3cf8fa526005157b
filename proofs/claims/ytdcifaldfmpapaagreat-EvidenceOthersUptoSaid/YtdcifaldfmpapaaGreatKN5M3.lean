/-
  THE ABSTRACT LOGIC, 16: an object begins anew (nil in the place of a slice; a new variable in the place of an old one); the frame of a call; names of objects changed. Conditions: none.
  THE ABSTRACT LOGIC, 18: maps that are owned: made, asked, written, counted. Conditions: each rule's own premises.
  THE ABSTRACT LOGIC, 19: a map's iterator; what a call of an entry of the model yields. Conditions: each rule's own premises.
  CONTRACTS: package lexer's classes of bytes, names. Conditions: lengths below 2^62.
  CONTRACTS: lexer.Name; package tag's Valid and Get. Conditions: lengths below 2^62.
  CONTRACTS: tag.Valid; package object's small functions. Conditions: lengths below 2^62.
  THE ABSTRACT LOGIC, 20: an array's value is asked; sets (maps of truths). Conditions: each rule's own premises.
  CONTRACTS: package object's small functions; slices.ContainsFunc with a function that writes; object.Valid. Conditions: lengths below 2^62.
  CONTRACTS: slices.IndexFunc, ContainsFunc with a function that writes; object.Valid. Conditions: lengths below 2^62.
  CONTRACTS: object.Valid. Conditions: lengths below 2^62.
-/
import Derived.Test.YtdcifaldfmpapaaGreatKN5M2
import Derived.MapKept
import Derived.Laws.IdiomRangeMap
import Derived.Lib.Bytealg
section
set_option linter.unusedVariables false
set_option linter.unusedSimpArgs false
namespace Go.Abs
section
variable {I : Nat → Prop} {ι : Plc} {H : Heap} {w : World} {id sz ty : Nat} {ob : Ob}
end
section
variable {P : Program} {N : Nat} {o : Oper} {E : Env} {H : Heap} {T : TypeId} {x y : Operand}
end

/-! ### the frame -/
def subL (H : Heap) : Heap → Prop
  | [] => True
  | (id, o) :: r => H.get id = some o ∧ subL H r
theorem hget_app (D H : Heap) (k : Nat) : Heap.get (D ++ H) k = match D.get k with | some v => some v | none => H.get k := get_app D H k
/-- A call of which the heap is a part of a greater one. -/
theorem ACalls.frame {P : Program} {f : FuncId} {args : List AV} {H0 H1 H : Heap} {r0 : AV} (h : ACalls P f args H0 (fun r H' => r = r0 ∧ H' = H1)) (hs : Sub H0 H) (hc : Closed H0) (ha : ∀ a ∈ args, Clo H0 a)
    (hk : ∀ id, (H1.get id).isSome = true → (H0.get id).isSome = true ∨ H.get id = none) : ACalls P f args H (fun r H' => r = r0 ∧ H' = H1 ++ H) := by
  intro I ι w vs hr hl hv
  refine (h I ι w vs (hr.restrict hs hc) hl (fun i v a h1 h2 => (hv i v a h1 h2).restrict hs (ha a (List.mem_of_getElem? h2)))).mono ?_
  rintro e w' ⟨r, H', I', ι', v, rfl, ⟨rfl, rfl⟩, k1, k2, k3⟩
  obtain ⟨ι2, hι2⟩ : ∃ ι2 : Plc, ι2 = (fun j => if (H'.get j).isSome = true then ι' j else ι j) := ⟨_, rfl⟩
  have i1 : ∀ j o, H'.get j = some o → ι2 j = ι' j := fun j o hj => by rw [hι2]; simp [hj]
  have i2 : ∀ j, H'.get j = none → ι2 j = ι j := fun j hj => by rw [hι2]; simp [hj]
  have g1 : ∀ j o, H'.get j = some o → Heap.get (H' ++ H) j = some o := fun j o hj => by rw [hget_app, hj]
  have g2 : ∀ j, H'.get j = none → Heap.get (H' ++ H) j = H.get j := fun j hj => by rw [hget_app, hj]
  -- an object of the frame is none of the call's
  have hfr : ∀ j o, H.get j = some o → H'.get j = none → H0.get j = none := fun j o hj hn => by
    cases e : H0.get j with
    | none => rfl
    | some o0 =>
      obtain ⟨o', e1, _⟩ := k3.objs j o0 e
      rw [hn] at e1; cases e1
  have hno : ∀ j o b c, H.get j = some o → H'.get j = none → ι j = some (b, c) → ¬ Own ι H0 b := fun j o b c hj hn hb ⟨j', o', c', hj', hb'⟩ => by
    have := hr.inj j j' o o' b c c' hj (hs _ _ hj') hb hb'
    subst this
    rw [hfr j o hj hn] at hj'; cases hj'
  have hst : Step I ι H w I' ι2 (H' ++ H) w' := by
    refine ⟨k3.os, k3.tape, k3.output, k3.size, k3.froz, k3.imm, fun b hb => ?_, ?_, ?_, ?_⟩
    · rcases k3.immNew b hb with h1 | h1 | h1
      · exact .inl h1
      · exact .inr (.inl (h1.sub hs))
      · exact .inr (.inr h1)
    · rintro b ⟨j, o, c, hj, hc⟩
      cases e : H'.get j with
      | some o' =>
        rw [i1 j o' e] at hc
        rcases k3.own b ⟨j, o', c, e, hc⟩ with h1 | h1
        · exact .inl (h1.sub hs)
        · exact .inr h1
      | none =>
        rw [i2 j e] at hc
        rw [g2 j e] at hj
        exact .inl ⟨j, o, c, hj, hc⟩
    · intro b hb hn
      exact k3.keep b hb (fun h => hn (h.sub hs))
    · intro j o hj
      cases e : H'.get j with
      | some o' =>
        rcases hk j (by rw [e]; rfl) with h1 | h1
        · obtain ⟨o0, e0⟩ := Option.isSome_iff_exists.1 h1
          have := hs _ _ e0
          rw [hj] at this; cases this
          obtain ⟨o2, q1, q2, q3⟩ := k3.objs j o e0
          exact ⟨o2, g1 j o2 q1, q2, fun e => by rw [i1 j o2 q1]; exact q3 e⟩
        · rw [hj] at h1; cases h1
      | none => exact ⟨o, (g2 j e).trans hj, Nat.le_refl _, fun _ => ⟨i2 j e, rfl, fun _ => Nat.le_refl _⟩⟩
  have hv' : ∀ {v : Value} {a : AV}, VRel w' I' ι' H' v a → VRel w' I' ι2 (H' ++ H) v a := fun hva =>
    hva.mono' (fun _ _ => rfl) (fun _ h => h) (fun id o ho => ⟨o, g1 id o ho, Nat.le_refl _, fun _ => ⟨i1 id o ho, rfl, fun _ => Nat.le_refl _⟩⟩)
  refine ⟨r, H' ++ H, I', ι2, v, rfl, ⟨rfl, rfl⟩, hv' k1, ⟨k2.imm, fun j o hj => ?_, fun j j' o o' b c c' hj hj' hc hc' => ?_⟩, hst⟩
  · cases e : H'.get j with
    | some o' =>
      rw [g1 j o' e] at hj
      obtain rfl : o' = o := Option.some.inj hj
      exact (k2.obj j o' e).keep (i1 j o' e) (fun _ _ _ _ => ⟨rfl, fun h => h⟩) (fun r _ a _ v hv => hv' hv)
    | none =>
      rw [g2 j e] at hj
      refine (hr.obj j o hj).keep (i2 j e) (fun b' cap' e1 hlt => ⟨k3.keep b' hlt (hno j o b' cap' hj e e1), fun e3 hi => ?_⟩) (fun r _ a _ v hv => hv.mono hr hst)
      rcases k3.immNew b' hi with h1 | h1 | h1
      · exact e3 h1
      · exact hno j o b' cap' hj e e1 h1
      · omega
  · cases e : H'.get j with
    | some q =>
      rw [i1 j q e] at hc
      cases e' : H'.get j' with
      | some q' =>
        rw [i1 j' q' e'] at hc'
        exact k2.inj j j' q q' b c c' e e' hc hc'
      | none =>
        rw [i2 j' e'] at hc'
        rw [g2 j' e'] at hj'
        have hlt := hr.lt ⟨j', o', c', hj', hc'⟩
        rcases k3.own b ⟨j, q, c, e, hc⟩ with h1 | h1
        · exact absurd h1 (hno j' o' b c' hj' e' hc')
        · omega
    | none =>
      rw [i2 j e] at hc
      rw [g2 j e] at hj
      cases e' : H'.get j' with
      | some q' =>
        rw [i1 j' q' e'] at hc'
        have hlt := hr.lt ⟨j, o, c, hj, hc⟩
        rcases k3.own b ⟨j', q', c', e', hc'⟩ with h1 | h1
        · exact absurd h1 (hno j o b c hj e hc)
        · omega
      | none =>
        rw [i2 j' e'] at hc'
        rw [g2 j' e'] at hj'
        exact hr.inj j j' o o' b c c' hj hj' hc hc'

/-! ### names of objects changed -/
mutual
def renA (ρ : Nat → Nat) : AV → AV
  | .any => .any
  | .pv p => .pv p
  | .ref id g i k => .ref (ρ id) g i k
  | .pad rows i k => .pad rows i k
  | .osl id g off len => .osl (ρ id) g off len
  | .clo f caps => .clo f (renL ρ caps)
  | .agg cs => .agg (renL ρ cs)
  | .tup vs => .tup (renL ρ vs)
  | .mp id g => .mp (ρ id) g
  | .it id g => .it (ρ id) g
  | .osc id g off len c => .osc (ρ id) g off len c
def renL (ρ : Nat → Nat) : List AV → List AV
  | [] => []
  | a :: l => renA ρ a :: renL ρ l
end
def renO (ρ : Nat → Nat) (o : Ob) : Ob := ⟨o.g, o.sz, o.ty, o.rows.map (renL ρ)⟩
def renH (ρ : Nat → Nat) (H : Heap) : Heap := H.map fun p => (ρ p.1, renO ρ p.2)
section
variable {ρ : Nat → Nat} (hρ : ∀ n, ρ (ρ n) = n)
include hρ
end
end Go.Abs
end
section
set_option linter.unusedVariables false
set_option linter.unusedSimpArgs false
namespace Go.Abs

/-- A kind of keys. -/
structure KeyKind (α : Type) where
  d : TypeDesc
  pv : α → PV
  val : α → Value
  rel : ∀ (w : World) (I : Nat → Prop) (v : Value) (a : α), PRep w I v (pv a) → v = val a
  inj : ∀ a b, val a = val b → a = b
  is : ∀ a, MapKept.IsKey d (val a)
  rep : ∀ (w : World) (I : Nat → Prop) (a : α), PRep w I (val a) (pv a)
def strK : KeyKind ByteArray := ⟨.string, .str, .string, fun _ _ _ _ h => by cases h; rfl, fun _ _ h => by cases h; rfl, fun _ => trivial, fun _ _ _ => .str _⟩
def intK (k : IntKind) : KeyKind Int := ⟨.int k, .int k, .int k, fun _ _ _ _ h => by cases h; rfl, fun _ _ h => by cases h; rfl, fun _ => rfl, fun _ _ _ => .int _ _⟩
def boolK : KeyKind Bool := ⟨.bool, .bool, .bool, fun _ _ _ _ h => by cases h; rfl, fun _ _ h => by cases h; rfl, fun _ => trivial, fun _ _ _ => .bool _⟩

/-- The rows of a map from which nothing was struck: the stamps are the places. -/
def mrows {α : Type} (κ : KeyKind α) (l : List (α × AV)) : List (List AV) := l.mapIdx fun i p => [.pv (κ.pv p.1), p.2, .pv (.int .i64 i)]
theorem mrows_get {α : Type} {κ : KeyKind α} {l : List (α × AV)} {i : Nat} {r : List AV} : (mrows κ l)[i]? = some r ↔ ∃ p, l[i]? = some p ∧ r = [.pv (κ.pv p.1), p.2, .pv (.int .i64 i)] := by
  rw [mrows, List.getElem?_mapIdx]
  cases l[i]? with
  | none => simp
  | some p => simp [eq_comm]
theorem mrows_length {α : Type} (κ : KeyKind α) (l : List (α × AV)) : (mrows κ l).length = l.length := by simp [mrows]
theorem rep_val {α : Type} {κ : KeyKind α} {H : Heap} {w : World} {I : Nat → Prop} {ι : Plc} {v : Value} {k : α} (h : VRel w I ι H v (.pv (κ.pv k))) : v = κ.val k := κ.rel _ _ _ _ h.pv_inv
section
variable {α : Type}
/-- What a map's block holds. -/
structure MapAt (w : World) (I : Nat → Prop) (ι : Plc) (H : Heap) (κ : KeyKind α) (l : List (α × AV)) (es : Array MapEntry) : Prop where
  size : es.size = l.length
  rel : ∀ (i : Nat) (p : α × AV), l[i]? = some p → ∃ e, es[i]? = some e ∧ e.born = i ∧ e.key = κ.val p.1 ∧ VRel w I ι H e.val p.2

theorem map_at {w : World} {I : Nat → Prop} {ι : Plc} {H : Heap} {id b : Nat} {ob : Ob} {κ : KeyKind α} {l : List (α × AV)} (h : ObjRel w I ι H id ob) (hz : ob.sz = 0) (hι : ι id = some (b, 0)) (hrows : ob.rows = mrows κ l) :
    ∃ es, w.heap[b]? = some (.map es ob.ty) ∧ ¬ I b ∧ MapAt w I ι H κ l es := by
  obtain ⟨_, b', es, e1, e2, e3, e4, e5, e6, e7⟩ := h.map hz hι
  rw [hι] at e1; cases e1
  refine ⟨es, e2, e3, ⟨by rw [e4, hrows, mrows_length], fun i p hp => ?_⟩⟩
  obtain ⟨e, k, a, n, q1, q2, q3, q4, q5⟩ := e7 i _ (by rw [hrows]; exact mrows_get.2 ⟨p, hp, rfl⟩)
  cases q2
  exact ⟨e, q1, by injection q5.int_inv with _ hh; omega, κ.rel _ _ _ _ q3.pv_inv, q4⟩
theorem MapAt.born {w : World} {I : Nat → Prop} {ι : Plc} {H : Heap} {κ : KeyKind α} {l : List (α × AV)} {es : Array MapEntry} (h : MapAt w I ι H κ l es) {i : Nat} {e : MapEntry} (hi : es[i]? = some e) : e.born = i ∧ i < l.length := by
  have hlt : i < l.length := by rw [← h.size]; exact (Array.getElem?_eq_some_iff.1 hi).1
  obtain ⟨e', q1, q2, _⟩ := h.rel i l[i] (List.getElem?_eq_getElem hlt)
  rw [hi] at q1; cases q1
  exact ⟨q2, hlt⟩
section
variable {I : Nat → Prop} {ι : Plc} {H H' : Heap} {w : World} {id b cap : Nat} {ob ob' : Ob}
def World.setObj (w : World) (b : Nat) (x : Obj) : World := { w with heap := w.heap.setIfInBounds b x }
def isCells : Obj → Bool
  | .cells .. => true
  | _ => false
/-- The block of a map or of an iterator is written anew. -/
theorem Rel.rewrite {x0 x : Obj} (hr : Rel I ι H w) (hH : H.get id = some ob) (hι : ι id = some (b, cap)) (hz : ob.sz = 0) (hb : w.heap[b]? = some x0) (h0 : isCells x0 = false) (hx : isCells x = false) (hg : ob'.g = ob.g) (hz' : ob'.sz = 0)
    (hnew : w.heap.size = (World.setObj w b x).heap.size → (World.setObj w b x).heap[b]? = some x → ¬ I b → (∀ v a, VRel w I ι H v a → VRel (World.setObj w b x) I ι H' v a) → ObjRel (World.setObj w b x) I ι H' id ob')
    (h1 : H'.get id = some ob') (h2 : ∀ j, j ≠ id → H'.get j = H.get j) : Rel I ι H' (World.setObj w b x) ∧ Step I ι H w I ι H' (World.setObj w b x) := by
  have hown : Own ι H b := ⟨id, ob, cap, hH, hι⟩
  obtain ⟨hs1, hs2⟩ := MapKept.heap_set (w := w) (o' := x) hb
  have hst : Step I ι H w I ι H' (World.setObj w b x) := by
    refine ⟨rfl, rfl, rfl, by simp [World.setObj], fun a _ => ?_, fun _ h => h, fun _ h => .inl h, ?_, ?_, ?_⟩
    · by_cases e : a.block = b
      · simp only [World.frozen?, World.setObj, e, hs1, hb]
        cases x <;> cases x0 <;> first | rfl | (simp [isCells] at hx h0)
      · simp [World.frozen?, World.setObj, hs2 _ e]
    · rintro y ⟨j, o, c, hj, hc⟩
      by_cases e : j = id
      · subst e; exact .inl ⟨j, ob, c, hH, hc⟩
      · exact .inl ⟨j, o, c, (h2 j e).symm.trans hj, hc⟩
    · intro y _ hy
      exact hs2 y (fun e => hy (e ▸ hown))
    · intro j o hj
      by_cases e : j = id
      · subst e
        rw [hH] at hj; cases hj
        exact ⟨ob', h1, by omega, fun _ => ⟨rfl, by omega, fun h => by omega⟩⟩
      · exact ⟨o, (h2 j e).trans hj, Nat.le_refl _, fun _ => ⟨rfl, rfl, fun _ => Nat.le_refl _⟩⟩
  refine ⟨⟨fun y hy => by simpa [World.setObj] using hr.imm y hy, ?_, ?_⟩, hst⟩
  · intro j o hj
    by_cases e : j = id
    · subst e
      rw [h1] at hj; cases hj
      exact hnew (by simp [World.setObj]) hs1 ((hr.obj j ob hH).block hι).2 (fun v a hv => hv.mono hr hst)
    · rw [h2 j e] at hj
      exact (hr.obj j o hj).keep rfl (fun y c hy _ => ⟨hs2 y (fun hbb => e (hr.inj j id o ob b c cap hj hH (hbb ▸ hy) hι)), fun h => h⟩) (fun r _ a _ v hv => hv.mono hr hst)
  · intro j j' o o' y c c' hj hj' hc hc'
    have key : ∀ j o, H'.get j = some o → ∃ o, H.get j = some o := by
      intro j o hj
      by_cases e : j = id
      · exact ⟨ob, e ▸ hH⟩
      · exact ⟨o, (h2 j e).symm.trans hj⟩
    obtain ⟨q, hq⟩ := key j o hj
    obtain ⟨q', hq'⟩ := key j' o' hj'
    exact hr.inj j j' q q' y c c' hq hq' hc hc'
theorem Rel.remap {κ : KeyKind α} {l : List (α × AV)} {es0 es' : Array MapEntry} {c0 : Nat} (hr : Rel I ι H w) (hH : H.get id = some ob) (hι : ι id = some (b, 0)) (hz : ob.sz = 0) (hb : w.heap[b]? = some (.map es0 c0)) (hg : ob'.g = ob.g) (hz' : ob'.sz = 0) (hty : ob'.ty = l.length) (hrows : ob'.rows = mrows κ l)
    (hm : MapAt w I ι H κ l es') (h1 : H'.get id = some ob') (h2 : ∀ j, j ≠ id → H'.get j = H.get j) : Rel I ι H' (World.setObj w b (.map es' l.length)) ∧ Step I ι H w I ι H' (World.setObj w b (.map es' l.length)) := by
  refine hr.rewrite hH hι hz hb rfl rfl hg hz' (fun _ hs1 hI hmono => ?_) h1 h2
  refine .inr (.inl ⟨hz', b, es', hι, by rw [hty]; exact hs1, hI, by rw [hm.size, hrows, mrows_length], fun i e hi => ?_, fun i j e e' hij hi hj => ?_, fun i r hr' => ?_⟩)
  · obtain ⟨q1, q2⟩ := hm.born hi
    rw [q1, hty]; exact q2
  · have q1 := (hm.born hi).1
    have q2 := (hm.born hj).1
    omega
  · rw [hrows] at hr'
    obtain ⟨p, hp, rfl⟩ := mrows_get.1 hr'
    obtain ⟨e, q1, q2, q3, q4⟩ := hm.rel i p hp
    exact ⟨e, _, _, _, q1, rfl, by rw [q3]; exact .pv (κ.rep _ _ p.1), hmono _ _ q4, by rw [q2]; exact .pv (.int _ _)⟩
end

theorem mp_ptr {w : World} {I : Nat → Prop} {ι : Plc} {H : Heap} {v : Value} {id g : Nat} {ob : Ob} (h : VRel w I ι H v (.mp id g)) (hH : H.get id = some ob) (hg : ob.g = g) : ob.sz = 0 ∧ ∃ b, ι id = some (b, 0) ∧ v = .map (some b) := by
  cases h with
  | mp o' h1 h2 _ h3 =>
    rw [hH] at h1; cases h1
    exact h3 hg
variable [DecidableEq α]
def mget : List (α × AV) → α → Option AV
  | [], _ => none
  | (k', a) :: r, k => if k' = k then some a else mget r k
def mput : List (α × AV) → α → AV → List (α × AV)
  | [], k, v => [(k, v)]
  | (k', a) :: r, k, v => if k' = k then (k, v) :: r else (k', a) :: mput r k v
def mdel : List (α × AV) → α → List (α × AV)
  | [], _ => []
  | (k', a) :: r, k => if k' = k then r else (k', a) :: mdel r k

theorem find_at {w : World} {I : Nat → Prop} {ι : Plc} {H : Heap} (κ : KeyKind α) (k : α) : ∀ (l : List (α × AV)) (es : List MapEntry) (i : Nat), es.length = l.length → (∀ (i : Nat) (p : α × AV), l[i]? = some p → ∃ e, es[i]? = some e ∧ e.key = κ.val p.1 ∧ VRel w I ι H e.val p.2) →
    (Instr.findNow κ.d (κ.val k) es i = some none ∧ mget l k = none ∧ ∀ v, mput l k v = l ++ [(k, v)]) ∨
    ∃ j e a, Instr.findNow κ.d (κ.val k) es i = some (some (i + j, e.val)) ∧ es[j]? = some e ∧ e.key = κ.val k ∧ mget l k = some a ∧ VRel w I ι H e.val a ∧ l[j]? = some (k, a) ∧ (∀ v, mput l k v = l.set j (k, v)) ∧ mdel l k = l.eraseIdx j
  | [], [], i, _, _ => .inl ⟨rfl, rfl, fun _ => rfl⟩
  | (k', a) :: l, e :: es, i, hl, hr => by
    obtain ⟨e0, z1, z2, z3⟩ := hr 0 (k', a) rfl
    cases z1
    obtain ⟨r, hr1, hiff⟩ := MapKept.sameNow_of_keys (κ.is k) (show MapKept.IsKey κ.d e.key by rw [z2]; exact κ.is k')
    by_cases hk : k' = k
    · subst hk
      have hrt : r = true := hiff.2 z2.symm
      subst hrt
      exact .inr ⟨0, e, a, by simp [Instr.findNow, hr1], rfl, z2, by simp [mget], z3, rfl, fun v => by simp [mput], by simp [mdel]⟩
    · have hrf : r = false := by
        cases r with
        | false => rfl
        | true => exact absurd (κ.inj _ _ ((hiff.1 rfl).trans z2)).symm hk
      subst hrf
      rcases find_at κ k l es (i + 1) (by simpa using hl) (fun i p hp => hr (i + 1) p hp) with ⟨h1, h2, h3⟩ | ⟨j, e', a', h1, h2, h3, h4, h5, h6, h7, h8⟩
      · exact .inl ⟨by simp [Instr.findNow, hr1, h1], by simp [mget, hk, h2], fun v => by simp [mput, hk, h3]⟩
      · exact .inr ⟨j + 1, e', a', by simp [Instr.findNow, hr1, h1]; omega, by simpa using h2, h3, by simp [mget, hk, h4], h5, by simpa using h6, fun v => by simp [mput, hk, h7], by simp [mdel, hk, h8]⟩

section
variable {P : Program} {N : Nat} {o : Oper} {E : Env} {H : Heap} {T kt et : TypeId} {x y z : Operand} {κ : KeyKind α} {l : List (α × AV)} {id g : Nat} {ob : Ob} {k : α}
/-- A map is asked. -/
theorem opd_lookup {zv : Value} {v0 : AV} (ho : o.op = .lookup T x y false) (hT : P.underlying T = some (.map kt et)) (hd : P.underlying kt = some κ.d) (hx : aeval E x = some (.mp id g)) (hH : H.get id = some ob) (hg : ob.g = g)
    (hrows : ob.rows = mrows κ l) (hy : aeval E y = some (.pv (κ.pv k))) (hz : ∀ w, (zeroValue et).run P w = .ok zv w) (hv : ZV zv v0) : OpD P N o E H ((mget l k).getD v0) H :=
  .of_run fun a w I ι hr he => by
    obtain ⟨hsz, b, hι, hvx⟩ := mp_ptr (aeval_rel he hx) hH hg
    obtain ⟨es, e2, e3, e4⟩ := map_at (hr.obj id ob hH) hsz hι hrows
    have hvy := rep_val (aeval_rel he hy)
    rcases find_at κ k l es.toList 0 (by simpa using e4.size) (fun i p hp => let ⟨e, q1, _, q3⟩ := e4.rel i p hp; ⟨e, by simpa using q1, q3⟩) with ⟨h1, h2, h3⟩ | ⟨j, e, a', h1, h2, h3, h4, h5, _⟩
    · refine ⟨zv, ?_, by rw [h2]; exact hv.rel⟩
      simp only [execOp, ho, hvx, hvy]
      simp [Instr.lookup, run_underlying hT, MapKept.run_getObj_map e2, MapKept.run_checkKey hd (κ.is k), MapKept.run_findKey hd h1, hz]
    · refine ⟨e.val, ?_, by rw [h4]; exact h5⟩
      simp only [execOp, ho, hvx, hvy]
      simp [Instr.lookup, run_underlying hT, MapKept.run_getObj_map e2, MapKept.run_checkKey hd (κ.is k), MapKept.run_findKey hd h1]
theorem opd_lookup_ok {zv : Value} {v0 : AV} (ho : o.op = .lookup T x y true) (hT : P.underlying T = some (.map kt et)) (hd : P.underlying kt = some κ.d) (hx : aeval E x = some (.mp id g)) (hH : H.get id = some ob) (hg : ob.g = g)
    (hrows : ob.rows = mrows κ l) (hy : aeval E y = some (.pv (κ.pv k))) (hz : ∀ w, (zeroValue et).run P w = .ok zv w) (hv : ZV zv v0) : OpD P N o E H (.tup [(mget l k).getD v0, .pv (.bool (mget l k).isSome)]) H :=
  .of_run fun a w I ι hr he => by
    obtain ⟨hsz, b, hι, hvx⟩ := mp_ptr (aeval_rel he hx) hH hg
    obtain ⟨es, e2, e3, e4⟩ := map_at (hr.obj id ob hH) hsz hι hrows
    have hvy := rep_val (aeval_rel he hy)
    have two : ∀ {u : Value} {a : AV} {c : Bool}, VRel w I ι H u a → VRel w I ι H (.tuple #[u, .bool c]) (.tup [a, .pv (.bool c)]) := fun {u a c} hu => .tup rfl (fun i v q hv hq => by
      match i with
      | 0 => simp at hv hq; subst hv hq; exact hu
      | 1 => simp at hv hq; subst hv hq; exact .pv (.bool _)
      | i + 2 => simp at hv)
    rcases find_at κ k l es.toList 0 (by simpa using e4.size) (fun i p hp => let ⟨e, q1, _, q3⟩ := e4.rel i p hp; ⟨e, by simpa using q1, q3⟩) with ⟨h1, h2, h3⟩ | ⟨j, e, a', h1, h2, h3, h4, h5, _⟩
    · refine ⟨.tuple #[zv, .bool false], ?_, by rw [h2]; exact two hv.rel⟩
      simp only [execOp, ho, hvx, hvy]
      simp [Instr.lookup, run_underlying hT, MapKept.run_getObj_map e2, MapKept.run_checkKey hd (κ.is k), MapKept.run_findKey hd h1, hz]
    · refine ⟨.tuple #[e.val, .bool true], ?_, by rw [h4]; exact two h5⟩
      simp only [execOp, ho, hvx, hvy]
      simp [Instr.lookup, run_underlying hT, MapKept.run_getObj_map e2, MapKept.run_checkKey hd (κ.is k), MapKept.run_findKey hd h1]
/-- An entry is written. -/
theorem opd_mapUpdate {v : AV} {H2 : Heap} (ho : o.op = .mapUpdate T x y z ∨ o.op = .insert T x y z) (hT : P.underlying T = some (.map kt et)) (hd : P.underlying kt = some κ.d) (hx : aeval E x = some (.mp id g)) (hH : H.get id = some ob) (hg : ob.g = g)
    (hty : ob.ty = l.length) (hrows : ob.rows = mrows κ l) (hy : aeval E y = some (.pv (κ.pv k))) (hz : aeval E z = some v) (hH2 : H.set id { ob with ty := (mput l k v).length, rows := mrows κ (mput l k v) } = H2) : OpD P N o E H .any H2 := by
  intro a w I ι _ _ hr he K Q hkk
  obtain ⟨hsz, b, hι, hvx⟩ := mp_ptr (aeval_rel he hx) hH hg
  obtain ⟨es, e2, e3, e4⟩ := map_at (hr.obj id ob hH) hsz hι hrows
  rw [hty] at e2
  have hvy := rep_val (aeval_rel he hy)
  have hvz := aeval_rel he hz
  subst hH2
  have fin : ∀ es', (Instr.mapUpdate T (a.eval x) (a.eval y) (a.eval z)).run P w = .ok () (World.setObj w b (.map es' (mput l k v).length)) → MapAt w I ι H κ (mput l k v) es' → o.wp P a w K Q := by
    intro es' hrun hm
    obtain ⟨k2, k3⟩ := Rel.remap (H' := H.set id { ob with ty := (mput l k v).length, rows := mrows κ (mput l k v) }) (ob' := { ob with ty := (mput l k v).length, rows := mrows κ (mput l k v) }) hr hH hι hsz e2 rfl hsz rfl rfl hm (Heap.get_set_same _ _ _) (fun j hj => Heap.get_set_other _ _ hj)
    unfold Oper.wp execOp
    rcases ho with ho | ho
    · simp only [ho, Sem.run_bind, hrun, Result.andThen_ok, Sem.run_pure]
      exact hkk _ _ I ι _ _ ⟨rfl, rfl⟩ (.any _) k2 k3
    · simp only [ho, Sem.run_bind, hrun, Result.andThen_ok, Sem.run_pure]
      exact hkk _ _ I ι _ _ ⟨rfl, rfl⟩ (.any _) k2 k3
  rcases find_at κ k l es.toList 0 (by simpa using e4.size) (fun i p hp => let ⟨e, q1, _, q3⟩ := e4.rel i p hp; ⟨e, by simpa using q1, q3⟩) with ⟨h1, h2, h3⟩ | ⟨j, e, a', h1, h2, h3, h4, h5, h6, h7, h8⟩
  · refine fin (es.push { key := κ.val k, val := a.eval z, born := l.length }) ?_ ⟨?_, ?_⟩
    · simp [Instr.mapUpdate, hvx, hvy, run_underlying hT, MapKept.run_getObj_map e2, MapKept.run_checkKey hd (κ.is k), MapKept.run_findKey hd h1, MapKept.run_setObj_map _ e2, World.setObj, h3]
    · rw [h3]; simp [e4.size]
    · intro i p hp
      rw [h3] at hp
      by_cases hi : i < l.length
      · rw [List.getElem?_append_left hi] at hp
        obtain ⟨e, q1, q2⟩ := e4.rel i p hp
        exact ⟨e, by rw [Array.getElem?_push, if_neg (by rw [e4.size]; omega)]; exact q1, q2⟩
      · rw [List.getElem?_append_right (by omega)] at hp
        cases hil : i - l.length with
        | zero =>
          rw [hil] at hp
          cases hp
          exact ⟨_, by rw [Array.getElem?_push, if_pos (by rw [e4.size]; omega)], by show l.length = i; omega, rfl, hvz⟩
        | succ m => rw [hil] at hp; simp at hp
  · have hj : es[j]? = some e := by simpa using h2
    have hjl : j < es.size := (Array.getElem?_eq_some_iff.1 hj).1
    have hln : (mput l k v).length = l.length := by rw [h7]; simp
    refine fin (es.modify j fun e => { e with key := κ.val k, val := a.eval z }) ?_ ⟨?_, ?_⟩
    · simp [Instr.mapUpdate, hvx, hvy, run_underlying hT, MapKept.run_getObj_map e2, MapKept.run_checkKey hd (κ.is k), MapKept.run_findKey hd h1, hj, h3, MapKept.run_keyThatStays (κ.is k), MapKept.run_setObj_map _ e2, World.setObj, hln]
    · rw [h7]; simp [e4.size]
    · intro i p hp
      rw [h7] at hp
      by_cases e : i = j
      · subst e
        rw [List.getElem?_set_self (by rw [← e4.size]; exact hjl)] at hp
        cases hp
        exact ⟨{ e with key := κ.val k, val := a.eval z }, by rw [Array.getElem?_modify, if_pos rfl, hj]; rfl, (e4.born hj).1, rfl, hvz⟩
      · rw [List.getElem?_set_ne (Ne.symm e)] at hp
        obtain ⟨e', q1, q2⟩ := e4.rel i p hp
        exact ⟨e', by rw [Array.getElem?_modify, if_neg (Ne.symm e)]; exact q1, q2⟩

/-- A map or an iterator gets a new block. -/
theorem Rel.placeX {I : Nat → Prop} {ι : Plc} {H H' : Heap} {w w' : World} {id cap : Nat} {ob' : Ob} {x : Obj} (hr : Rel I ι H w) (hos : w'.os = w.os) (htape : w'.tape = w.tape) (hout : w'.output = w.output) (hw : w'.heap = w.heap.push x)
    (hold : ∀ o, H.get id = some o → o.g < ob'.g)
    (hobj : w'.heap[w.heap.size]? = some x → ¬ I w.heap.size → (∀ v a, VRel w I ι H v a → VRel w' I (fun j => if j = id then some (w.heap.size, cap) else ι j) H' v a) → ObjRel w' I (fun j => if j = id then some (w.heap.size, cap) else ι j) H' id ob')
    (h1 : H'.get id = some ob') (h2 : ∀ j, j ≠ id → H'.get j = H.get j) :
    Rel I (fun j => if j = id then some (w.heap.size, cap) else ι j) H' w' ∧ Step I ι H w I (fun j => if j = id then some (w.heap.size, cap) else ι j) H' w' := by
  have hnew : w'.heap[w.heap.size]? = some x := by rw [hw]; simp
  have holdb : ∀ x, x < w.heap.size → w'.heap[x]? = w.heap[x]? := fun x hx => by rw [hw, Array.getElem?_push, if_neg (Nat.ne_of_lt hx)]
  have hsize : w'.heap.size = w.heap.size + 1 := by rw [hw]; simp
  have hst : Step I ι H w I (fun j => if j = id then some (w.heap.size, cap) else ι j) H' w' := by
    refine ⟨hos, htape, hout, by omega, fun a ha => ?_, fun _ h => h, fun _ h => .inl h, ?_, fun x hx _ => holdb x hx, ?_⟩
    · simp [World.frozen?, holdb a.block ha]
    · rintro x ⟨j, o, c, hj, hc⟩
      by_cases e : j = id
      · simp only [e, if_true] at hc; cases hc; exact .inr (Nat.le_refl _)
      · simp only [e, if_false] at hc; exact .inl ⟨j, o, c, (h2 j e).symm.trans hj, hc⟩
    · intro j o hj
      by_cases e : j = id
      · subst e
        have := hold o hj
        exact ⟨ob', h1, by omega, fun e => by omega⟩
      · exact ⟨o, (h2 j e).trans hj, Nat.le_refl _, fun _ => ⟨by simp [e], rfl, fun _ => Nat.le_refl _⟩⟩
  refine ⟨⟨fun x hx => by have := hr.imm x hx; omega, ?_, ?_⟩, hst⟩
  · intro j o hj
    by_cases e : j = id
    · subst e
      rw [h1] at hj; cases hj
      exact hobj hnew (fun hi => Nat.lt_irrefl _ (hr.imm _ hi)) (fun v a hv => hv.mono hr hst)
    · rw [h2 j e] at hj
      exact (hr.obj j o hj).keep (by simp [e]) (fun x c _ hx => ⟨holdb x hx, fun h => h⟩) (fun r _ a _ v hv => hv.mono hr hst)
  · intro j j' o o' x c c' hj hj' hc hc'
    by_cases e : j = id <;> by_cases e' : j' = id
    · rw [e, e']
    · simp only [e, if_true] at hc
      simp only [e', if_false] at hc'
      cases hc
      have := hr.lt ⟨j', o', c', (h2 j' e').symm.trans hj', hc'⟩
      exact absurd this (Nat.lt_irrefl _)
    · simp only [e, if_false] at hc
      simp only [e', if_true] at hc'
      cases hc'
      have := hr.lt ⟨j, o, c, (h2 j e).symm.trans hj, hc⟩
      exact absurd this (Nat.lt_irrefl _)
    · simp only [e, if_false] at hc
      simp only [e', if_false] at hc'
      exact hr.inj j j' o o' x c c' ((h2 j e).symm.trans hj) ((h2 j' e').symm.trans hj') hc hc'
theorem Rel.placeM {I : Nat → Prop} {ι : Plc} {H H' : Heap} {w w' : World} {id : Nat} {ob' : Ob} (hr : Rel I ι H w) (hos : w'.os = w.os) (htape : w'.tape = w.tape) (hout : w'.output = w.output) (hw : w'.heap = w.heap.push (.map #[] 0))
    (hold : ∀ o, H.get id = some o → o.g < ob'.g) (hsz : ob'.sz = 0) (hty : ob'.ty = 0) (hrows : ob'.rows = []) (h1 : H'.get id = some ob') (h2 : ∀ j, j ≠ id → H'.get j = H.get j) :
    Rel I (fun j => if j = id then some (w.heap.size, 0) else ι j) H' w' ∧ Step I ι H w I (fun j => if j = id then some (w.heap.size, 0) else ι j) H' w' :=
  hr.placeX hos htape hout hw hold (fun hnew hI _ => .inr (.inl ⟨hsz, w.heap.size, #[], by simp, by rw [hty]; exact hnew, hI, by rw [hrows]; rfl, by simp, by simp, by rw [hrows]; simp⟩)) h1 h2
theorem lay_map {I : Nat → Prop} {ι : Plc} {w : World} {id gg : Nat} (hr : Rel I ι H w) (hid : ∀ o, H.get id = some o → o.g < gg) :
    ∃ ι', VRel (w.alloc (.map #[] 0)) I ι' ((id, ⟨gg, 0, 0, []⟩) :: H) (.map (some w.heap.size)) (.mp id gg) ∧ Rel I ι' ((id, ⟨gg, 0, 0, []⟩) :: H) (w.alloc (.map #[] 0)) ∧ Step I ι H w I ι' ((id, ⟨gg, 0, 0, []⟩) :: H) (w.alloc (.map #[] 0)) := by
  obtain ⟨h1, h2⟩ := Rel.placeM (H' := (id, ⟨gg, 0, 0, []⟩) :: H) (id := id) (ob' := ⟨gg, 0, 0, []⟩) (w' := w.alloc (.map #[] 0)) hr rfl rfl rfl rfl hid rfl rfl rfl (get_cons_same _ _ _) (fun j hj => get_cons_other _ _ hj)
  exact ⟨_, .mp ⟨gg, 0, 0, []⟩ (get_cons_same _ _ _) (Nat.le_refl _) rfl fun _ => ⟨rfl, w.heap.size, by simp, rfl⟩, h1, h2⟩
theorem opd_makeMap {α : Type} (κ : KeyKind α) (ho : o.op = .makeMap T none) (hid : H.get id = none) : OpD P N o E H (.mp id 0) ((id, ⟨0, 0, ([] : List (α × AV)).length, mrows κ []⟩) :: H) := by
  intro a w I ι _ _ hr he K Q hk
  obtain ⟨ι', h1, h2, h3⟩ := lay_map (id := id) (gg := 0) hr (fun o ho => by rw [hid] at ho; cases ho)
  unfold Oper.wp execOp
  simp only [ho, Instr.makeMap, Option.map_none, Sem.run_bind, run_newObj, Sem.run_pure, Result.andThen_ok]
  exact hk _ _ I ι' _ _ ⟨rfl, rfl⟩ h1 h2 h3
theorem x_mapUpdate {v : AV} {l' : List (α × AV)} (ho : o.op = .mapUpdate T x y z ∨ o.op = .insert T x y z) (hT : P.underlying T = some (.map kt et)) (hd : P.underlying kt = some κ.d) (hx : aeval E x = some (.mp id g)) (hH : H.get id = some ob) (hg : ob.g = g)
    (hty : ob.ty = l.length) (hrows : ob.rows = mrows κ l) (hy : aeval E y = some (.pv (κ.pv k))) (hz : aeval E z = some v) (hr : mput l k v = l') : OpD P N o E H .any ((id, ⟨g, ob.sz, l'.length, mrows κ l'⟩) :: H) := by
  subst hg hr
  exact (opd_mapUpdate ho hT hd hx hH rfl hty hrows hy hz rfl).congr (set_cons _ _ _)
end
end
end Go.Abs
end
section
set_option linter.unusedVariables false
set_option linter.unusedSimpArgs false
namespace Go.Abs

/-- The rows of an iterator. -/
def irows (m : AV) (since last : Nat) (seen : List Nat) : List (List AV) := [m, .pv (.int .i64 since), .pv (.int .i64 last)] :: seen.map fun (n : Nat) => [.pv (.int .i64 n)]

theorem it_ptr {w : World} {I : Nat → Prop} {ι : Plc} {H : Heap} {v : Value} {id g : Nat} {ob : Ob} (h : VRel w I ι H v (.it id g)) (hH : H.get id = some ob) (hg : ob.g = g) : ob.sz = 0 ∧ ∃ b, ι id = some (b, 1) ∧ v = .pointer (some ⟨b, 0, none⟩) := by
  cases h with
  | it o' h1 h2 _ h3 =>
    rw [hH] at h1; cases h1
    exact h3 hg
theorem iter_at {w : World} {I : Nat → Prop} {ι : Plc} {H : Heap} {q b mid mg since last : Nat} {oq om : Ob} {seen : List Nat} (h : ObjRel w I ι H q oq) (hz : oq.sz = 0) (hι : ι q = some (b, 1)) (hrows : oq.rows = irows (.mp mid mg) since last seen) (hM : H.get mid = some om) (hmg : om.g = mg) :
    ∃ bm, ι mid = some (bm, 0) ∧ om.sz = 0 ∧ w.heap[b]? = some (.mapIter (some bm) since seen.toArray last) ∧ ¬ I b := by
  obtain ⟨_, b', bm, since', seen', last', e1, e2, e3, e4, ⟨m, n, k, z1, z2, z3, z4⟩, e6⟩ := h.iter hz hι
  rw [hι] at e1; cases e1
  rw [hrows] at z1
  simp only [irows, List.getElem?_cons_zero, Option.some.injEq, List.cons.injEq, and_true] at z1
  obtain ⟨rfl, rfl, rfl⟩ := z1
  obtain ⟨q1, bm', q2, q3⟩ := mp_ptr z2 hM hmg
  cases q3
  injection z3.int_inv with _ h1
  injection z4.int_inv with _ h2
  have h1' : since' = since := by omega
  have h2' : last' = last := by omega
  subst h1' h2'
  refine ⟨bm, q2, q1, ?_, e3⟩
  have hs : seen' = seen.toArray := by
    have hl : seen'.size = seen.length := by rw [hrows] at e4; simpa [irows] using e4.symm
    apply Array.ext
    · simpa using hl
    · intro i hi1 hi2
      obtain ⟨x, n, y1, y2, y3⟩ := e6 i [.pv (.int .i64 (seen[i]'(by simpa using hi2)))] (by rw [hrows]; show (seen.map _)[i]? = _; rw [List.getElem?_map, List.getElem?_eq_getElem (by simpa using hi2)]; rfl)
      cases y2
      injection y3.int_inv with _ h3
      rw [Array.getElem?_eq_getElem hi1] at y1
      cases y1
      simp only [List.getElem_toArray]
      omega
  rw [← hs]; exact e2

section
variable {α : Type}
theorem run_next {P : Program} (w : World) (ty : TypeId) (r bm since c0 : Nat) (seen : Array Nat) (es : Array MapEntry) (clock : Nat) (hr : w.heap[r]? = some (.mapIter (some bm) since seen c0)) (hb : w.heap[bm]? = some (.map es clock)) (hold : ∀ x ∈ es.toList, x.born < since) (hsc : since ≤ c0) :
    ((leftOf es seen).size = 0 ∧ (Instr.next (.pointer (some ⟨r, 0, none⟩)) false ty).run P w = .ok (.tuple #[.bool false]) w) ∨
    ∃ e ∈ (leftOf es seen).toList, ∃ d : Nat, (Instr.next (.pointer (some ⟨r, 0, none⟩)) false ty).run P w = .ok (.tuple #[.bool true, e.key, e.val]) (World.setObj { w with drawn := d } r (.mapIter (some bm) since (seen.push e.born) clock)) := by
  simp only [Instr.next, getObj, Sem.run_bind, Sem.run, hr, hb, Result.andThen, next_test_false seen es since c0 hold hsc, Bool.false_eq_true, if_false]
  unfold leftOf
  have hmem : ∀ x ∈ (Array.filter (fun e => !seen.contains e.born) es).toList, x.born < since := fun x hx => hold x (by simp at hx ⊢; exact hx.1)
  generalize Array.filter (fun e => !seen.contains e.born) es = L at hmem ⊢
  have e1 : L.filter (fun x => decide (x.born < since)) = L := Array.filter_eq_self.2 (fun x hx => by simpa using hmem x (by simpa using hx))
  have e2 : L.filter (fun x => decide (x.born ≥ since)) = #[] := by
    rw [Array.filter_eq_empty_iff]
    intro x hx
    have := hmem x (by simpa using hx)
    simp
    omega
  simp only [e1, e2, Array.append_empty]
  by_cases h0 : L.size = 0
  · left
    have : L = #[] := Array.eq_empty_of_size_eq_zero h0
    subst this
    refine ⟨rfl, ?_⟩
    simp [choose, Sem.run, Question.forced]
  · right
    have hne : L.isEmpty = false := by simp [Array.isEmpty, h0]
    simp only [hne, Bool.false_eq_true, if_false, Array.empty_append, Array.size_map]
    have hch : ∃ (j d : Nat), j < L.size ∧ (choose (Question.mapNext L.size)).run P w = .ok j { w with drawn := d } := by
      by_cases hf : L.size ≤ 1
      · exact ⟨0, w.drawn, by omega, by simp [choose, Sem.run, Question.forced, hf]⟩
      · exact ⟨_, w.drawn + 1, Nat.mod_lt _ (by omega), by
          simp only [choose, Sem.run, Question.forced, decide_eq_true_eq, hf, if_false, Question.cut]
          rfl⟩
    obtain ⟨j, d, hj, hrun⟩ := hch
    refine ⟨L[j], by simp, d, ?_⟩
    have hset : ∀ (o' : Obj), (setObj r o').run P { w with drawn := d } = .ok () (World.setObj { w with drawn := d } r o') := fun o' => by
      simp [setObj, Sem.run, hr, World.setObj]
    simp only [hrun, Array.getElem?_map, Array.getElem?_eq_getElem hj, Option.map_some, Sem.run_bind, hset, Result.andThen]
    rfl
theorem left_at {w : World} {I : Nat → Prop} {ι : Plc} {H : Heap} {κ : KeyKind α} {l : List (α × AV)} {es : Array MapEntry} {seen : List Nat} (h : MapAt w I ι H κ l es) :
    ((leftOf es seen.toArray).size = 0 → ∀ i, i < l.length → i ∈ seen) ∧ ∀ e ∈ (leftOf es seen.toArray).toList, ∃ (i : Nat) (p : α × AV), l[i]? = some p ∧ i ∉ seen ∧ e.born = i ∧ e.key = κ.val p.1 ∧ VRel w I ι H e.val p.2 := by
  constructor
  · intro h0 i hi
    obtain ⟨e, q1, q2, _⟩ := h.rel i l[i] (List.getElem?_eq_getElem hi)
    have h1 : leftOf es seen.toArray = #[] := Array.eq_empty_of_size_eq_zero h0
    rw [leftOf, Array.filter_eq_empty_iff] at h1
    have := h1 e (Array.mem_of_getElem? q1)
    simp only [Bool.not_eq_true', Bool.not_eq_false, List.contains_toArray, List.contains_eq_mem, decide_eq_true_eq] at this
    rw [← q2]; simpa using this
  · intro e he
    simp only [leftOf, Array.toList_filter, List.mem_filter, Bool.not_eq_true', List.contains_toArray, List.contains_eq_mem, decide_eq_false_iff_not] at he
    obtain ⟨h1, h2⟩ := he
    obtain ⟨i, hi⟩ := List.mem_iff_getElem?.1 h1
    have hi' : es[i]? = some e := by simpa using hi
    obtain ⟨q1, q2⟩ := h.born hi'
    obtain ⟨e', z1, z2, z3⟩ := h.rel i l[i] (List.getElem?_eq_getElem q2)
    rw [hi'] at z1; cases z1
    exact ⟨i, l[i], List.getElem?_eq_getElem q2, by rw [← q1]; exact h2, q1, z3⟩

section
variable {P : Program} {N : Nat} {o : Oper} {E : Env} {H : Heap} {T kt et : TypeId} {x y z : Operand} {κ : KeyKind α} {l : List (α × AV)} {id g q gq since last : Nat} {ob oq : Ob} {seen : List Nat}
/-- The loop begins. -/
theorem opd_range (ho : o.op = .range T x) (hT : P.underlying T = some (.map kt et)) (hx : aeval E x = some (.mp id g)) (hH : H.get id = some ob) (hg : ob.g = g) (hrows : ob.rows = mrows κ l) (hty : ob.ty = l.length) (hq : H.get q = none) :
    OpD P N o E H (.it q 0) ((q, ⟨0, 0, 0, irows (.mp id g) l.length l.length []⟩) :: H) := by
  intro a w I ι _ _ hr he K Q hk
  have hvx0 := aeval_rel he hx
  obtain ⟨hsz, b, hι, hvx⟩ := mp_ptr hvx0 hH hg
  obtain ⟨es, e2, e3, e4⟩ := map_at (hr.obj id ob hH) hsz hι hrows
  rw [hty] at e2
  obtain ⟨k2, k3⟩ := Rel.placeX (H' := (q, ⟨0, 0, 0, irows (.mp id g) l.length l.length []⟩) :: H) (id := q) (cap := 1) (ob' := ⟨0, 0, 0, irows (.mp id g) l.length l.length []⟩) (x := .mapIter (some b) l.length #[] l.length) (w' := w.alloc (.mapIter (some b) l.length #[] l.length)) hr rfl rfl rfl rfl
    (fun o ho => by rw [hq] at ho; cases ho) (fun hnew hI hmono => .inr (.inr ⟨rfl, w.heap.size, b, l.length, #[], l.length, by simp, hnew, hI, rfl, ⟨_, _, _, rfl, by rw [← hvx]; exact hmono _ _ hvx0, .pv (.int _ _), .pv (.int _ _)⟩, fun i r hr' => by simp [irows] at hr'⟩))
    (get_cons_same _ _ _) (fun j hj => get_cons_other _ _ hj)
  have hrun : (execOp a.eval o).run P w = .ok (.value (.pointer (some ⟨w.heap.size, 0, none⟩))) (w.alloc (.mapIter (some b) l.length #[] l.length)) := by
    simp only [execOp, ho, hvx]
    simp [Instr.range, run_underlying hT, MapKept.run_getObj_map e2]
  unfold Oper.wp
  rw [hrun]
  exact hk _ _ I _ _ _ ⟨rfl, rfl⟩ (.it ⟨0, 0, 0, irows (.mp id g) l.length l.length []⟩ (get_cons_same _ _ _) (Nat.le_refl _) rfl fun _ => ⟨rfl, w.heap.size, by simp, rfl⟩) k2 k3
/-- A step: nothing is left; or one that has not come comes. -/
theorem opr_next (ho : o.op = .next x false) (hx : aeval E x = some (.it q gq)) (hQ : H.get q = some oq) (hgq : oq.g = gq) (hrq : oq.rows = irows (.mp id g) since last seen) (hH : H.get id = some ob) (hg : ob.g = g) (hrows : ob.rows = mrows κ l) (hty : ob.ty = l.length)
    (hold : l.length ≤ since) (hlast : since ≤ last) :
    OpR P N o E H (fun r H' => (r = .tup [.pv (.bool false)] ∧ H' = H ∧ ∀ i, i < l.length → i ∈ seen) ∨ ∃ (i : Nat) (p : α × AV), l[i]? = some p ∧ i ∉ seen ∧ r = .tup [.pv (.bool true), .pv (κ.pv p.1), p.2] ∧ H' = (q, ⟨gq, 0, oq.ty, irows (.mp id g) since l.length (seen ++ [i])⟩) :: H) := by
  intro a w I ι _ _ hr he K Q hk
  obtain ⟨hsz, b, hι, hvx⟩ := it_ptr (aeval_rel he hx) hQ hgq
  obtain ⟨bm, hιm, hmz, hbq, hI⟩ := iter_at (hr.obj q oq hQ) hsz hι hrq hH hg
  obtain ⟨es, e2, e3, e4⟩ := map_at (hr.obj id ob hH) hmz hιm hrows
  rw [hty] at e2
  have hold' : ∀ x ∈ es.toList, x.born < since := fun x hx => by
    obtain ⟨i, hi⟩ := List.mem_iff_getElem?.1 hx
    obtain ⟨q1, q2⟩ := e4.born (i := i) (e := x) (by simpa using hi)
    omega
  obtain ⟨l1, l2⟩ := left_at (seen := seen) e4
  rcases run_next (P := P) w o.type b bm since last seen.toArray es l.length hbq e2 hold' hlast with ⟨h0, hrun⟩ | ⟨e, he', d, hrun⟩
  · unfold Oper.wp execOp
    simp only [ho, hvx, Sem.run_bind, hrun, Result.andThen_ok, Sem.run_pure]
    refine hk _ _ I ι _ _ (.inl ⟨rfl, rfl, l1 h0⟩) (.tup rfl (fun i v c hv hc => ?_)) hr (Step.refl _ _ _ _)
    match i with
    | 0 => simp at hv hc; subst hv hc; exact .pv (.bool _)
    | i + 1 => simp at hv
  · obtain ⟨i, p, hip, hni, hbn, hkey, hval⟩ := l2 e he'
    obtain ⟨r1, r2⟩ := hr.drawn (w' := { w with drawn := d }) rfl rfl rfl rfl
    have hq2 : Heap.get ((q, ⟨gq, 0, oq.ty, irows (.mp id g) since l.length (seen ++ [i])⟩) :: H) q = some ⟨gq, 0, oq.ty, irows (.mp id g) since l.length (seen ++ [i])⟩ := get_cons_same _ _ _
    have hmp : VRel { w with drawn := d } I ι H (.map (some bm)) (.mp id g) := .mp ob hH (by omega) rfl fun _ => ⟨hmz, bm, hιm, rfl⟩
    obtain ⟨k2, k3⟩ := Rel.rewrite (H' := (q, ⟨gq, 0, oq.ty, irows (.mp id g) since l.length (seen ++ [i])⟩) :: H) (ob' := ⟨gq, 0, oq.ty, irows (.mp id g) since l.length (seen ++ [i])⟩) (x := .mapIter (some bm) since (seen.toArray.push e.born) l.length) r1 hQ hι hsz hbq rfl rfl hgq.symm rfl
      (fun _ hs1 hI' hmono => .inr (.inr ⟨rfl, b, bm, since, seen.toArray.push e.born, l.length, hι, hs1, hI', by simp [irows], ⟨_, _, _, rfl, hmono _ _ hmp, .pv (.int _ _), .pv (.int _ _)⟩, fun j r hj => by
        simp only [irows, List.getElem?_cons_succ, List.getElem?_map] at hj
        obtain ⟨n, hn, rfl⟩ := Option.map_eq_some_iff.1 hj
        refine ⟨n, _, ?_, rfl, .pv (.int _ _)⟩
        rw [hbn]
        simpa using hn⟩)) hq2 (fun j hj => get_cons_other _ _ hj)
    unfold Oper.wp execOp
    simp only [ho, hvx, Sem.run_bind, hrun, Result.andThen_ok, Sem.run_pure]
    refine hk _ _ I ι _ _ (.inr ⟨i, p, hip, hni, rfl, rfl⟩) (.tup rfl (fun j v c hv hc => ?_)) k2 (r2.trans k3)
    match j with
    | 0 => simp at hv hc; subst hv hc; exact .pv (.bool _)
    | 1 => simp at hv hc; subst hv hc; rw [hkey]; exact .pv (κ.rep _ _ _)
    | 2 => simp at hv hc; subst hv hc; exact (hval.mono hr r2).mono r1 k3
    | j + 3 => simp at hv
/-- The entry of the last step. -/
theorem opd_entry {i : Nat} {p : α × AV} (ho : o.op = .entry x) (hx : aeval E x = some (.it q gq)) (hQ : H.get q = some oq) (hgq : oq.g = gq) (hrq : oq.rows = irows (.mp id g) since l.length (seen ++ [i])) (hH : H.get id = some ob) (hg : ob.g = g) (hrows : ob.rows = mrows κ l) (hty : ob.ty = l.length)
    (hip : l[i]? = some p) : OpD P N o E H (.tup [.pv (κ.pv p.1), p.2]) H :=
  .of_run fun a w I ι hr he => by
    obtain ⟨hsz, b, hι, hvx⟩ := it_ptr (aeval_rel he hx) hQ hgq
    obtain ⟨bm, hιm, hmz, hbq, hI⟩ := iter_at (hr.obj q oq hQ) hsz hι hrq hH hg
    obtain ⟨es, e2, e3, e4⟩ := map_at (hr.obj id ob hH) hmz hιm hrows
    rw [hty] at e2
    obtain ⟨e, q1, q2, q3, q4⟩ := e4.rel i p hip
    have hf : es.find? (·.born == i) = some e := by
      rw [← Array.find?_toList, ← q2]
      refine find_born e es.toList ?_ (by simpa using Array.mem_of_getElem? q1)
      refine List.pairwise_iff_getElem.2 fun j k hj hk hjk => ?_
      have hk' : k < es.size := by simpa using hk
      have z1 := (e4.born (i := k) (e := es[k]) (Array.getElem?_eq_getElem hk')).1
      have z2 := (e4.born (i := j) (e := es[j]) (Array.getElem?_eq_getElem (by omega))).1
      simp only [List.getElem_map, Array.getElem_toList, z1, z2]
      omega
    refine ⟨.tuple #[e.key, e.val], ?_, .tup rfl (fun j v c hv hc => ?_)⟩
    · simp only [execOp, ho, hvx]
      simp [Instr.entry, getObj, Sem.run, hbq, e2, hf]
    · match j with
      | 0 => simp at hv hc; subst hv hc; rw [q3]; exact .pv (κ.rep _ _ _)
      | 1 => simp at hv hc; subst hv hc; exact q4
      | j + 2 => simp at hv
end
end

/-! ### entries of the model -/
section
variable {P : Program} {N : Nat} {o : Oper} {E : Env} {H : Heap} {f : Operand} {args : Array Operand} {at_ : Array TypeId} {F : FuncId} {fn : Func} {e : Array Value → Sem Value} {vs : List AV} {r : AV}
/-- What an entry yields, at these arguments. -/
def ExtR (P : Program) (e : Array Value → Sem Value) (H : Heap) (vs : List AV) (r : AV) : Prop :=
  ∀ (w : World) (I : Nat → Prop) (ι : Plc) (cs : Array Value), cs.size = vs.length → (∀ (i : Nat) (v : Value) (a : AV), cs[i]? = some v → vs[i]? = some a → VRel w I ι H v a) → ∃ c, (e cs).run P w = .ok c w ∧ VRel w I ι H c r
theorem opd_ext (ho : o.op = .call { callee := .value f, args := args, argTypes := at_ }) (hf : aeval E f = some (.pv (.fn F))) (hF : P.funcs[F]? = some fn) (hname : (fn.name == "runtime.NumGoroutine") = false)
    (hb : fn.body.isNone = true) (hn : Extern.findNext fn = none) (he : Extern.find fn = some e) (hv : aargs E args.toList = some vs) (h : ExtR P e H vs r) : OpD P N o E H r H :=
  .of_run fun a w I ι hr hE => by
    have hfv := (aeval_rel hE hf).fn_inv
    obtain ⟨h1, h2⟩ := mapM_aeval hE (aargs_mapM hv)
    obtain ⟨c, hc, hcr⟩ := h w I ι (args.map a.eval) (by simpa using h1) (fun i v b hv hb => h2 i v b (by simpa using hv) hb)
    refine ⟨c, ?_, hcr⟩
    unfold execOp
    simp only [ho, resolve, hfv, Deferred.ofValue, Sem.run_bind, Sem.run_pure, Result.andThen_ok, invoke, Array.empty_append, Array.append_empty, run_callFunc_extern hF hname hb hn he, hc]
theorem two_vals {w : World} {I : Nat → Prop} {ι : Plc} {H : Heap} {x y : AV} {cs : Array Value} (hl : cs.size = [x, y].length) (h : ∀ (i : Nat) (v : Value) (a : AV), cs[i]? = some v → [x, y][i]? = some a → VRel w I ι H v a) : ∃ u v, cs = #[u, v] ∧ VRel w I ι H u x ∧ VRel w I ι H v y := by
  obtain ⟨l⟩ := cs
  match l, hl with
  | [u, v], _ => exact ⟨u, v, rfl, h 0 u x rfl rfl, h 1 v y rfl rfl⟩
theorem ext_indexByte (s : ByteArray) (c : Int) : ExtR P Extern.BytealgIndexByte.indexByte H [.pv (.str s), .pv (.int .u8 c)] (.pv (.int .i64 (Lib.indexByte s.data.toList c.toNat.toUInt8))) := by
  intro w I ι cs hl h
  obtain ⟨u, v, rfl, h1, h2⟩ := two_vals hl h
  rw [h1.str_inv, h2.int_inv]
  exact ⟨_, Lib.run_indexByteString s c w, .pv (.int _ _)⟩
end
/-- A slot is laid once more. -/
theorem al_dup {P : Program} {G0 : Heap} {N : Nat} {ops : Array Oper} {K : Env → Heap → Prop} {E : Env} {H : Heap} {l : List Oper} {t : Tmp} {v : AV} (hb : E.get t = some v) (h : AL P G0 N ops K l ((t, v) :: E) H) : AL P G0 N ops K l E H := by
  intro G hG a w hs
  refine h G hG a w (Ent.sub (G0 := G0) (fun k u hk => ?_) G hG N a w hs)
  by_cases e : t = k
  · subst e
    rw [Env.get_cons_same] at hk
    rw [hb, hk]
  · rwa [Env.get_cons_other _ _ e] at hk
end Go.Abs
end
section
set_option linter.unusedVariables false
set_option linter.unusedSimpArgs false
set_option maxRecDepth 100000
namespace Go.Proofs.YtdcifaldfmpapaaGreat
open Go.Abs

theorem slIndexByte_c (s : ByteArray) (c : Int) (H : Heap) : ACalls Tryz.prog 187 [.pv (.str s), .pv (.int .u8 c)] H (fun r H' => r = .pv (.int .i64 (Lib.indexByte s.data.toList c.toNat.toUInt8)) ∧ H' = H) := by
  refine ACalls.pure ?_ (by simp) H
  refine ACalls.body Tryz.func187 rfl Tryz.ntmps187 (Nat.le_of_ble_eq_true rfl) ?_
  refine awp_seq ?_
  refine awp_region ?_
  refine al_d rfl rfl rfl (by exact opd_assign rfl rfl) ?_
  refine al_nil ?_
  refine awp_seq ?_
  refine awp_region ?_
  refine al_d rfl rfl rfl (by exact opd_move rfl rfl) ?_
  refine al_d rfl rfl rfl (by exact opd_move rfl rfl) ?_
  refine al_d rfl rfl rfl (by exact opd_ext rfl rfl Tryz.func192 rfl rfl rfl rfl rfl (ext_indexByte s c)) ?_
  refine al_d rfl rfl rfl (by exact opd_assign rfl rfl) ?_
  refine al_nil ?_
  refine awp_ret ?_
  -- return
  refine aret1 (H' := []) (by exact .inr rfl) rfl (rval_tmp rfl) (Fin.wk (by simp) trivial trivial) ?_
  exact ⟨rfl, rfl⟩
theorem indexByte_c (s : ByteArray) (c : Int) (H : Heap) : ACalls Tryz.prog 176 [.pv (.str s), .pv (.int .u8 c)] H (fun r H' => r = .pv (.int .i64 (Lib.indexByte s.data.toList c.toNat.toUInt8)) ∧ H' = H) := by
  refine ACalls.pure ?_ (by simp) H
  refine ACalls.body Tryz.func176 rfl Tryz.ntmps176 (Nat.le_of_ble_eq_true rfl) ?_
  refine awp_seq ?_
  refine awp_region ?_
  refine al_d rfl rfl rfl (by exact opd_assign rfl rfl) ?_
  refine al_nil ?_
  refine awp_seq ?_
  refine awp_region ?_
  refine al_d rfl rfl rfl (by exact opd_move rfl rfl) ?_
  refine al_d rfl rfl rfl (by exact opd_move rfl rfl) ?_
  refine al_d rfl rfl rfl (by exact opr_call rfl rfl Tryz.call187 rfl (slIndexByte_c s c _)) ?_
  refine al_d rfl rfl rfl (by exact opd_assign rfl rfl) ?_
  refine al_nil ?_
  refine awp_ret ?_
  -- return
  refine aret1 (H' := []) (by exact .inr rfl) rfl (rval_tmp rfl) (Fin.wk (by simp) trivial trivial) ?_
  exact ⟨rfl, rfl⟩

/-! ### the classes of bytes -/
abbrev sBlank : ByteArray := ⟨#[32, 9, 10]⟩
abbrev sSym : ByteArray := ⟨#[59, 44, 46, 58, 40, 41, 123, 125, 91, 93, 61, 60, 62, 47, 45]⟩
def hasB (s : ByteArray) (n : Int) : Bool := decide (0 ≤ Lib.indexByte s.data.toList n.toNat.toUInt8)
def isLet (n : Int) : Bool := (decide (97 ≤ n) && decide (n ≤ 122)) || (decide (65 ≤ n) && decide (n ≤ 90))
def isDig (n : Int) : Bool := decide (48 ≤ n) && decide (n ≤ 57)
def cls1 (n : Int) : Int := if isLet n then 3 else if isDig n then 4 else if hasB sBlank n then 1 else if hasB sSym n then 6 else 0
def cls (n : Int) : Int := if n = 34 then 7 else if n = 95 then 5 else if n = 35 then 2 else cls1 n
def clsRow (c : Nat) : List AV := (List.range 256).map fun (i : Nat) => .pv (.int .u8 (if i < c then cls1 i else 0))
def clsAgg : List AV := (List.range 256).map fun (i : Nat) => .pv (.int .u8 (cls i))
theorem clsRow_length (c : Nat) : (clsRow c).length = 256 := by simp [clsRow]
theorem clsRow_set {c : Nat} (hc : c < 256) {v : Int} (hv : cls1 c = v) : (clsRow c).set c (.pv (.int .u8 v)) = clsRow (c + 1) := by
  apply List.ext_getElem
  · simp [clsRow]
  · intro i h1 h2
    simp only [clsRow, List.length_map, List.length_range] at h2
    rw [List.getElem_set]
    split
    · next e => subst e; simp [clsRow, hv]
    · next e => simp only [clsRow, List.getElem_map, List.getElem_range]; congr 2; by_cases h : i < c <;> by_cases h' : i < c + 1 <;> simp [h, h'] <;> omega
theorem clsRow_same {c : Nat} (hc : c < 256) (hv : cls1 c = 0) : clsRow c = clsRow (c + 1) := by
  rw [← clsRow_set hc hv]
  apply List.ext_getElem
  · simp
  · intro i h1 h2
    rw [List.getElem_set]
    split
    · next e => subst e; simp [clsRow]
    · rfl
theorem clsRow_zero : List.replicate 256 (.pv (.int .u8 0)) = clsRow 0 := by kernel_rfl
theorem clsRow_done : (((clsRow 256).set 35 (.pv (.int .u8 2))).set 95 (.pv (.int .u8 5))).set 34 (.pv (.int .u8 7)) = clsAgg := by kernel_rfl
theorem clsAgg_get {m : Nat} (h : m < 256) : clsAgg[m]? = some (.pv (.int .u8 (cls m))) := by
  simp [clsAgg, h]
theorem cls_clo (c : Nat) (H : Heap) : ∀ r ∈ [clsRow c], ∀ a ∈ r, Clo H a := by
  intro r hr a ha
  rw [List.mem_singleton] at hr
  subst hr
  obtain ⟨i, _, rfl⟩ := List.mem_map.1 ha
  simp
theorem cls_cloA (H : Heap) : Clo H (.agg clsAgg) := by
  rw [clo_agg]
  intro a ha
  obtain ⟨i, _, rfl⟩ := List.mem_map.1 ha
  simp
theorem zoCls : ZeroOf Tryz.prog 154 (List.replicate 256 (.pv (.int .u8 0))) := ⟨_, .agg (List.replicate 256 (.pv (.int .u8 0))), Tryz.zeroValue154, .inl (by kernel_rfl), rfl⟩
theorem classes_c (H : Heap) : ACalls Tryz.prog 137 [] H (fun r H' => r = .agg clsAgg ∧ H' = H) := by
  refine ACalls.pure ?_ (by simp) H
  refine ACalls.body Tryz.func137 rfl Tryz.ntmps137 (Nat.le_of_ble_eq_true rfl) ?_
  refine awp_seq ?_
  refine awp_region ?_
  refine al_d rfl rfl rfl (by exact x_alloc (id := 0) rfl zoCls rfl rfl) ?_
  refine al_nil ?_
  refine awp_seq ?_
  refine awp_region ?_
  refine al_d rfl rfl rfl (by exact x_alloc (id := 1) rfl zoCls rfl rfl) ?_
  refine al_nil ?_
  refine awp_seq ?_
  refine awp_seq ?_
  refine awp_region ?_
  refine al_d rfl rfl rfl (by exact opd_move rfl rfl) ?_
  refine al_nil ?_
  refine awp_block ?_
  -- loop
  rw [clsRow_zero]
  refine awp_loop (σ := Nat) (fun c => ([(0, .ref 0 0 0 0), (1, .ref 1 0 0 0), (4, iv (c : Int))], [(1, bx 256 154 (clsRow c)), (0, bx 256 154 (clsRow 0))])) (fun c => c ≤ 256) (fun c => 256 - c) 0 (by omega) ?_ ?_
  · exact (Ent.wk ⟨⟨_, rfl, rfl⟩, (by (simp; rfl)), ⟨_, rfl, rfl⟩, (by (simp; rfl)), ⟨_, rfl, rfl⟩, (by (simp; done)), trivial⟩ ⟨⟨_, rfl, rfl⟩, (by exact cls_clo _ _), ⟨_, rfl, rfl⟩, (by exact cls_clo _ _), trivial⟩ trivial)
  · intro c hc
    refine awp_seq ?_
    refine awp_region ?_
    refine al_d rfl rfl rfl (by exact opd_lss rfl rfl rfl) ?_
    refine al_nil ?_
    refine awp_seq ?_
    refine awp_cond rfl (fun hc1 => ?_) (fun hc1 => ?_)
    -- cond 1
    · have hlt : c < 256 := by have := of_decide_eq_true hc1; omega
      refine awp_skip ?_
      refine awp_seq ?_
      refine awp_block ?_
      refine awp_seq ?_
      refine awp_region ?_
      refine al_d rfl rfl rfl (by exact opd_move rfl rfl) ?_
      refine al_d rfl rfl rfl (by exact opd_assign rfl rfl) ?_
      refine al_nil ?_
      refine awp_seq ?_
      refine awp_region ?_
      refine al_d rfl rfl rfl (by exact opd_move rfl rfl) ?_
      refine al_d rfl rfl rfl (by exact opd_conv_int rfl Tryz.underlying3 Tryz.underlying5 rfl (by exact wu8 (by omega) (by omega))) ?_
      refine al_d rfl rfl rfl (by exact opd_assign rfl rfl) ?_
      refine al_nil ?_
      refine awp_block ?_
      refine awp_seq ?_
      refine awp_seq ?_
      refine awp_bool (t := 9) (n := 8) (X := decide (97 ≤ (c : Int)) && decide ((c : Int) ≤ 122)) ?_ ?_
      · all_goals (refine al_d rfl rfl rfl (by exact opd_move rfl rfl) ?_)
        all_goals (refine al_d rfl rfl rfl (by exact opd_leq rfl rfl rfl) ?_)
        all_goals (refine al_d rfl rfl rfl (by exact opd_move rfl rfl) ?_)
        all_goals (refine al_split (t := 12) rfl (fun h12 => ?_) (fun h12 => ?_))
        all_goals (try contradiction)
        all_goals (first | refine al_off rfl rfl rfl rfl rfl ?_ | refine al_ond rfl rfl rfl rfl rfl rfl (by exact opd_move rfl rfl) ?_)
        all_goals (first | refine al_off rfl rfl rfl rfl rfl ?_ | refine al_ond rfl rfl rfl rfl rfl rfl (by exact opd_leq rfl rfl rfl) ?_)
        all_goals (refine al_d rfl rfl rfl (by exact (by first | exact opd_pick_t rfl rfl rfl | exact opd_pick_f rfl rfl rfl)) ?_)
        all_goals (refine al_d rfl rfl rfl (by exact opd_assign rfl rfl) ?_)
        all_goals (refine al_nil ?_)
        all_goals (exact ⟨⟨_, rfl, by (simp only [*, Bool.false_and, Bool.true_and, Bool.and_false, Bool.and_true, Bool.true_or, Bool.false_or, Bool.or_true, Bool.or_false, Bool.not_true, Bool.not_false]; done)⟩, rfl, rfl, rfl⟩)
      refine awp_cond rfl (fun hc2 => ?_) (fun hc2 => ?_)
      -- cond 2
      · have hv : cls1 c = 3 := by rw [cls1, isLet, hc2]; rfl
        refine awp_skip ?_
        refine awp_cond rfl (fun hc3 => ?_) (fun hc3 => ?_)
        -- cond 3
        · skip
          refine awp_region ?_
          refine al_d rfl rfl rfl (by exact opd_move rfl rfl) ?_
          refine al_d rfl rfl rfl (by exact opd_index_arr (k2 := c) rfl Tryz.underlying154 Tryz.sizeOf5 rfl rfl rfl rfl (by omega) (by exact Int.toNat_natCast _) (by omega) (by omega)) ?_
          refine al_n rfl rfl (by exact x_store1 rfl Tryz.sizeOf5 rfl rfl rfl rfl rfl rfl (by rw [clsRow_length]; omega) (clsRow_set hlt hv) rfl) ?_
          refine al_nil ?_
          refine awp_region ?_
          refine al_d rfl rfl rfl (by exact opd_add rfl rfl rfl (by exact w64 (by omega) (by omega))) ?_
          refine al_d rfl rfl rfl (by exact opd_move rfl rfl) ?_
          refine al_nil ?_
          -- end of a round
          exact ⟨c + 1, by omega, by omega, (Ent.wk ⟨⟨_, rfl, rfl⟩, (by (simp; rfl)), ⟨_, rfl, rfl⟩, (by (simp; rfl)), ⟨_, rfl, rfl⟩, (by (simp; done)), trivial⟩ ⟨⟨_, rfl, rfl⟩, (by exact cls_clo _ _), ⟨_, rfl, rfl⟩, (by exact cls_clo _ _), trivial⟩ trivial)⟩
        · rw [hc2] at hc3; cases hc3
      · skip
        refine awp_bool (t := 9) (n := 8) (X := decide (65 ≤ (c : Int)) && decide ((c : Int) ≤ 90)) ?_ ?_
        · all_goals (refine al_d rfl rfl rfl (by exact opd_move rfl rfl) ?_)
          all_goals (refine al_d rfl rfl rfl (by exact opd_leq rfl rfl rfl) ?_)
          all_goals (refine al_d rfl rfl rfl (by exact opd_move rfl rfl) ?_)
          all_goals (refine al_split (t := 18) rfl (fun h18 => ?_) (fun h18 => ?_))
          all_goals (try contradiction)
          all_goals (first | refine al_off rfl rfl rfl rfl rfl ?_ | refine al_ond rfl rfl rfl rfl rfl rfl (by exact opd_move rfl rfl) ?_)
          all_goals (first | refine al_off rfl rfl rfl rfl rfl ?_ | refine al_ond rfl rfl rfl rfl rfl rfl (by exact opd_leq rfl rfl rfl) ?_)
          all_goals (refine al_d rfl rfl rfl (by exact (by first | exact opd_pick_t rfl rfl rfl | exact opd_pick_f rfl rfl rfl)) ?_)
          all_goals (refine al_d rfl rfl rfl (by exact opd_assign rfl rfl) ?_)
          all_goals (refine al_nil ?_)
          all_goals (exact ⟨⟨_, rfl, by (simp only [*, Bool.false_and, Bool.true_and, Bool.and_false, Bool.and_true, Bool.true_or, Bool.false_or, Bool.or_true, Bool.or_false, Bool.not_true, Bool.not_false]; done)⟩, rfl, rfl, rfl⟩)
        refine awp_cond rfl (fun hc4 => ?_) (fun hc4 => ?_)
        -- cond 4
        · have hv : cls1 c = 3 := by rw [cls1, isLet, hc2, hc4]; rfl
          refine awp_region ?_
          refine al_d rfl rfl rfl (by exact opd_move rfl rfl) ?_
          refine al_d rfl rfl rfl (by exact opd_index_arr (k2 := c) rfl Tryz.underlying154 Tryz.sizeOf5 rfl rfl rfl rfl (by omega) (by exact Int.toNat_natCast _) (by omega) (by omega)) ?_
          refine al_n rfl rfl (by exact x_store1 rfl Tryz.sizeOf5 rfl rfl rfl rfl rfl rfl (by rw [clsRow_length]; omega) (clsRow_set hlt hv) rfl) ?_
          refine al_nil ?_
          refine awp_region ?_
          refine al_d rfl rfl rfl (by exact opd_add rfl rfl rfl (by exact w64 (by omega) (by omega))) ?_
          refine al_d rfl rfl rfl (by exact opd_move rfl rfl) ?_
          refine al_nil ?_
          -- end of a round
          exact ⟨c + 1, by omega, by omega, (Ent.wk ⟨⟨_, rfl, rfl⟩, (by (simp; rfl)), ⟨_, rfl, rfl⟩, (by (simp; rfl)), ⟨_, rfl, rfl⟩, (by (simp; done)), trivial⟩ ⟨⟨_, rfl, rfl⟩, (by exact cls_clo _ _), ⟨_, rfl, rfl⟩, (by exact cls_clo _ _), trivial⟩ trivial)⟩
        · skip
          refine awp_seq ?_
          refine awp_bool (t := 24) (n := 8) (X := decide (48 ≤ (c : Int)) && decide ((c : Int) ≤ 57)) ?_ ?_
          · all_goals (refine al_d rfl rfl rfl (by exact opd_move rfl rfl) ?_)
            all_goals (refine al_d rfl rfl rfl (by exact opd_leq rfl rfl rfl) ?_)
            all_goals (refine al_d rfl rfl rfl (by exact opd_move rfl rfl) ?_)
            all_goals (refine al_split (t := 27) rfl (fun h27 => ?_) (fun h27 => ?_))
            all_goals (try contradiction)
            all_goals (first | refine al_off rfl rfl rfl rfl rfl ?_ | refine al_ond rfl rfl rfl rfl rfl rfl (by exact opd_move rfl rfl) ?_)
            all_goals (first | refine al_off rfl rfl rfl rfl rfl ?_ | refine al_ond rfl rfl rfl rfl rfl rfl (by exact opd_leq rfl rfl rfl) ?_)
            all_goals (refine al_d rfl rfl rfl (by exact (by first | exact opd_pick_t rfl rfl rfl | exact opd_pick_f rfl rfl rfl)) ?_)
            all_goals (refine al_d rfl rfl rfl (by exact opd_assign rfl rfl) ?_)
            all_goals (refine al_nil ?_)
            all_goals (exact ⟨⟨_, rfl, by (simp only [*, Bool.false_and, Bool.true_and, Bool.and_false, Bool.and_true, Bool.true_or, Bool.false_or, Bool.or_true, Bool.or_false, Bool.not_true, Bool.not_false]; done)⟩, rfl, rfl, rfl⟩)
          refine awp_cond rfl (fun hc5 => ?_) (fun hc5 => ?_)
          -- cond 5
          · have hv : cls1 c = 4 := by rw [cls1, isLet, hc2, hc4, isDig, hc5]; rfl
            refine awp_region ?_
            refine al_d rfl rfl rfl (by exact opd_move rfl rfl) ?_
            refine al_d rfl rfl rfl (by exact opd_index_arr (k2 := c) rfl Tryz.underlying154 Tryz.sizeOf5 rfl rfl rfl rfl (by omega) (by exact Int.toNat_natCast _) (by omega) (by omega)) ?_
            refine al_n rfl rfl (by exact x_store1 rfl Tryz.sizeOf5 rfl rfl rfl rfl rfl rfl (by rw [clsRow_length]; omega) (clsRow_set hlt hv) rfl) ?_
            refine al_nil ?_
            refine awp_region ?_
            refine al_d rfl rfl rfl (by exact opd_add rfl rfl rfl (by exact w64 (by omega) (by omega))) ?_
            refine al_d rfl rfl rfl (by exact opd_move rfl rfl) ?_
            refine al_nil ?_
            -- end of a round
            exact ⟨c + 1, by omega, by omega, (Ent.wk ⟨⟨_, rfl, rfl⟩, (by (simp; rfl)), ⟨_, rfl, rfl⟩, (by (simp; rfl)), ⟨_, rfl, rfl⟩, (by (simp; done)), trivial⟩ ⟨⟨_, rfl, rfl⟩, (by exact cls_clo _ _), ⟨_, rfl, rfl⟩, (by exact cls_clo _ _), trivial⟩ trivial)⟩
          · skip
            refine awp_seq ?_
            refine awp_region ?_
            refine al_d rfl rfl rfl (by exact opd_move rfl rfl) ?_
            refine al_d rfl rfl rfl (by exact opr_call rfl rfl Tryz.call176 rfl (indexByte_c _ _ _)) ?_
            refine al_d rfl rfl rfl (by exact opd_geq rfl rfl rfl) ?_
            refine al_d rfl rfl rfl (by exact opd_assign rfl rfl) ?_
            refine al_nil ?_
            refine awp_cond rfl (fun hc6 => ?_) (fun hc6 => ?_)
            -- cond 6
            · have hv : cls1 c = 1 := by rw [cls1, isLet, hc2, hc4, isDig, hc5, hasB, hc6]; rfl
              refine awp_region ?_
              refine al_d rfl rfl rfl (by exact opd_move rfl rfl) ?_
              refine al_d rfl rfl rfl (by exact opd_index_arr (k2 := c) rfl Tryz.underlying154 Tryz.sizeOf5 rfl rfl rfl rfl (by omega) (by exact Int.toNat_natCast _) (by omega) (by omega)) ?_
              refine al_n rfl rfl (by exact x_store1 rfl Tryz.sizeOf5 rfl rfl rfl rfl rfl rfl (by rw [clsRow_length]; omega) (clsRow_set hlt hv) rfl) ?_
              refine al_nil ?_
              refine awp_region ?_
              refine al_d rfl rfl rfl (by exact opd_add rfl rfl rfl (by exact w64 (by omega) (by omega))) ?_
              refine al_d rfl rfl rfl (by exact opd_move rfl rfl) ?_
              refine al_nil ?_
              -- end of a round
              exact ⟨c + 1, by omega, by omega, (Ent.wk ⟨⟨_, rfl, rfl⟩, (by (simp; rfl)), ⟨_, rfl, rfl⟩, (by (simp; rfl)), ⟨_, rfl, rfl⟩, (by (simp; done)), trivial⟩ ⟨⟨_, rfl, rfl⟩, (by exact cls_clo _ _), ⟨_, rfl, rfl⟩, (by exact cls_clo _ _), trivial⟩ trivial)⟩
            · skip
              refine awp_seq ?_
              refine awp_region ?_
              refine al_d rfl rfl rfl (by exact opd_move rfl rfl) ?_
              refine al_d rfl rfl rfl (by exact opr_call rfl rfl Tryz.call176 rfl (indexByte_c _ _ _)) ?_
              refine al_d rfl rfl rfl (by exact opd_geq rfl rfl rfl) ?_
              refine al_d rfl rfl rfl (by exact opd_assign rfl rfl) ?_
              refine al_nil ?_
              refine awp_cond rfl (fun hc7 => ?_) (fun hc7 => ?_)
              -- cond 7
              · have hv : cls1 c = 6 := by rw [cls1, isLet, hc2, hc4, isDig, hc5, hasB, hc6, hasB, hc7]; rfl
                refine awp_region ?_
                refine al_d rfl rfl rfl (by exact opd_move rfl rfl) ?_
                refine al_d rfl rfl rfl (by exact opd_index_arr (k2 := c) rfl Tryz.underlying154 Tryz.sizeOf5 rfl rfl rfl rfl (by omega) (by exact Int.toNat_natCast _) (by omega) (by omega)) ?_
                refine al_n rfl rfl (by exact x_store1 rfl Tryz.sizeOf5 rfl rfl rfl rfl rfl rfl (by rw [clsRow_length]; omega) (clsRow_set hlt hv) rfl) ?_
                refine al_nil ?_
                refine awp_region ?_
                refine al_d rfl rfl rfl (by exact opd_add rfl rfl rfl (by exact w64 (by omega) (by omega))) ?_
                refine al_d rfl rfl rfl (by exact opd_move rfl rfl) ?_
                refine al_nil ?_
                -- end of a round
                exact ⟨c + 1, by omega, by omega, (Ent.wk ⟨⟨_, rfl, rfl⟩, (by (simp; rfl)), ⟨_, rfl, rfl⟩, (by (simp; rfl)), ⟨_, rfl, rfl⟩, (by (simp; done)), trivial⟩ ⟨⟨_, rfl, rfl⟩, (by exact cls_clo _ _), ⟨_, rfl, rfl⟩, (by exact cls_clo _ _), trivial⟩ trivial)⟩
              · have hv : cls1 c = 0 := by rw [cls1, isLet, hc2, hc4, isDig, hc5, hasB, hc6, hasB, hc7]; rfl
                refine awp_skip ?_
                refine awp_region ?_
                refine al_d rfl rfl rfl (by exact opd_add rfl rfl rfl (by exact w64 (by omega) (by omega))) ?_
                refine al_d rfl rfl rfl (by exact opd_move rfl rfl) ?_
                refine al_nil ?_
                -- end of a round
                rw [clsRow_same hlt hv]
                exact ⟨c + 1, by omega, by omega, (Ent.wk ⟨⟨_, rfl, rfl⟩, (by (simp; rfl)), ⟨_, rfl, rfl⟩, (by (simp; rfl)), ⟨_, rfl, rfl⟩, (by (simp; done)), trivial⟩ ⟨⟨_, rfl, rfl⟩, (by exact cls_clo _ _), ⟨_, rfl, rfl⟩, (by exact cls_clo _ _), trivial⟩ trivial)⟩
    · have : c = 256 := by have : ¬ ((c : Int) < 256) := by simpa using hc1
                           omega
      subst this
      refine awp_exit ?_
      refine awp_seq ?_
      refine awp_region ?_
      refine al_d rfl rfl rfl (by exact opd_index_arr (k2 := 35) rfl Tryz.underlying154 Tryz.sizeOf5 rfl rfl rfl rfl (by omega) rfl (by omega) rfl) ?_
      refine al_n rfl rfl (by exact x_store1 rfl Tryz.sizeOf5 rfl rfl rfl rfl rfl rfl (by simp [clsRow_length]) rfl rfl) ?_
      refine al_d rfl rfl rfl (by exact opd_index_arr (k2 := 95) rfl Tryz.underlying154 Tryz.sizeOf5 rfl rfl rfl rfl (by omega) rfl (by omega) rfl) ?_
      refine al_n rfl rfl (by exact x_store1 rfl Tryz.sizeOf5 rfl rfl rfl rfl rfl rfl (by simp [clsRow_length]) rfl rfl) ?_
      refine al_d rfl rfl rfl (by exact opd_index_arr (k2 := 34) rfl Tryz.underlying154 Tryz.sizeOf5 rfl rfl rfl rfl (by omega) rfl (by omega) rfl) ?_
      refine al_n rfl rfl (by exact x_store1 rfl Tryz.sizeOf5 rfl rfl rfl rfl rfl rfl (by simp [clsRow_length]) rfl rfl) ?_
      refine al_nil ?_
      refine awp_seq ?_
      refine awp_region ?_
      refine al_d rfl rfl rfl (by exact (by exact opd_loadn_ref rfl Tryz.isAgg154 Tryz.sizeOf154 rfl rfl rfl rfl (show List.take 256 (List.drop 0 _) = clsAgg by rw [← clsRow_done]; rfl) rfl)) ?_
      refine al_n rfl rfl (by exact (by exact x_store_all rfl Tryz.sizeOf154 rfl rfl rfl rfl rfl rfl rfl rfl)) ?_
      refine al_nil ?_
      refine awp_ret ?_
      -- return
      refine aret1 (H' := []) (.inr rfl) rfl (rval_cell rfl Tryz.isAgg154 Tryz.sizeOf154 rfl rfl rfl (show List.take 256 (List.drop 0 clsAgg) = clsAgg by rfl) rfl) (Fin.wk (by exact cls_cloA _) trivial trivial) ?_
      exact ⟨rfl, rfl⟩
end Go.Proofs.YtdcifaldfmpapaaGreat
end
section
set_option linter.unusedVariables false
set_option linter.unusedSimpArgs false
set_option maxRecDepth 100000
namespace Go.Proofs.YtdcifaldfmpapaaGreat
open Go.Abs

abbrev sNil : ByteArray := ⟨#[]⟩
theorem byteAt_nn (s : ByteArray) (k : Nat) : 0 ≤ byteAt s k := by unfold byteAt; omega
theorem byteAt_lt (s : ByteArray) (k : Nat) : (byteAt s k).toNat < 256 := by
  unfold byteAt
  have := (((s.data.toList[k]?).getD 0)).toNat_lt
  simpa using this
theorem clsAt (s : ByteArray) (k : Nat) : clsAgg[(byteAt s k).toNat]? = some (.pv (.int .u8 (cls (byteAt s k)))) := by
  rw [clsAgg_get (byteAt_lt s k), Int.toNat_of_nonneg (byteAt_nn s k)]
theorem clsA_clo (H : Heap) : ∀ r ∈ [clsAgg], ∀ a ∈ r, Clo H a := by
  intro r hr a ha
  rw [List.mem_singleton] at hr
  subst hr
  have := cls_cloA H
  rw [clo_agg] at this
  exact this a ha
def badC (s : ByteArray) (k : Nat) : Bool := !decide (cls (byteAt s k) = 3) && (decide ((k : Int) = 0) || (!decide (cls (byteAt s k) = 4) && !decide (cls (byteAt s k) = 5)))
def gName (s : ByteArray) : Bool := !((List.range s.size).any (badC s)) && (!decide (s = sNil) && decide ((s.size : Int) ≤ 24))
theorem range_any {n : Nat} {p : Nat → Bool} (h : ∀ j, j < n → p j = false) : (List.range n).any p = false := by
  rw [List.any_eq_false]
  intro x hx
  rw [h x (List.mem_range.1 hx)]
  simp
theorem range_some {n k : Nat} {p : Nat → Bool} (hk : k < n) (h : p k = true) : (List.range n).any p = true := List.any_eq_true.2 ⟨k, List.mem_range.2 hk, h⟩
theorem name_c (s : ByteArray) (H : Heap) (hs : s.size < 4611686018427387904) : ACalls Tryz.prog 90 [sv s] H (fun r H' => r = bv (gName s) ∧ H' = H) := by
  refine ACalls.pure ?_ (by simp) H
  refine ACalls.body Tryz.func90 rfl Tryz.ntmps90 (Nat.le_of_ble_eq_true rfl) ?_
  refine awp_seq ?_
  refine awp_region ?_
  refine al_d rfl rfl rfl (by exact opd_assign rfl rfl) ?_
  refine al_nil ?_
  refine awp_seq ?_
  refine awp_region ?_
  refine al_d rfl rfl rfl (by exact opr_call rfl rfl Tryz.call137 rfl (classes_c _)) ?_
  refine al_d rfl rfl rfl (by exact x_alloc (id := 3) rfl zoCls rfl rfl) ?_
  refine al_n rfl rfl (by exact x_store_all rfl Tryz.sizeOf154 rfl rfl rfl rfl rfl rfl rfl (by simp)) ?_
  refine al_nil ?_
  refine awp_seq ?_
  refine awp_seq ?_
  refine awp_region ?_
  refine al_d rfl rfl rfl (by exact opd_move rfl rfl) ?_
  refine al_d rfl rfl rfl (by exact opd_len_str rfl Tryz.underlying9 rfl) ?_
  refine al_d rfl rfl rfl (by exact opd_move rfl rfl) ?_
  refine al_nil ?_
  refine awp_block ?_
  -- loop
  refine awp_loop (σ := Nat) (fun k => ([(0, sv s), (3, .ref 3 0 0 0), (8, iv (s.size : Int)), (9, iv (k : Int))], [(3, bx 256 154 clsAgg)])) (fun k => k ≤ s.size ∧ ∀ j, j < k → badC s j = false) (fun k => s.size - k) 0 ⟨by omega, by omega⟩ ?_ ?_
  · exact (Ent.wk ⟨⟨_, rfl, rfl⟩, (by (simp; done)), ⟨_, rfl, rfl⟩, (by (simp; rfl)), ⟨_, rfl, rfl⟩, (by (simp; done)), ⟨_, rfl, rfl⟩, (by (simp; done)), trivial⟩ ⟨⟨_, rfl, rfl⟩, (by exact clsA_clo _), trivial⟩ trivial)
  · rintro k ⟨hk, hno⟩
    refine awp_seq ?_
    refine awp_region ?_
    refine al_d rfl rfl rfl (by exact opd_lss rfl rfl rfl) ?_
    refine al_nil ?_
    refine awp_seq ?_
    refine awp_cond rfl (fun hc1 => ?_) (fun hc1 => ?_)
    -- cond 1
    · have hlt : k < s.size := by have := of_decide_eq_true hc1; omega
      refine awp_skip ?_
      refine awp_seq ?_
      refine awp_block ?_
      refine awp_seq ?_
      refine awp_region ?_
      refine al_d rfl rfl rfl (by exact opd_move rfl rfl) ?_
      refine al_d rfl rfl rfl (by exact opd_assign rfl rfl) ?_
      refine al_nil ?_
      refine awp_seq ?_
      refine awp_region ?_
      refine al_d rfl rfl rfl (by exact opd_move rfl rfl) ?_
      refine al_d rfl rfl rfl (by exact opd_move rfl rfl) ?_
      refine al_d rfl rfl rfl (by exact opd_index_str rfl Tryz.underlying9 rfl rfl (by omega) (by exact Int.toNat_natCast _) (by omega) rfl) ?_
      refine al_d rfl rfl rfl (by exact opd_index_arr (m := (byteAt s k).toNat) (k2 := (byteAt s k).toNat) rfl Tryz.underlying154 Tryz.sizeOf5 rfl rfl rfl rfl (byteAt_nn s k) rfl (byteAt_lt s k) (by omega)) ?_
      refine al_d rfl rfl rfl (by exact opd_load1_ref rfl Tryz.isAgg5 rfl rfl rfl rfl (clsAt s k)) ?_
      refine al_d rfl rfl rfl (by exact opd_assign rfl rfl) ?_
      refine al_nil ?_
      refine awp_seq ?_
      refine awp_bool (t := 30) (n := 17) (X := badC s k) ?_ ?_
      · all_goals (refine al_d rfl rfl rfl (by exact opd_move rfl rfl) ?_)
        all_goals (refine al_d rfl rfl rfl (by exact opd_neq rfl rfl rfl) ?_)
        all_goals (refine al_d rfl rfl rfl (by exact opd_move rfl rfl) ?_)
        all_goals (refine al_split (t := 19) rfl (fun h19 => ?_) (fun h19 => ?_))
        all_goals (try contradiction)
        all_goals (first | refine al_off rfl rfl rfl rfl rfl ?_ | refine al_ond rfl rfl rfl rfl rfl rfl (by exact opd_move rfl rfl) ?_)
        all_goals (first | refine al_off rfl rfl rfl rfl rfl ?_ | refine al_ond rfl rfl rfl rfl rfl rfl (by exact opd_eql rfl rfl rfl) ?_)
        all_goals (first | refine al_off rfl rfl rfl rfl rfl ?_ | refine al_ond rfl rfl rfl rfl rfl rfl (by exact opd_move rfl rfl) ?_)
        all_goals (first | refine al_split (t := 22) rfl (fun h22 => ?_) (fun h22 => ?_) | refine al_dup (t := 22) rfl ?_)
        all_goals (try contradiction)
        all_goals (first | refine al_off rfl rfl rfl rfl rfl ?_ | refine al_offu rfl rfl rfl rfl ?_ | refine al_ond rfl rfl rfl rfl rfl rfl (by exact opd_move rfl rfl) ?_)
        all_goals (first | refine al_off rfl rfl rfl rfl rfl ?_ | refine al_offu rfl rfl rfl rfl ?_ | refine al_ond rfl rfl rfl rfl rfl rfl (by exact opd_neq rfl rfl rfl) ?_)
        all_goals (first | refine al_off rfl rfl rfl rfl rfl ?_ | refine al_offu rfl rfl rfl rfl ?_ | refine al_ond rfl rfl rfl rfl rfl rfl (by exact opd_move rfl rfl) ?_)
        all_goals (first | refine al_split (t := 25) rfl (fun h25 => ?_) (fun h25 => ?_) | refine al_dup (t := 25) rfl ?_)
        all_goals (try contradiction)
        all_goals (first | refine al_off rfl rfl rfl rfl rfl ?_ | refine al_offu rfl rfl rfl rfl ?_ | refine al_ond rfl rfl rfl rfl rfl rfl (by exact opd_move rfl rfl) ?_)
        all_goals (first | refine al_off rfl rfl rfl rfl rfl ?_ | refine al_offu rfl rfl rfl rfl ?_ | refine al_ond rfl rfl rfl rfl rfl rfl (by exact opd_neq rfl rfl rfl) ?_)
        all_goals (first | refine al_off rfl rfl rfl rfl rfl ?_ | refine al_offu rfl rfl rfl rfl ?_ | refine al_ond rfl rfl rfl rfl rfl rfl (by exact (by first | exact opd_pick_t rfl rfl rfl | exact opd_pick_f rfl rfl rfl)) ?_)
        all_goals (first | refine al_off rfl rfl rfl rfl rfl ?_ | refine al_ond rfl rfl rfl rfl rfl rfl (by exact (by first | exact opd_pick_t rfl rfl rfl | exact opd_pick_f rfl rfl rfl)) ?_)
        all_goals (refine al_d rfl rfl rfl (by exact (by first | exact opd_pick_t rfl rfl rfl | exact opd_pick_f rfl rfl rfl)) ?_)
        all_goals (refine al_nil ?_)
        all_goals (exact ⟨⟨_, rfl, by (simp only [badC, *]; rfl)⟩, rfl, rfl, rfl⟩)
      refine awp_cond rfl (fun hc2 => ?_) (fun hc2 => ?_)
      -- cond 2
      · skip
        refine awp_seq ?_
        refine awp_region ?_
        refine al_d rfl rfl rfl (by exact opd_assign rfl rfl) ?_
        refine al_nil ?_
        refine awp_ret ?_
        -- return
        refine aret1 (H' := []) (by exact .inr rfl) rfl (rval_tmp rfl) (Fin.wk (by simp) trivial trivial) ?_
        exact ⟨by rw [gName, range_some hlt hc2]; rfl, rfl⟩
      · skip
        refine awp_skip ?_
        refine awp_region ?_
        refine al_d rfl rfl rfl (by exact opd_add rfl rfl rfl (by exact w64 (by omega) (by omega))) ?_
        refine al_d rfl rfl rfl (by exact opd_move rfl rfl) ?_
        refine al_nil ?_
        -- end of a round
        refine ⟨k + 1, ⟨by omega, fun j hj => ?_⟩, by omega, (Ent.wk ⟨⟨_, rfl, rfl⟩, (by (simp; done)), ⟨_, rfl, rfl⟩, (by (simp; rfl)), ⟨_, rfl, rfl⟩, (by (simp; done)), ⟨_, rfl, rfl⟩, (by (simp; done)), trivial⟩ ⟨⟨_, rfl, rfl⟩, (by exact clsA_clo _), trivial⟩ trivial)⟩
        by_cases e : j = k
        · subst e; exact hc2
        · exact hno j (by omega)
    · have hge : k = s.size := by have := of_decide_eq_false hc1; omega
      refine awp_exit ?_
      refine awp_seq ?_
      refine awp_bool (t := 2) (n := 9) (X := !decide (s = sNil) && decide ((s.size : Int) ≤ 24)) ?_ ?_
      · all_goals (refine al_d rfl rfl rfl (by exact opd_move rfl rfl) ?_)
        all_goals (refine al_d rfl rfl rfl (by exact opd_sneq rfl rfl rfl) ?_)
        all_goals (refine al_d rfl rfl rfl (by exact opd_move rfl rfl) ?_)
        all_goals (refine al_split (t := 34) rfl (fun h34 => ?_) (fun h34 => ?_))
        all_goals (try contradiction)
        all_goals (first | refine al_off rfl rfl rfl rfl rfl ?_ | refine al_ond rfl rfl rfl rfl rfl rfl (by exact opd_move rfl rfl) ?_)
        all_goals (first | refine al_off rfl rfl rfl rfl rfl ?_ | refine al_ond rfl rfl rfl rfl rfl rfl (by exact opd_len_str rfl Tryz.underlying9 rfl) ?_)
        all_goals (first | refine al_off rfl rfl rfl rfl rfl ?_ | refine al_ond rfl rfl rfl rfl rfl rfl (by exact opd_leq rfl rfl rfl) ?_)
        all_goals (refine al_d rfl rfl rfl (by exact (by first | exact opd_pick_t rfl rfl rfl | exact opd_pick_f rfl rfl rfl)) ?_)
        all_goals (refine al_d rfl rfl rfl (by exact opd_assign rfl rfl) ?_)
        all_goals (refine al_nil ?_)
        all_goals (exact ⟨⟨_, rfl, by (simp only [badC, *]; rfl)⟩, rfl, rfl, rfl⟩)
      refine awp_ret ?_
      -- return
      refine aret1 (H' := []) (by exact .inr rfl) rfl (rval_tmp rfl) (Fin.wk (by simp) trivial trivial) ?_
      subst hge
      exact ⟨by rw [gName, range_any hno]; rfl, rfl⟩

/-- A key's value. -/
def gGet (l : List GTag) (key : ByteArray) : Option ByteArray := (l.find? (fun t => decide (t.key = key))).map (·.val)
theorem tagGet_c (l : List GTag) (key : ByteArray) (H : Heap) (hl : l.length < 4611686018427387904) : ACalls Tryz.prog 72 [.pv (slTags l), sv key] H (fun r H' => r = .tup [sv ((gGet l key).getD sNil), bv (gGet l key).isSome] ∧ H' = H) := by
  refine ACalls.pure ?_ (by simp) H
  refine ACalls.body Tryz.func72 rfl Tryz.ntmps72 (Nat.le_of_ble_eq_true rfl) ?_
  refine awp_seq ?_
  refine awp_region ?_
  refine al_d rfl rfl rfl (by exact opd_assign rfl rfl) ?_
  refine al_d rfl rfl rfl (by exact opd_assign rfl rfl) ?_
  refine al_nil ?_
  refine awp_seq ?_
  refine awp_seq ?_
  refine awp_region ?_
  refine al_d rfl rfl rfl (by exact opd_move rfl rfl) ?_
  refine al_d rfl rfl rfl (by exact (by exact opd_len_sl rfl Tryz.underlying28 rfl)) ?_
  refine al_d rfl rfl rfl (by exact opd_move rfl rfl) ?_
  refine al_nil ?_
  refine awp_block ?_
  -- loop
  refine awp_loop (σ := Nat) (fun k => ([(1, sv key), (8, .pv (slTags l)), (9, iv ((l.map encTag).length : Int)), (10, iv (k : Int))], [])) (fun k => k ≤ l.length ∧ ∀ j, j < k → ∀ b, l[j]? = some b → decide (b.key = key) = false) (fun k => l.length - k) 0 ⟨by omega, by omega⟩ ?_ ?_
  · exact (Ent.wk ⟨⟨_, rfl, rfl⟩, (by (simp; done)), ⟨_, rfl, rfl⟩, (by (simp; done)), ⟨_, rfl, rfl⟩, (by (simp; done)), ⟨_, rfl, rfl⟩, (by (simp; done)), trivial⟩ trivial trivial)
  · rintro k ⟨hk, hno⟩
    refine awp_seq ?_
    refine awp_region ?_
    refine al_d rfl rfl rfl (by exact opd_lss rfl rfl rfl) ?_
    refine al_nil ?_
    refine awp_seq ?_
    refine awp_cond rfl (fun hc1 => ?_) (fun hc1 => ?_)
    -- cond 1
    · have hlt : k < l.length := by simpa using hc1
      obtain ⟨o, ho⟩ := get_of_lt hlt
      have hi := map_get (f := encTag) ho
      refine awp_skip ?_
      refine awp_seq ?_
      refine awp_block ?_
      refine awp_seq ?_
      refine awp_region ?_
      refine al_d rfl rfl rfl (by exact (by exact x_index_pad rfl so28 rfl rfl (by omega) (by exact Int.toNat_natCast _) (by assumption) rfl)) ?_
      refine al_d rfl rfl rfl (by exact (by exact opd_loadn_pad rfl Tryz.isAgg52 Tryz.sizeOf52 rfl (by omega) (by simp only [List.drop_succ_cons, List.drop_zero, List.take_succ_cons, List.take_zero, List.take_nil, List.map_cons, List.map_nil, List.set_cons_zero, List.set_cons_succ, List.cons_append, List.nil_append, encTag, encObj]; rfl) rfl)) ?_
      refine al_d rfl rfl rfl (by exact x_alloc (id := 7) rfl zo52 rfl rfl) ?_
      refine al_n rfl rfl (by exact (by exact x_store_all rfl Tryz.sizeOf52 rfl rfl rfl rfl rfl rfl rfl rfl)) ?_
      refine al_nil ?_
      refine awp_seq ?_
      refine awp_region ?_
      refine al_d rfl rfl rfl (by exact (by exact opd_field_ref rfl fo52_0 rfl rfl rfl rfl)) ?_
      refine al_d rfl rfl rfl (by exact (by exact opd_load1_ref rfl Tryz.isAgg9 rfl rfl rfl rfl rfl)) ?_
      refine al_d rfl rfl rfl (by exact opd_move rfl rfl) ?_
      refine al_d rfl rfl rfl (by exact opd_seql rfl rfl rfl) ?_
      refine al_nil ?_
      refine awp_cond rfl (fun hc2 => ?_) (fun hc2 => ?_)
      -- cond 2
      · skip
        refine awp_seq ?_
        refine awp_region ?_
        refine al_d rfl rfl rfl (by exact (by exact opd_field_ref rfl fo52_1 rfl rfl rfl rfl)) ?_
        refine al_d rfl rfl rfl (by exact (by exact opd_load1_ref rfl Tryz.isAgg9 rfl rfl rfl rfl rfl)) ?_
        refine al_d rfl rfl rfl (by exact opd_assign rfl rfl) ?_
        refine al_d rfl rfl rfl (by exact opd_assign rfl rfl) ?_
        refine al_nil ?_
        refine awp_ret ?_
        -- return
        refine aret2 (H' := []) (by exact .inr rfl) rfl (rval_tmp rfl) (rval_tmp rfl) (Fin.wk (by simp) trivial trivial) ?_
        exact ⟨by rw [gGet, find_some hno ho hc2]; rfl, rfl⟩
      · skip
        refine awp_skip ?_
        refine awp_region ?_
        refine al_d rfl rfl rfl (by exact opd_add rfl rfl rfl (by exact w64 (by omega) (by omega))) ?_
        refine al_d rfl rfl rfl (by exact opd_move rfl rfl) ?_
        refine al_nil ?_
        -- end of a round
        exact ⟨k + 1, ⟨by omega, pre_succ hno ho hc2⟩, by omega, (Ent.wk ⟨⟨_, rfl, rfl⟩, (by (simp; done)), ⟨_, rfl, rfl⟩, (by (simp; done)), ⟨_, rfl, rfl⟩, (by (simp; done)), ⟨_, rfl, rfl⟩, (by (simp; done)), trivial⟩ trivial trivial)⟩
    · have hge : k = l.length := by have : l.length ≤ k := by simpa using hc1
                                    omega
      subst hge
      refine awp_exit ?_
      refine awp_seq ?_
      refine awp_region ?_
      refine al_d rfl rfl rfl (by exact opd_assign rfl rfl) ?_
      refine al_d rfl rfl rfl (by exact opd_assign rfl rfl) ?_
      refine al_nil ?_
      refine awp_ret ?_
      -- return
      refine aret2 (H' := []) (by exact .inr rfl) rfl (rval_tmp rfl) (rval_tmp rfl) (Fin.wk (by simp) trivial trivial) ?_
      exact ⟨by rw [gGet, find_none hno]; rfl, rfl⟩
end Go.Proofs.YtdcifaldfmpapaaGreat
end
section
set_option linter.unusedVariables false
set_option linter.unusedSimpArgs false
set_option maxRecDepth 100000
namespace Go.Proofs.YtdcifaldfmpapaaGreat
open Go.Abs
def big : Nat := 4611686018427387904
/-- The key ahead of a place. -/
def before {α : Type} (f : α → ByteArray) (l : List α) : Nat → ByteArray
  | 0 => sNil
  | k + 1 => ((l[k]?).map f).getD sNil
def sle (a b : ByteArray) : Bool := slt a b || decide (a = b)
def badTag (last : ByteArray) (t : GTag) : Bool := !gName t.key || sle t.key last || decide (t.val = sNil) || decide (200 < (t.val.size : Int))
def badAt {α : Type} (p : ByteArray → α → Bool) (f : α → ByteArray) (l : List α) (k : Nat) : Bool := match l[k]? with
  | some t => p (before f l k) t
  | none => false
theorem badAt_some {α : Type} {p : ByteArray → α → Bool} {f : α → ByteArray} {l : List α} {k : Nat} {t : α} (h : l[k]? = some t) : badAt p f l k = p (before f l k) t := by rw [badAt, h]
theorem before_succ {α : Type} {f : α → ByteArray} {l : List α} {k : Nat} {t : α} (h : l[k]? = some t) : before f l (k + 1) = f t := by rw [before, h]; rfl
def gTags (l : List GTag) : Bool := !((List.range l.length).any (badAt badTag GTag.key l)) && decide ((l.length : Int) ≤ 60)
def okTags (l : List GTag) : Prop := l.length < 4611686018427387904 ∧ ∀ t ∈ l, t.key.size < 4611686018427387904 ∧ t.val.size < 4611686018427387904
theorem tagValid_c (l : List GTag) (H : Heap) (hl : okTags l) : ACalls Tryz.prog 92 [.pv (slTags l)] H (fun r H' => r = bv (gTags l) ∧ H' = H) := by
  refine ACalls.pure ?_ (by simp) H
  obtain ⟨hl, hks⟩ := hl
  have hml : (l.map encTag).length = l.length := List.length_map _
  refine ACalls.body Tryz.func92 rfl Tryz.ntmps92 (Nat.le_of_ble_eq_true rfl) ?_
  refine awp_seq ?_
  refine awp_region ?_
  refine al_d rfl rfl rfl (by exact opd_assign rfl rfl) ?_
  refine al_nil ?_
  refine awp_seq ?_
  refine awp_region ?_
  refine al_d rfl rfl rfl (by exact opd_assign rfl rfl) ?_
  refine al_nil ?_
  refine awp_seq ?_
  refine awp_seq ?_
  refine awp_region ?_
  refine al_d rfl rfl rfl (by exact opd_move rfl rfl) ?_
  refine al_d rfl rfl rfl (by exact (by exact opd_len_sl rfl Tryz.underlying28 rfl)) ?_
  refine al_d rfl rfl rfl (by exact opd_move rfl rfl) ?_
  refine al_nil ?_
  refine awp_block ?_
  -- loop
  refine awp_loop (σ := Nat) (fun k => ([(0, .pv (slTags l)), (3, sv (before GTag.key l k)), (6, .pv (slTags l)), (7, iv ((l.map encTag).length : Int)), (8, iv (k : Int))], [])) (fun k => k ≤ l.length ∧ ∀ j, j < k → badAt badTag GTag.key l j = false) (fun k => l.length - k) 0 ⟨by omega, by omega⟩ ?_ ?_
  · exact (Ent.wk ⟨⟨_, rfl, rfl⟩, (by (simp; done)), ⟨_, rfl, rfl⟩, (by (simp; done)), ⟨_, rfl, rfl⟩, (by (simp; done)), ⟨_, rfl, rfl⟩, (by (simp; done)), ⟨_, rfl, rfl⟩, (by (simp; done)), trivial⟩ trivial trivial)
  · rintro k ⟨hk, hno⟩
    refine awp_seq ?_
    refine awp_region ?_
    refine al_d rfl rfl rfl (by exact opd_lss rfl rfl rfl) ?_
    refine al_nil ?_
    refine awp_seq ?_
    refine awp_cond rfl (fun hc1 => ?_) (fun hc1 => ?_)
    -- cond 1
    · have hlt : k < l.length := by have := of_decide_eq_true hc1; omega
      obtain ⟨t, ht⟩ := get_of_lt hlt
      have hi := map_get (f := encTag) ht
      have hkt := hks t (List.mem_of_getElem? ht)
      refine awp_skip ?_
      refine awp_seq ?_
      refine awp_block ?_
      refine awp_seq ?_
      refine awp_region ?_
      refine al_d rfl rfl rfl (by exact (by exact x_index_pad rfl so28 rfl rfl (by omega) (by exact Int.toNat_natCast _) (by assumption) rfl)) ?_
      refine al_d rfl rfl rfl (by exact (by exact opd_loadn_pad rfl Tryz.isAgg52 Tryz.sizeOf52 rfl (by omega) (by simp only [List.drop_succ_cons, List.drop_zero, List.take_succ_cons, List.take_zero, List.take_nil, List.map_cons, List.map_nil, List.set_cons_zero, List.set_cons_succ, List.cons_append, List.nil_append, encTag, encObj]; rfl) rfl)) ?_
      refine al_d rfl rfl rfl (by exact x_alloc (id := 5) rfl zo52 rfl rfl) ?_
      refine al_n rfl rfl (by exact (by exact x_store_all rfl Tryz.sizeOf52 rfl rfl rfl rfl rfl rfl rfl rfl)) ?_
      refine al_nil ?_
      refine awp_seq ?_
      refine awp_seq ?_
      refine awp_bool (t := 32) (n := 24) (X := badTag (before GTag.key l k) t) ?_ ?_
      · all_goals (refine al_d rfl rfl rfl (by exact (by exact opd_field_ref rfl fo52_0 rfl rfl rfl rfl)) ?_)
        all_goals (refine al_d rfl rfl rfl (by exact (by exact opd_load1_ref rfl Tryz.isAgg9 rfl rfl rfl rfl rfl)) ?_)
        all_goals (refine al_d rfl rfl rfl (by exact opr_call rfl rfl Tryz.call90 rfl (name_c t.key _ hkt.1)) ?_)
        all_goals (refine al_d rfl rfl rfl (by exact opd_not rfl rfl) ?_)
        all_goals (refine al_d rfl rfl rfl (by exact opd_move rfl rfl) ?_)
        all_goals (refine al_split (t := 16) rfl (fun h16 => ?_) (fun h16 => ?_))
        all_goals (try contradiction)
        all_goals (first | refine al_off rfl rfl rfl rfl rfl ?_ | refine al_ond rfl rfl rfl rfl rfl rfl (by exact (by exact opd_field_ref rfl fo52_0 rfl rfl rfl rfl)) ?_)
        all_goals (first | refine al_off rfl rfl rfl rfl rfl ?_ | refine al_ond rfl rfl rfl rfl rfl rfl (by exact (by exact opd_load1_ref rfl Tryz.isAgg9 rfl rfl rfl rfl rfl)) ?_)
        all_goals (first | refine al_off rfl rfl rfl rfl rfl ?_ | refine al_ond rfl rfl rfl rfl rfl rfl (by exact opd_move rfl rfl) ?_)
        all_goals (first | refine al_off rfl rfl rfl rfl rfl ?_ | refine al_ond rfl rfl rfl rfl rfl rfl (by exact opd_sleq rfl rfl rfl) ?_)
        all_goals (refine al_d rfl rfl rfl (by exact (by first | exact opd_pick_t rfl rfl rfl | exact opd_pick_f rfl rfl rfl)) ?_)
        all_goals (refine al_d rfl rfl rfl (by exact opd_move rfl rfl) ?_)
        all_goals (refine al_split (t := 22) rfl (fun h22 => ?_) (fun h22 => ?_))
        all_goals (try contradiction)
        all_goals (first | refine al_off rfl rfl rfl rfl rfl ?_ | refine al_ond rfl rfl rfl rfl rfl rfl (by exact (by exact opd_field_ref rfl fo52_1 rfl rfl rfl rfl)) ?_)
        all_goals (first | refine al_off rfl rfl rfl rfl rfl ?_ | refine al_ond rfl rfl rfl rfl rfl rfl (by exact (by exact opd_load1_ref rfl Tryz.isAgg9 rfl rfl rfl rfl rfl)) ?_)
        all_goals (first | refine al_off rfl rfl rfl rfl rfl ?_ | refine al_ond rfl rfl rfl rfl rfl rfl (by exact opd_seql rfl rfl rfl) ?_)
        all_goals (refine al_d rfl rfl rfl (by exact (by first | exact opd_pick_t rfl rfl rfl | exact opd_pick_f rfl rfl rfl)) ?_)
        all_goals (refine al_d rfl rfl rfl (by exact opd_move rfl rfl) ?_)
        all_goals (refine al_split (t := 27) rfl (fun h27 => ?_) (fun h27 => ?_))
        all_goals (try contradiction)
        all_goals (first | refine al_off rfl rfl rfl rfl rfl ?_ | refine al_ond rfl rfl rfl rfl rfl rfl (by exact (by exact opd_field_ref rfl fo52_1 rfl rfl rfl rfl)) ?_)
        all_goals (first | refine al_off rfl rfl rfl rfl rfl ?_ | refine al_ond rfl rfl rfl rfl rfl rfl (by exact (by exact opd_load1_ref rfl Tryz.isAgg9 rfl rfl rfl rfl rfl)) ?_)
        all_goals (first | refine al_off rfl rfl rfl rfl rfl ?_ | refine al_ond rfl rfl rfl rfl rfl rfl (by exact opd_len_str rfl Tryz.underlying9 rfl) ?_)
        all_goals (first | refine al_off rfl rfl rfl rfl rfl ?_ | refine al_ond rfl rfl rfl rfl rfl rfl (by exact opd_gtr rfl rfl rfl) ?_)
        all_goals (refine al_d rfl rfl rfl (by exact (by first | exact opd_pick_t rfl rfl rfl | exact opd_pick_f rfl rfl rfl)) ?_)
        all_goals (refine al_nil ?_)
        all_goals (exact ⟨⟨_, rfl, by (simp only [badTag, sle, *]; rfl)⟩, rfl, rfl, rfl⟩)
      refine awp_cond rfl (fun hc2 => ?_) (fun hc2 => ?_)
      -- cond 2
      · skip
        refine awp_seq ?_
        refine awp_region ?_
        refine al_d rfl rfl rfl (by exact opd_assign rfl rfl) ?_
        refine al_nil ?_
        refine awp_ret ?_
        -- return
        refine aret1 (H' := []) (by exact .inr rfl) rfl (rval_tmp rfl) (Fin.wk (by simp) trivial trivial) ?_
        exact ⟨by rw [gTags, range_some hlt ((badAt_some ht).trans hc2)]; rfl, rfl⟩
      · skip
        refine awp_skip ?_
        refine awp_region ?_
        refine al_d rfl rfl rfl (by exact (by exact opd_field_ref rfl fo52_0 rfl rfl rfl rfl)) ?_
        refine al_d rfl rfl rfl (by exact (by exact opd_load1_ref rfl Tryz.isAgg9 rfl rfl rfl rfl rfl)) ?_
        refine al_d rfl rfl rfl (by exact opd_assign rfl rfl) ?_
        refine al_nil ?_
        refine awp_region ?_
        refine al_d rfl rfl rfl (by exact opd_add rfl rfl rfl (by exact w64 (by omega) (by omega))) ?_
        refine al_d rfl rfl rfl (by exact opd_move rfl rfl) ?_
        refine al_nil ?_
        -- end of a round
        refine ⟨k + 1, ⟨by omega, fun j hj => ?_⟩, by omega, ?_⟩
        · by_cases e : j = k
          · subst e; exact (badAt_some ht).trans hc2
          · exact hno j (by omega)
        · rw [before_succ ht]
          exact (Ent.wk ⟨⟨_, rfl, rfl⟩, (by (simp; done)), ⟨_, rfl, rfl⟩, (by (simp; done)), ⟨_, rfl, rfl⟩, (by (simp; done)), ⟨_, rfl, rfl⟩, (by (simp; done)), ⟨_, rfl, rfl⟩, (by (simp; done)), trivial⟩ trivial trivial)
    · have hge : k = l.length := by have := of_decide_eq_false hc1; omega
      subst hge
      refine awp_exit ?_
      refine awp_seq ?_
      refine awp_region ?_
      refine al_d rfl rfl rfl (by exact opd_move rfl rfl) ?_
      refine al_d rfl rfl rfl (by exact (by exact opd_len_sl rfl Tryz.underlying28 rfl)) ?_
      refine al_d rfl rfl rfl (by exact opd_leq rfl rfl rfl) ?_
      refine al_d rfl rfl rfl (by exact opd_assign rfl rfl) ?_
      refine al_nil ?_
      refine awp_ret ?_
      -- return
      refine aret1 (H' := []) (by exact .inr rfl) rfl (rval_tmp rfl) (Fin.wk (by simp) trivial trivial) ?_
      exact ⟨by rw [gTags, range_any hno, ← hml]; rfl, rfl⟩
end Go.Proofs.YtdcifaldfmpapaaGreat
end
section
set_option linter.unusedVariables false
set_option linter.unusedSimpArgs false
namespace Go.Abs
section
variable {P : Program} {N : Nat} {o : Oper} {E : Env} {H : Heap} {T : TypeId} {x y z : Operand}
theorem opd_index_agg {e : TypeId} {cnt : Nat} {kk : IntKind} {n : Int} {m : Nat} {l : List AV} {v : AV} (ho : o.op = .index T x y) (hT : P.underlying T = some (.array cnt e)) (hs : ∀ w, (sizeOf e).run P w = .ok 1 w) (ha : ∀ w, (isAgg e).run P w = .ok false w)
    (hx : aeval E x = some (.agg l)) (hy : aeval E y = some (.pv (.int kk n))) (h0 : 0 ≤ n) (hm : n.toNat = m) (hi : m < cnt) (hv : l[m]? = some v) : OpD P N o E H v H :=
  .of_run fun a w I ι hr he => by
    have h := aeval_rel he hx
    have hn := (aeval_rel he hy).int_inv
    generalize hc : a.eval x = c at h
    cases h with
    | @agg vs _ hl h1 h2 =>
      have hlt : m < vs.size := by rw [hl]; exact (List.getElem?_eq_some_iff.1 hv).1
      have hu : vs[m]? = some vs[m] := Array.getElem?_eq_getElem hlt
      refine ⟨vs[m], ?_, h2 m _ v hu hv⟩
      have h5 : n < (cnt : Int) := by omega
      simp only [execOp, ho, hc, hn]
      simp [Instr.index, run_underlying hT, asIntOf, h0, h5, hs, hm, part, ha, hu]

/-- A set: a map of truths. -/
def sets (l : List ByteArray) : List (ByteArray × AV) := l.map fun s => (s, .pv (.bool true))
def inB (l : List ByteArray) (s : ByteArray) : Bool := l.any fun a => decide (a = s)
def sput (l : List ByteArray) (s : ByteArray) : List ByteArray := if inB l s then l else l ++ [s]
theorem sets_get (l : List ByteArray) (s : ByteArray) : (mget (sets l) s).getD (.pv (.bool false)) = .pv (.bool (inB l s)) := by
  induction l with
  | nil => rfl
  | cons a l ih =>
    by_cases h : a = s
    · subst h; simp [sets, mget, inB]
    · simp only [sets, List.map_cons, mget, h, if_false, inB, List.any_cons, decide_false, Bool.false_or] at ih ⊢
      exact ih
theorem sets_put (l : List ByteArray) (s : ByteArray) : mput (sets l) s (.pv (.bool true)) = sets (sput l s) := by
  induction l with
  | nil => rfl
  | cons a l ih =>
    by_cases h : a = s
    · subst h; simp [sets, mput, sput, inB]
    · have e : sput (a :: l) s = a :: sput l s := by
        unfold sput inB
        rw [List.any_cons, decide_eq_false h, Bool.false_or]
        split <;> rfl
      rw [e]
      show mput ((a, .pv (.bool true)) :: sets l) s (.pv (.bool true)) = (a, .pv (.bool true)) :: sets (sput l s)
      rw [mput, if_neg h, ih]
theorem sets_length (l : List ByteArray) : (sets l).length = l.length := by simp [sets]
theorem x_lookup_set {kt et : TypeId} {l : List ByteArray} {id g : Nat} {ob : Ob} {s : ByteArray} {zv : Value} (ho : o.op = .lookup T x y false) (hT : P.underlying T = some (.map kt et)) (hd : P.underlying kt = some .string) (hx : aeval E x = some (.mp id g)) (hH : H.get id = some ob) (hg : ob.g = g)
    (hrows : ob.rows = mrows strK (sets l)) (hy : aeval E y = some (.pv (.str s))) (hz : ∀ w, (zeroValue et).run P w = .ok zv w) (hv : ZV zv (.pv (.bool false))) : OpD P N o E H (.pv (.bool (inB l s))) H := by
  rw [← sets_get]
  exact opd_lookup (κ := strK) ho hT hd hx hH hg hrows hy hz hv
theorem x_put_set {kt et : TypeId} {l : List ByteArray} {id g : Nat} {ob : Ob} {s : ByteArray} (ho : o.op = .mapUpdate T x y z ∨ o.op = .insert T x y z) (hT : P.underlying T = some (.map kt et)) (hd : P.underlying kt = some .string) (hx : aeval E x = some (.mp id g)) (hH : H.get id = some ob) (hg : ob.g = g)
    (hty : ob.ty = (sets l).length) (hrows : ob.rows = mrows strK (sets l)) (hy : aeval E y = some (.pv (.str s))) (hz : aeval E z = some (.pv (.bool true))) : OpD P N o E H .any ((id, ⟨g, ob.sz, (sets (sput l s)).length, mrows strK (sets (sput l s))⟩) :: H) :=
  x_mapUpdate (κ := strK) ho hT hd hx hH hg hty hrows hy hz (sets_put l s)
/-- A map of truths, as an object. -/
abbrev sob (l : List ByteArray) : Ob := ⟨0, 0, (sets l).length, mrows strK (sets l)⟩
end
end Go.Abs
end
section
set_option linter.unusedVariables false
set_option linter.unusedSimpArgs false
set_option maxRecDepth 100000
namespace Go.Proofs.YtdcifaldfmpapaaGreat
open Go.Abs
def gWord (k : Int) : ByteArray := if k = 1 then ⟨#[110, 111, 100, 101]⟩ else if k = 2 then ⟨#[119, 97, 121]⟩ else if k = 3 then ⟨#[97, 114, 101, 97]⟩ else if k = 4 then ⟨#[114, 111, 117, 116, 101]⟩ else if k = 5 then ⟨#[116, 117, 114, 110]⟩ else sNil
abbrev wordRow : List AV := [sv sNil, sv ⟨#[110, 111, 100, 101]⟩, sv ⟨#[119, 97, 121]⟩, sv ⟨#[97, 114, 101, 97]⟩, sv ⟨#[114, 111, 117, 116, 101]⟩, sv ⟨#[116, 117, 114, 110]⟩]
theorem six {k : Int} (h0 : 0 ≤ k) (h1 : k < 6) : k = 0 ∨ k = 1 ∨ k = 2 ∨ k = 3 ∨ k = 4 ∨ k = 5 := by omega
theorem word_at {k : Int} (h0 : 0 ≤ k) (h1 : k < 6) : wordRow[k.toNat]? = some (sv (gWord k)) := by
  rcases six h0 h1 with rfl | rfl | rfl | rfl | rfl | rfl <;> rfl
theorem word_c (k : Int) (H : Heap) : ACalls Tryz.prog 91 [iv k] H (fun r H' => r = sv (gWord k) ∧ H' = H) := by
  refine ACalls.pure ?_ (by simp) H
  refine ACalls.body Tryz.func91 rfl Tryz.ntmps91 (Nat.le_of_ble_eq_true rfl) ?_
  refine awp_seq ?_
  refine awp_region ?_
  refine al_d rfl rfl rfl (by exact opd_assign rfl rfl) ?_
  refine al_nil ?_
  refine awp_seq ?_
  refine awp_region ?_
  refine al_d rfl rfl rfl (by exact x_build_arr rfl ao156 rfl rfl) ?_
  refine al_d rfl rfl rfl (by exact x_alloc (id := 3) rfl zo156 rfl rfl) ?_
  refine al_n rfl rfl (by exact (by exact x_store_all rfl Tryz.sizeOf156 rfl rfl rfl rfl rfl rfl rfl rfl)) ?_
  refine al_nil ?_
  refine awp_seq ?_
  refine awp_seq ?_
  refine awp_bool (t := 10) (n := 7) (X := decide (k < 0) || decide (6 ≤ k)) ?_ ?_
  · all_goals (refine al_d rfl rfl rfl (by exact opd_move rfl rfl) ?_)
    all_goals (refine al_d rfl rfl rfl (by exact opd_lss rfl rfl rfl) ?_)
    all_goals (refine al_d rfl rfl rfl (by exact opd_move rfl rfl) ?_)
    all_goals (refine al_split (t := 7) rfl (fun h7 => ?_) (fun h7 => ?_))
    all_goals (try contradiction)
    all_goals (first | refine al_off rfl rfl rfl rfl rfl ?_ | refine al_ond rfl rfl rfl rfl rfl rfl (by exact opd_move rfl rfl) ?_)
    all_goals (first | refine al_off rfl rfl rfl rfl rfl ?_ | refine al_ond rfl rfl rfl rfl rfl rfl (by exact opd_geq rfl rfl rfl) ?_)
    all_goals (refine al_d rfl rfl rfl (by exact (by first | exact opd_pick_t rfl rfl rfl | exact opd_pick_f rfl rfl rfl)) ?_)
    all_goals (refine al_nil ?_)
    all_goals (exact ⟨⟨_, rfl, by (simp only [*, Bool.false_and, Bool.true_and, Bool.and_false, Bool.and_true, Bool.true_or, Bool.false_or, Bool.or_true, Bool.or_false, Bool.not_true, Bool.not_false]; done)⟩, rfl, rfl, rfl⟩)
  refine awp_cond rfl (fun hc1 => ?_) (fun hc1 => ?_)
  -- cond 1
  · have hn : ¬ (k = 1) ∧ ¬ (k = 2) ∧ ¬ (k = 3) ∧ ¬ (k = 4) ∧ ¬ (k = 5) := by
      simp only [Bool.or_eq_true, decide_eq_true_eq] at hc1
      omega
    refine awp_seq ?_
    refine awp_region ?_
    refine al_d rfl rfl rfl (by exact opd_assign rfl rfl) ?_
    refine al_nil ?_
    refine awp_ret ?_
    -- return
    refine aret1 (H' := []) (by exact .inr rfl) rfl (rval_tmp rfl) (Fin.wk (by simp) trivial trivial) ?_
    exact ⟨by simp only [gWord, hn.1, hn.2.1, hn.2.2.1, hn.2.2.2.1, hn.2.2.2.2, if_false], rfl⟩
  · have hb : 0 ≤ k ∧ k < 6 := by
      simp only [Bool.or_eq_false_iff, decide_eq_false_iff_not] at hc1
      omega
    refine awp_skip ?_
    refine awp_seq ?_
    refine awp_region ?_
    refine al_d rfl rfl rfl (by exact opd_move rfl rfl) ?_
    refine al_d rfl rfl rfl (by exact opd_index_arr (m := k.toNat) (k2 := k.toNat) rfl Tryz.underlying156 Tryz.sizeOf9 rfl rfl rfl rfl hb.1 rfl (by omega) (by omega)) ?_
    refine al_d rfl rfl rfl (by exact opd_load1_ref rfl Tryz.isAgg9 rfl rfl rfl rfl (word_at hb.1 hb.2)) ?_
    refine al_d rfl rfl rfl (by exact opd_assign rfl rfl) ?_
    refine al_nil ?_
    refine awp_ret ?_
    -- return
    refine aret1 (H' := []) (by exact .inr rfl) rfl (rval_tmp rfl) (Fin.wk (by simp) trivial trivial) ?_
    exact ⟨rfl, rfl⟩
def gLeast (k : Int) : Int := if k = 2 then 2 else if k = 3 then 3 else if k = 4 then 1 else if k = 5 then 3 else 0
theorem least_at {k : Int} (h0 : 0 ≤ k) (h1 : k < 6) : [iv 0, iv 0, iv 2, iv 3, iv 1, iv 3][k.toNat]? = some (iv (gLeast k)) := by
  rcases six h0 h1 with rfl | rfl | rfl | rfl | rfl | rfl <;> rfl
theorem least_c (k : Int) (H : Heap) (h0 : 0 ≤ k) (h1 : k < 6) : ACalls Tryz.prog 93 [iv k] H (fun r H' => r = iv (gLeast k) ∧ H' = H) := by
  refine ACalls.pure ?_ (by simp) H
  refine ACalls.body Tryz.func93 rfl Tryz.ntmps93 (Nat.le_of_ble_eq_true rfl) ?_
  refine awp_seq ?_
  refine awp_region ?_
  refine al_d rfl rfl rfl (by exact opd_assign rfl rfl) ?_
  refine al_nil ?_
  refine awp_seq ?_
  refine awp_region ?_
  refine al_d rfl rfl rfl (by exact x_build_arr rfl ao157 rfl rfl) ?_
  refine al_d rfl rfl rfl (by exact opd_move rfl rfl) ?_
  refine al_d rfl rfl rfl (by exact opd_index_agg (m := k.toNat) rfl Tryz.underlying157 Tryz.sizeOf3 Tryz.isAgg3 rfl rfl h0 rfl (by omega) (least_at h0 h1)) ?_
  refine al_d rfl rfl rfl (by exact opd_assign rfl rfl) ?_
  refine al_nil ?_
  refine awp_ret ?_
  -- return
  refine aret1 (H' := []) (by exact .inr rfl) rfl (rval_tmp rfl) (Fin.wk (by simp) trivial trivial) ?_
  exact ⟨rfl, rfl⟩
def gOn (x y : Int) : Bool := ((decide (0 ≤ x) && decide (x < 1048576)) && decide (0 ≤ y)) && decide (y < 1048576)
theorem on_c (x y : Int) (H : Heap) : ACalls Tryz.prog 95 [.agg [iv x, iv y]] H (fun r H' => r = bv (gOn x y) ∧ H' = H) := by
  refine ACalls.pure ?_ (by simp) H
  refine ACalls.body Tryz.func95 rfl Tryz.ntmps95 (Nat.le_of_ble_eq_true rfl) ?_
  refine awp_seq ?_
  refine awp_region ?_
  refine al_d rfl rfl rfl (by exact opd_box (id := 1) rfl rfl rfl rfl rfl) ?_
  refine al_d rfl rfl rfl (by exact opd_assign rfl rfl) ?_
  refine al_nil ?_
  refine awp_seq ?_
  refine awp_bool (t := 2) (n := 22) (X := gOn x y) ?_ ?_
  · all_goals (refine al_d rfl rfl rfl (by exact (by exact opd_field_ref rfl fo26_0 rfl rfl rfl rfl)) ?_)
    all_goals (refine al_d rfl rfl rfl (by exact (by exact opd_load1_ref rfl Tryz.isAgg3 rfl rfl rfl rfl rfl)) ?_)
    all_goals (refine al_d rfl rfl rfl (by exact opd_geq rfl rfl rfl) ?_)
    all_goals (refine al_d rfl rfl rfl (by exact opd_move rfl rfl) ?_)
    all_goals (refine al_split (t := 6) rfl (fun h6 => ?_) (fun h6 => ?_))
    all_goals (try contradiction)
    all_goals (first | refine al_off rfl rfl rfl rfl rfl ?_ | refine al_ond rfl rfl rfl rfl rfl rfl (by exact (by exact opd_field_ref rfl fo26_0 rfl rfl rfl rfl)) ?_)
    all_goals (first | refine al_off rfl rfl rfl rfl rfl ?_ | refine al_ond rfl rfl rfl rfl rfl rfl (by exact (by exact opd_load1_ref rfl Tryz.isAgg3 rfl rfl rfl rfl rfl)) ?_)
    all_goals (first | refine al_off rfl rfl rfl rfl rfl ?_ | refine al_ond rfl rfl rfl rfl rfl rfl (by exact opd_lss rfl rfl rfl) ?_)
    all_goals (refine al_d rfl rfl rfl (by exact (by first | exact opd_pick_t rfl rfl rfl | exact opd_pick_f rfl rfl rfl)) ?_)
    all_goals (refine al_d rfl rfl rfl (by exact opd_move rfl rfl) ?_)
    all_goals (refine al_split (t := 11) rfl (fun h11 => ?_) (fun h11 => ?_))
    all_goals (try contradiction)
    all_goals (first | refine al_off rfl rfl rfl rfl rfl ?_ | refine al_ond rfl rfl rfl rfl rfl rfl (by exact (by exact opd_field_ref rfl fo26_1 rfl rfl rfl rfl)) ?_)
    all_goals (first | refine al_off rfl rfl rfl rfl rfl ?_ | refine al_ond rfl rfl rfl rfl rfl rfl (by exact (by exact opd_load1_ref rfl Tryz.isAgg3 rfl rfl rfl rfl rfl)) ?_)
    all_goals (first | refine al_off rfl rfl rfl rfl rfl ?_ | refine al_ond rfl rfl rfl rfl rfl rfl (by exact opd_geq rfl rfl rfl) ?_)
    all_goals (refine al_d rfl rfl rfl (by exact (by first | exact opd_pick_t rfl rfl rfl | exact opd_pick_f rfl rfl rfl)) ?_)
    all_goals (refine al_d rfl rfl rfl (by exact opd_move rfl rfl) ?_)
    all_goals (refine al_split (t := 16) rfl (fun h16 => ?_) (fun h16 => ?_))
    all_goals (try contradiction)
    all_goals (first | refine al_off rfl rfl rfl rfl rfl ?_ | refine al_ond rfl rfl rfl rfl rfl rfl (by exact (by exact opd_field_ref rfl fo26_1 rfl rfl rfl rfl)) ?_)
    all_goals (first | refine al_off rfl rfl rfl rfl rfl ?_ | refine al_ond rfl rfl rfl rfl rfl rfl (by exact (by exact opd_load1_ref rfl Tryz.isAgg3 rfl rfl rfl rfl rfl)) ?_)
    all_goals (first | refine al_off rfl rfl rfl rfl rfl ?_ | refine al_ond rfl rfl rfl rfl rfl rfl (by exact opd_lss rfl rfl rfl) ?_)
    all_goals (refine al_d rfl rfl rfl (by exact (by first | exact opd_pick_t rfl rfl rfl | exact opd_pick_f rfl rfl rfl)) ?_)
    all_goals (refine al_d rfl rfl rfl (by exact opd_assign rfl rfl) ?_)
    all_goals (refine al_nil ?_)
    all_goals (exact ⟨⟨_, rfl, by (simp only [gOn, *]; rfl)⟩, rfl, rfl, rfl⟩)
  refine awp_ret ?_
  -- return
  refine aret1 (H' := []) (by exact .inr rfl) rfl (rval_tmp rfl) (Fin.wk (by simp) trivial trivial) ?_
  exact ⟨rfl, rfl⟩
end Go.Proofs.YtdcifaldfmpapaaGreat
end
section
set_option linter.unusedVariables false
set_option linter.unusedSimpArgs false
set_option maxRecDepth 100000
namespace Go.Proofs.YtdcifaldfmpapaaGreat
open Go.Abs
def gidxN (p : Nat → Bool) (n : Nat) : Int := match (List.range n).find? p with | some k => (k : Int) | none => -1
def stopN (p : Nat → Bool) (n : Nat) : Nat := match (List.range n).find? p with | some k => k + 1 | none => n
theorem findR_some {p : Nat → Bool} {n k : Nat} (hk : k < n) (hp : p k = true) (hno : ∀ j, j < k → p j = false) : (List.range n).find? p = some k := by
  rw [List.find?_range_eq_some]
  exact ⟨hp, by simpa using hk, fun j hj => by simp [hno j hj]⟩
theorem findR_none {p : Nat → Bool} {n : Nat} (hno : ∀ j, j < n → p j = false) : (List.range n).find? p = none := by
  rw [List.find?_eq_none]
  intro x hx
  simp [hno x (List.mem_range.1 hx)]
theorem indexFuncS (fv : AV) (l : List ByteArray) (p : Nat → Bool) (Hs : Nat → Heap) (hl : l.length < 4611686018427387904) (hf : ∀ k s, l[k]? = some s → CallsV Tryz.prog fv [sv s] (Hs k) (fun r H' => r = bv (p k) ∧ H' = Hs (k + 1))) :
    ACalls Tryz.prog 136 [.pv (slStrs l), fv] (Hs 0) (fun r H' => r = iv (gidxN p l.length) ∧ H' = Hs (stopN p l.length)) := by
  have hml : (l.map encStr).length = l.length := List.length_map _
  refine ACalls.body Tryz.func136 rfl Tryz.ntmps136 (Nat.le_of_ble_eq_true rfl) ?_
  refine awp_seq ?_
  refine awp_region ?_
  refine al_d rfl rfl rfl (by exact opd_assign rfl rfl) ?_
  refine al_nil ?_
  refine awp_seq ?_
  refine awp_seq ?_
  refine awp_region ?_
  refine al_d rfl rfl rfl (by exact opd_move rfl rfl) ?_
  refine al_d rfl rfl rfl (by exact (by exact opd_len_sl rfl Tryz.underlying27 rfl)) ?_
  refine al_d rfl rfl rfl (by exact opd_move rfl rfl) ?_
  refine al_nil ?_
  refine awp_block ?_
  -- loop
  refine awp_loop (σ := Nat) (fun k => ([(0, .pv (slStrs l)), (1, fv), (7, iv ((l.map encStr).length : Int)), (8, iv (k : Int))], Hs k)) (fun k => k ≤ l.length ∧ ∀ j, j < k → p j = false) (fun k => l.length - k) 0 ⟨by omega, by omega⟩ ?_ ?_
  · exact Ent.e0 ⟨⟨_, rfl, rfl⟩, ⟨_, rfl, rfl⟩, ⟨_, rfl, rfl⟩, ⟨_, rfl, rfl⟩, trivial⟩
  · rintro k ⟨hk, hno⟩
    refine awp_seq ?_
    refine awp_region ?_
    refine al_d rfl rfl rfl (by exact opd_lss rfl rfl rfl) ?_
    refine al_nil ?_
    refine awp_seq ?_
    refine awp_cond rfl (fun hc1 => ?_) (fun hc1 => ?_)
    -- cond 1
    · have hlt : k < l.length := by have := of_decide_eq_true hc1; omega
      obtain ⟨s, hs⟩ := get_of_lt hlt
      have hi := map_get (f := encStr) hs
      have hfo := hf k s hs
      refine awp_skip ?_
      refine awp_seq ?_
      refine awp_block ?_
      refine awp_seq ?_
      refine awp_region ?_
      refine al_d rfl rfl rfl (by exact opd_move rfl rfl) ?_
      refine al_d rfl rfl rfl (by exact opd_assign rfl rfl) ?_
      refine al_nil ?_
      refine awp_seq ?_
      refine awp_region ?_
      refine al_d rfl rfl rfl (by exact opd_move rfl rfl) ?_
      refine al_d rfl rfl rfl (by exact opd_move rfl rfl) ?_
      refine al_d rfl rfl rfl (by exact opd_move rfl rfl) ?_
      refine al_d rfl rfl rfl (by exact (by exact x_index_pad rfl so27 rfl rfl (by omega) (by exact Int.toNat_natCast _) (by assumption) rfl)) ?_
      refine al_d rfl rfl rfl (by exact (by exact opd_load1_pad rfl Tryz.isAgg9 rfl (by omega) rfl)) ?_
      refine al_d rfl rfl rfl (by exact opr_callV rfl rfl rfl (hfo)) ?_
      refine al_nil ?_
      refine awp_cond rfl (fun hc2 => ?_) (fun hc2 => ?_)
      -- cond 2
      · skip
        refine awp_seq ?_
        refine awp_region ?_
        refine al_d rfl rfl rfl (by exact opd_move rfl rfl) ?_
        refine al_d rfl rfl rfl (by exact opd_assign rfl rfl) ?_
        refine al_nil ?_
        refine awp_ret ?_
        -- return
        exact aret1 (H' := Hs (k + 1)) (.inr rfl) rfl (rval_tmp rfl) Fin.refl ⟨by rw [gidxN, findR_some hlt hc2 hno], by rw [stopN, findR_some hlt hc2 hno]⟩
      · skip
        refine awp_skip ?_
        refine awp_region ?_
        refine al_d rfl rfl rfl (by exact opd_add rfl rfl rfl (by exact w64 (by omega) (by omega))) ?_
        refine al_d rfl rfl rfl (by exact opd_move rfl rfl) ?_
        refine al_nil ?_
        -- end of a round
        refine ⟨k + 1, ⟨by omega, fun j hj => ?_⟩, by omega, Ent.e0 ⟨⟨_, rfl, rfl⟩, ⟨_, rfl, rfl⟩, ⟨_, rfl, rfl⟩, ⟨_, rfl, rfl⟩, trivial⟩⟩
        by_cases e : j = k
        · subst e; exact hc2
        · exact hno j (by omega)
    · have hge : k = l.length := by have := of_decide_eq_false hc1; omega
      subst hge
      refine awp_exit ?_
      refine awp_seq ?_
      refine awp_region ?_
      refine al_d rfl rfl rfl (by exact opd_assign rfl rfl) ?_
      refine al_nil ?_
      refine awp_ret ?_
      -- return
      exact aret1 (H' := Hs l.length) (.inr rfl) rfl (rval_tmp rfl) Fin.refl ⟨by rw [gidxN, findR_none hno], by rw [stopN, findR_none hno]⟩
theorem gidxN_any (p : Nat → Bool) (n : Nat) : decide (0 ≤ gidxN p n) = (List.range n).any p := by
  unfold gidxN
  cases h : (List.range n).find? p with
  | none =>
    have : (List.range n).any p = false := by
      rw [List.find?_eq_none] at h
      rw [List.any_eq_false]
      exact h
    simp [this]
  | some i =>
    have : (List.range n).any p = true := List.any_eq_true.2 ⟨i, List.mem_of_find?_eq_some h, List.find?_some h⟩
    simp [this]
theorem containsFuncS (fv : AV) (l : List ByteArray) (p : Nat → Bool) (Hs : Nat → Heap) (hl : l.length < 4611686018427387904) (hf : ∀ k s, l[k]? = some s → CallsV Tryz.prog fv [sv s] (Hs k) (fun r H' => r = bv (p k) ∧ H' = Hs (k + 1))) :
    ACalls Tryz.prog 88 [.pv (slStrs l), fv] (Hs 0) (fun r H' => r = bv ((List.range l.length).any p) ∧ H' = Hs (stopN p l.length)) := by
  refine ACalls.body Tryz.func88 rfl Tryz.ntmps88 (Nat.le_of_ble_eq_true rfl) ?_
  refine awp_seq ?_
  refine awp_region ?_
  refine al_d rfl rfl rfl (by exact opd_assign rfl rfl) ?_
  refine al_nil ?_
  refine awp_seq ?_
  refine awp_region ?_
  refine al_d rfl rfl rfl (by exact opd_move rfl rfl) ?_
  refine al_d rfl rfl rfl (by exact opd_move rfl rfl) ?_
  refine al_d rfl rfl rfl (by exact opr_call rfl rfl Tryz.call136 rfl (indexFuncS fv l p Hs hl hf)) ?_
  refine al_d rfl rfl rfl (by exact opd_geq rfl rfl rfl) ?_
  refine al_d rfl rfl rfl (by exact opd_assign rfl rfl) ?_
  refine al_nil ?_
  refine awp_ret ?_
  -- return
  exact aret1 (H' := Hs (stopN p l.length)) (.inr rfl) rfl (rval_tmp rfl) Fin.refl ⟨by rw [gidxN_any], rfl⟩
end Go.Proofs.YtdcifaldfmpapaaGreat
end
section
set_option linter.unusedVariables false
set_option linter.unusedSimpArgs false
set_option maxRecDepth 100000
namespace Go.Proofs.YtdcifaldfmpapaaGreat
open Go.Abs

theorem sob_clo (L : List ByteArray) (H : Heap) : ∀ r ∈ (sob L).rows, ∀ a ∈ r, Clo H a := by
  intro r hr a ha
  obtain ⟨i, hi⟩ := List.mem_iff_getElem?.1 hr
  obtain ⟨p, hp, rfl⟩ := mrows_get.1 hi
  simp only [sets, List.getElem?_map] at hp
  obtain ⟨q, _, rfl⟩ := Option.map_eq_some_iff.1 hp
  simp only [List.mem_cons, List.not_mem_nil, or_false] at ha
  rcases ha with rfl | rfl | rfl <;> simp
def vH (o : GObj) (last : ByteArray) (L : List ByteArray) : Heap := [(37, sob L), (4, bx 1 9 [sv last]), (3, bx 1 59 [.mp 37 0]), (1, bx 6 30 ((encObj o).map .pv))]
theorem vH_clo (o : GObj) (a : ByteArray) (L : List ByteArray) (f : Nat) : Clo (vH o a L) (.clo f [.ref 1 0 0 0, .ref 4 0 0 0, .ref 3 0 0 0]) := by
  refine .clo fun x hx => ?_
  simp only [List.mem_cons, List.not_mem_nil, or_false] at hx
  rcases hx with rfl | rfl | rfl <;> exact .ref rfl
def gTwice (o : GObj) (last : ByteArray) (L : List ByteArray) (s : ByteArray) : Bool := (decide (o.kind = 2) && decide (s = last)) || (decide (o.kind = 3) && inB L s)
def gWrong (o : GObj) (last : ByteArray) (L : List ByteArray) (s : ByteArray) : Bool := gTwice o last L s || !gName s
theorem valid1_c (o : GObj) (last s : ByteArray) (L : List ByteArray) (hs : s.size < 4611686018427387904) :
    ACalls Tryz.prog 94 [sv s, .ref 1 0 0 0, .ref 4 0 0 0, .ref 3 0 0 0] (vH o last L) (fun r H' => r = bv (gWrong o last L s) ∧ H' = vH o s (sput L s)) := by
  unfold vH
  refine ACalls.body Tryz.func94 rfl Tryz.ntmps94 (Nat.le_of_ble_eq_true rfl) ?_
  refine awp_seq ?_
  refine awp_region ?_
  refine al_d rfl rfl rfl (by exact opd_assign rfl rfl) ?_
  refine al_nil ?_
  refine awp_seq ?_
  refine awp_bool (t := 6) (n := 22) (X := gTwice o last L s) ?_ ?_
  · all_goals (refine al_d rfl rfl rfl (by exact (by exact opd_field_ref rfl fo30_1 rfl rfl rfl rfl)) ?_)
    all_goals (refine al_d rfl rfl rfl (by exact (by exact opd_load1_ref rfl Tryz.isAgg3 rfl rfl rfl rfl rfl)) ?_)
    all_goals (refine al_d rfl rfl rfl (by exact opd_eql rfl rfl rfl) ?_)
    all_goals (refine al_d rfl rfl rfl (by exact opd_move rfl rfl) ?_)
    all_goals (refine al_split (t := 10) rfl (fun h10 => ?_) (fun h10 => ?_))
    all_goals (try contradiction)
    all_goals (first | refine al_off rfl rfl rfl rfl rfl ?_ | refine al_ond rfl rfl rfl rfl rfl rfl (by exact opd_move rfl rfl) ?_)
    all_goals (first | refine al_off rfl rfl rfl rfl rfl ?_ | refine al_ond rfl rfl rfl rfl rfl rfl (by exact (by exact opd_load1_ref rfl Tryz.isAgg9 rfl rfl rfl rfl rfl)) ?_)
    all_goals (first | refine al_off rfl rfl rfl rfl rfl ?_ | refine al_ond rfl rfl rfl rfl rfl rfl (by exact opd_seql rfl rfl rfl) ?_)
    all_goals (refine al_d rfl rfl rfl (by exact (by first | exact opd_pick_t rfl rfl rfl | exact opd_pick_f rfl rfl rfl)) ?_)
    all_goals (refine al_d rfl rfl rfl (by exact opd_move rfl rfl) ?_)
    all_goals (refine al_split (t := 15) rfl (fun h15 => ?_) (fun h15 => ?_))
    all_goals (try contradiction)
    all_goals (first | refine al_off rfl rfl rfl rfl rfl ?_ | refine al_ond rfl rfl rfl rfl rfl rfl (by exact (by exact opd_field_ref rfl fo30_1 rfl rfl rfl rfl)) ?_)
    all_goals (first | refine al_off rfl rfl rfl rfl rfl ?_ | refine al_ond rfl rfl rfl rfl rfl rfl (by exact (by exact opd_load1_ref rfl Tryz.isAgg3 rfl rfl rfl rfl rfl)) ?_)
    all_goals (first | refine al_off rfl rfl rfl rfl rfl ?_ | refine al_ond rfl rfl rfl rfl rfl rfl (by exact opd_eql rfl rfl rfl) ?_)
    all_goals (first | refine al_off rfl rfl rfl rfl rfl ?_ | refine al_ond rfl rfl rfl rfl rfl rfl (by exact opd_move rfl rfl) ?_)
    all_goals (first | refine al_split (t := 19) rfl (fun h19 => ?_) (fun h19 => ?_) | refine al_dup (t := 19) rfl ?_)
    all_goals (try contradiction)
    all_goals (first | refine al_off rfl rfl rfl rfl rfl ?_ | refine al_offu rfl rfl rfl rfl ?_ | refine al_ond rfl rfl rfl rfl rfl rfl (by exact (by exact opd_load1_ref rfl Tryz.isAgg59 rfl rfl rfl rfl rfl)) ?_)
    all_goals (first | refine al_off rfl rfl rfl rfl rfl ?_ | refine al_offu rfl rfl rfl rfl ?_ | refine al_ond rfl rfl rfl rfl rfl rfl (by exact opd_move rfl rfl) ?_)
    all_goals (first | refine al_off rfl rfl rfl rfl rfl ?_ | refine al_offu rfl rfl rfl rfl ?_ | refine al_ond rfl rfl rfl rfl rfl rfl (by exact x_lookup_set rfl Tryz.underlying59 Tryz.underlying9 rfl rfl rfl rfl rfl Tryz.zeroValue4 (.inl rfl)) ?_)
    all_goals (first | refine al_off rfl rfl rfl rfl rfl ?_ | refine al_ond rfl rfl rfl rfl rfl rfl (by exact (by first | exact opd_pick_t rfl rfl rfl | exact opd_pick_f rfl rfl rfl)) ?_)
    all_goals (refine al_d rfl rfl rfl (by exact (by first | exact opd_pick_t rfl rfl rfl | exact opd_pick_f rfl rfl rfl)) ?_)
    all_goals (refine al_d rfl rfl rfl (by exact opd_assign rfl rfl) ?_)
    all_goals (refine al_nil ?_)
    all_goals (exact ⟨⟨_, rfl, by (simp only [gTwice, *]; rfl)⟩, rfl, rfl, rfl⟩)
  refine awp_seq ?_
  refine awp_region ?_
  refine al_d rfl rfl rfl (by exact (by exact opd_load1_ref rfl Tryz.isAgg59 rfl rfl rfl rfl rfl)) ?_
  refine al_d rfl rfl rfl (by exact opd_move rfl rfl) ?_
  refine al_d rfl rfl rfl (by exact opd_move rfl rfl) ?_
  refine al_n rfl rfl (by exact x_put_set (.inl rfl) Tryz.underlying59 Tryz.underlying9 rfl rfl rfl rfl rfl rfl rfl) ?_
  refine al_n rfl rfl (by exact (by exact x_store_all rfl Tryz.sizeOf9 rfl rfl rfl rfl rfl rfl rfl rfl)) ?_
  refine al_nil ?_
  refine awp_seq ?_
  -- guard at a region with tests: %bool 5 := ..
  refine awp_bool (t := 5) (n := 8) (X := gTwice o last L s || !gName s) ?_ ?_
  · all_goals (refine al_d rfl rfl rfl (by exact opd_move rfl rfl) ?_)
    all_goals (refine al_d rfl rfl rfl (by exact opd_move rfl rfl) ?_)
    all_goals (refine al_split (t := 29) rfl (fun h29 => ?_) (fun h29 => ?_))
    all_goals (try contradiction)
    all_goals (first | refine al_off rfl rfl rfl rfl rfl ?_ | refine al_ond rfl rfl rfl rfl rfl rfl (by exact opd_move rfl rfl) ?_)
    all_goals (first | refine al_off rfl rfl rfl rfl rfl ?_ | refine al_ond rfl rfl rfl rfl rfl rfl (by exact opr_call rfl rfl Tryz.call90 rfl (name_c s _ hs)) ?_)
    all_goals (first | refine al_off rfl rfl rfl rfl rfl ?_ | refine al_ond rfl rfl rfl rfl rfl rfl (by exact opd_not rfl rfl) ?_)
    all_goals (refine al_d rfl rfl rfl (by exact (by first | exact opd_pick_t rfl rfl rfl | exact opd_pick_f rfl rfl rfl)) ?_)
    all_goals (refine al_d rfl rfl rfl (by exact opd_assign rfl rfl) ?_)
    all_goals (refine al_nil ?_)
    all_goals (exact ⟨⟨_, rfl, by (simp only [*]; rfl)⟩, rfl, rfl, rfl⟩)
  refine awp_ret ?_
  -- return
  refine aret1 (H' := vH o s (sput L s)) (.inr rfl) rfl (rval_tmp rfl) (Fin.wk (by (simp; done)) ⟨⟨_, rfl, rfl⟩, (by exact sob_clo _ _), ⟨_, rfl, rfl⟩, (by (simp; done)), ⟨_, rfl, rfl⟩, (by (simp; rfl)), ⟨_, rfl, rfl⟩, (by (simp; done)), trivial⟩ ⟨rfl, rfl, rfl, rfl, trivial⟩) ?_
  exact ⟨rfl, rfl⟩
/-- The keys that have come. -/
def seenL (l : List ByteArray) : Nat → List ByteArray
  | 0 => []
  | k + 1 => sput (seenL l k) ((l[k]?).getD sNil)
def wrongAt (o : GObj) (k : Nat) : Bool := match o.refs[k]? with
  | some s => gWrong o (before id o.refs k) (seenL o.refs k) s
  | none => false
def gKind (o : GObj) : Bool := if o.kind = 1 then decide ((o.refs.length : Int) = 0) && gOn o.x o.y else if o.kind = 5 then decide ((o.refs.length : Int) = 3) && (decide (o.x = 0) && decide (o.y = 0)) else decide (o.x = 0) && decide (o.y = 0)
def gHeadN (o : GObj) (n : Int) : Bool := decide (gWord o.kind = sNil) || !gName o.id || !gTags o.tags || decide (n < gLeast o.kind) || decide (2000 < n)
def gHead (o : GObj) : Bool := gHeadN o (o.refs.length : Int)
def gObj (o : GObj) : Bool := !gHead o && (!((List.range o.refs.length).any (wrongAt o)) && gKind o)
def okO (o : GObj) : Prop := o.id.size < 4611686018427387904 ∧ okTags o.tags ∧ o.refs.length < 4611686018427387904 ∧ ∀ s ∈ o.refs, s.size < 4611686018427387904
theorem word_kind {k : Int} (h : decide (gWord k = sNil) = false) : 0 ≤ k ∧ k < 6 := by
  by_cases h0 : 0 ≤ k ∧ k < 6
  · exact h0
  · have : gWord k = sNil := by
      have hn : ¬ (k = 1) ∧ ¬ (k = 2) ∧ ¬ (k = 3) ∧ ¬ (k = 4) ∧ ¬ (k = 5) := by omega
      simp only [gWord, hn.1, hn.2.1, hn.2.2.1, hn.2.2.2.1, hn.2.2.2.2, if_false]
    rw [this] at h
    simp at h
theorem objValid_c (o : GObj) (H : Heap) (ho : okO o) : ACalls Tryz.prog 44 [av (encObj o)] H (fun r H' => r = bv (gObj o) ∧ H' = H) := by
  refine ACalls.pure ?_ (by simp) H
  obtain ⟨h1, h2, h3, h4⟩ := ho
  have hml : (o.refs.map encStr).length = o.refs.length := List.length_map _
  refine ACalls.body Tryz.func44 rfl Tryz.ntmps44 (Nat.le_of_ble_eq_true rfl) ?_
  refine awp_seq ?_
  refine awp_region ?_
  refine al_d rfl rfl rfl (by exact opd_box (id := 1) rfl rfl rfl rfl rfl) ?_
  refine al_d rfl rfl rfl (by exact opd_assign rfl rfl) ?_
  refine al_nil ?_
  refine awp_seq ?_
  refine awp_seq ?_
  refine awp_mergeR (t := 36) (n := 31) (X := gHeadN o ((o.refs.map encStr).length : Int)) ?_ ?_
  · cases hg10 : (decide (gWord o.kind = sNil) : Bool)
    · cases hg16 : (!gName o.id : Bool)
      · cases hg22 : (!gTags o.tags : Bool)
        · cases hg31 : (decide (((o.refs.map encStr).length : Int) < gLeast o.kind) : Bool)
          · refine awp_drawc follows ?_
            refine dc_cons (DStep.q rfl (by exact (by exact opd_field_ref rfl fo30_1 rfl rfl rfl rfl))) rfl ?_
            refine dc_cons (DStep.q rfl (by exact (by exact opd_load1_ref rfl Tryz.isAgg3 rfl rfl rfl rfl rfl))) rfl ?_
            refine dc_cons (DStep.q rfl (by exact opr_call rfl rfl Tryz.call91 rfl (word_c o.kind _))) rfl ?_
            refine dc_cons (DStep.q rfl (by exact opd_seql rfl rfl rfl)) rfl ?_
            refine dc_cons (DStep.q rfl (by exact opd_move rfl rfl)) rfl ?_
            refine dc_cons (q_on_f rfl rfl rfl (by assumption) (by exact (by exact opd_field_ref rfl fo30_0 rfl rfl rfl rfl))) rfl ?_
            refine dc_cons (q_on_f rfl rfl rfl (by assumption) (by exact (by exact opd_load1_ref rfl Tryz.isAgg9 rfl rfl rfl rfl rfl))) rfl ?_
            refine dc_cons (q_on_f rfl rfl rfl (by assumption) (by exact opr_call rfl rfl Tryz.call90 rfl (name_c o.id _ h1))) rfl ?_
            refine dc_cons (q_on_f rfl rfl rfl (by assumption) (by exact opd_not rfl rfl)) rfl ?_
            refine dc_cons (DStep.q rfl (by exact (by exact opd_pickf rfl rfl (by assumption) rfl))) rfl ?_
            refine dc_cons (DStep.q rfl (by exact opd_move rfl rfl)) rfl ?_
            refine dc_cons (q_on_f rfl rfl rfl (by assumption) (by exact (by exact opd_field_ref rfl fo30_4 rfl rfl rfl rfl))) rfl ?_
            refine dc_cons (q_on_f rfl rfl rfl (by assumption) (by exact (by exact opd_load1_ref rfl Tryz.isAgg28 rfl rfl rfl rfl rfl))) rfl ?_
            refine dc_cons (q_on_f rfl rfl rfl (by assumption) (by exact opr_call rfl rfl Tryz.call92 rfl (tagValid_c o.tags _ h2))) rfl ?_
            refine dc_cons (q_on_f rfl rfl rfl (by assumption) (by exact opd_not rfl rfl)) rfl ?_
            refine dc_cons (DStep.q rfl (by exact (by exact opd_pickf rfl rfl (by assumption) rfl))) rfl ?_
            refine dc_cons (DStep.q rfl (by exact opd_move rfl rfl)) rfl ?_
            refine dc_cons (q_on_f rfl rfl rfl (by assumption) (by exact (by exact opd_field_ref rfl fo30_3 rfl rfl rfl rfl))) rfl ?_
            refine dc_cons (q_on_f rfl rfl rfl (by assumption) (by exact (by exact opd_load1_ref rfl Tryz.isAgg27 rfl rfl rfl rfl rfl))) rfl ?_
            refine dc_cons (q_on_f rfl rfl rfl (by assumption) (by exact (by exact opd_len_sl rfl Tryz.underlying27 rfl))) rfl ?_
            refine dc_cons (q_on_f rfl rfl rfl (by assumption) (by exact (by exact opd_field_ref rfl fo30_1 rfl rfl rfl rfl))) rfl ?_
            refine dc_cons (q_on_f rfl rfl rfl (by assumption) (by exact (by exact opd_load1_ref rfl Tryz.isAgg3 rfl rfl rfl rfl rfl))) rfl ?_
            refine dc_cons (q_on_f rfl rfl rfl (by assumption) (by exact opr_call rfl rfl Tryz.call93 rfl (least_c o.kind _ (word_kind hg10).1 (word_kind hg10).2))) rfl ?_
            refine dc_cons (q_on_f rfl rfl rfl (by assumption) (by exact opd_lss rfl rfl rfl)) rfl ?_
            refine dc_cons (DStep.q rfl (by exact (by exact opd_pickf rfl rfl (by assumption) rfl))) rfl ?_
            refine dc_cons (DStep.q rfl (by exact opd_move rfl rfl)) rfl ?_
            refine dc_cons (q_on_f rfl rfl rfl (by assumption) (by exact (by exact opd_field_ref rfl fo30_3 rfl rfl rfl rfl))) rfl ?_
            refine dc_cons (q_on_f rfl rfl rfl (by assumption) (by exact (by exact opd_load1_ref rfl Tryz.isAgg27 rfl rfl rfl rfl rfl))) rfl ?_
            refine dc_cons (q_on_f rfl rfl rfl (by assumption) (by exact (by exact opd_len_sl rfl Tryz.underlying27 rfl))) rfl ?_
            refine dc_cons (q_on_f rfl rfl rfl (by assumption) (by exact opd_gtr rfl rfl rfl)) rfl ?_
            refine dc_cons (DStep.q rfl (by exact (by exact opd_pickf rfl rfl (by assumption) rfl))) rfl ?_
            refine dc_nil ⟨by kernel_rfl, ?_⟩
            exact ⟨rfl, ⟨_, rfl, by (simp only [gHeadN, hg10, hg16, hg22, hg31]; rfl)⟩, rfl, rfl, rfl⟩
          · refine awp_drawc follows ?_
            refine dc_cons (DStep.q rfl (by exact (by exact opd_field_ref rfl fo30_1 rfl rfl rfl rfl))) rfl ?_
            refine dc_cons (DStep.q rfl (by exact (by exact opd_load1_ref rfl Tryz.isAgg3 rfl rfl rfl rfl rfl))) rfl ?_
            refine dc_cons (DStep.q rfl (by exact opr_call rfl rfl Tryz.call91 rfl (word_c o.kind _))) rfl ?_
            refine dc_cons (DStep.q rfl (by exact opd_seql rfl rfl rfl)) rfl ?_
            refine dc_cons (DStep.q rfl (by exact opd_move rfl rfl)) rfl ?_
            refine dc_cons (q_on_f rfl rfl rfl (by assumption) (by exact (by exact opd_field_ref rfl fo30_0 rfl rfl rfl rfl))) rfl ?_
            refine dc_cons (q_on_f rfl rfl rfl (by assumption) (by exact (by exact opd_load1_ref rfl Tryz.isAgg9 rfl rfl rfl rfl rfl))) rfl ?_
            refine dc_cons (q_on_f rfl rfl rfl (by assumption) (by exact opr_call rfl rfl Tryz.call90 rfl (name_c o.id _ h1))) rfl ?_
            refine dc_cons (q_on_f rfl rfl rfl (by assumption) (by exact opd_not rfl rfl)) rfl ?_
            refine dc_cons (DStep.q rfl (by exact (by exact opd_pickf rfl rfl (by assumption) rfl))) rfl ?_
            refine dc_cons (DStep.q rfl (by exact opd_move rfl rfl)) rfl ?_
            refine dc_cons (q_on_f rfl rfl rfl (by assumption) (by exact (by exact opd_field_ref rfl fo30_4 rfl rfl rfl rfl))) rfl ?_
            refine dc_cons (q_on_f rfl rfl rfl (by assumption) (by exact (by exact opd_load1_ref rfl Tryz.isAgg28 rfl rfl rfl rfl rfl))) rfl ?_
            refine dc_cons (q_on_f rfl rfl rfl (by assumption) (by exact opr_call rfl rfl Tryz.call92 rfl (tagValid_c o.tags _ h2))) rfl ?_
            refine dc_cons (q_on_f rfl rfl rfl (by assumption) (by exact opd_not rfl rfl)) rfl ?_
            refine dc_cons (DStep.q rfl (by exact (by exact opd_pickf rfl rfl (by assumption) rfl))) rfl ?_
            refine dc_cons (DStep.q rfl (by exact opd_move rfl rfl)) rfl ?_
            refine dc_cons (q_on_f rfl rfl rfl (by assumption) (by exact (by exact opd_field_ref rfl fo30_3 rfl rfl rfl rfl))) rfl ?_
            refine dc_cons (q_on_f rfl rfl rfl (by assumption) (by exact (by exact opd_load1_ref rfl Tryz.isAgg27 rfl rfl rfl rfl rfl))) rfl ?_
            refine dc_cons (q_on_f rfl rfl rfl (by assumption) (by exact (by exact opd_len_sl rfl Tryz.underlying27 rfl))) rfl ?_
            refine dc_cons (q_on_f rfl rfl rfl (by assumption) (by exact (by exact opd_field_ref rfl fo30_1 rfl rfl rfl rfl))) rfl ?_
            refine dc_cons (q_on_f rfl rfl rfl (by assumption) (by exact (by exact opd_load1_ref rfl Tryz.isAgg3 rfl rfl rfl rfl rfl))) rfl ?_
            refine dc_cons (q_on_f rfl rfl rfl (by assumption) (by exact opr_call rfl rfl Tryz.call93 rfl (least_c o.kind _ (word_kind hg10).1 (word_kind hg10).2))) rfl ?_
            refine dc_cons (q_on_f rfl rfl rfl (by assumption) (by exact opd_lss rfl rfl rfl)) rfl ?_
            refine dc_cons (DStep.q rfl (by exact (by exact opd_pickf rfl rfl (by assumption) rfl))) rfl ?_
            refine dc_cons (DStep.q rfl (by exact opd_move rfl rfl)) rfl ?_
            refine dc_cons (q_off_f rfl rfl rfl (by assumption)) rfl ?_
            refine dc_cons (q_off_f rfl rfl rfl (by assumption)) rfl ?_
            refine dc_cons (q_off_f rfl rfl rfl (by assumption)) rfl ?_
            refine dc_cons (q_off_f rfl rfl rfl (by assumption)) rfl ?_
            refine dc_cons (DStep.q rfl (by exact (by exact opd_pickt rfl rfl (by assumption) rfl))) rfl ?_
            refine dc_nil ⟨by kernel_rfl, ?_⟩
            exact ⟨rfl, ⟨_, rfl, by (simp only [gHeadN, hg10, hg16, hg22, hg31]; rfl)⟩, rfl, rfl, rfl⟩
        · refine awp_drawc follows ?_
          refine dc_cons (DStep.q rfl (by exact (by exact opd_field_ref rfl fo30_1 rfl rfl rfl rfl))) rfl ?_
          refine dc_cons (DStep.q rfl (by exact (by exact opd_load1_ref rfl Tryz.isAgg3 rfl rfl rfl rfl rfl))) rfl ?_
          refine dc_cons (DStep.q rfl (by exact opr_call rfl rfl Tryz.call91 rfl (word_c o.kind _))) rfl ?_
          refine dc_cons (DStep.q rfl (by exact opd_seql rfl rfl rfl)) rfl ?_
          refine dc_cons (DStep.q rfl (by exact opd_move rfl rfl)) rfl ?_
          refine dc_cons (q_on_f rfl rfl rfl (by assumption) (by exact (by exact opd_field_ref rfl fo30_0 rfl rfl rfl rfl))) rfl ?_
          refine dc_cons (q_on_f rfl rfl rfl (by assumption) (by exact (by exact opd_load1_ref rfl Tryz.isAgg9 rfl rfl rfl rfl rfl))) rfl ?_
          refine dc_cons (q_on_f rfl rfl rfl (by assumption) (by exact opr_call rfl rfl Tryz.call90 rfl (name_c o.id _ h1))) rfl ?_
          refine dc_cons (q_on_f rfl rfl rfl (by assumption) (by exact opd_not rfl rfl)) rfl ?_
          refine dc_cons (DStep.q rfl (by exact (by exact opd_pickf rfl rfl (by assumption) rfl))) rfl ?_
          refine dc_cons (DStep.q rfl (by exact opd_move rfl rfl)) rfl ?_
          refine dc_cons (q_on_f rfl rfl rfl (by assumption) (by exact (by exact opd_field_ref rfl fo30_4 rfl rfl rfl rfl))) rfl ?_
          refine dc_cons (q_on_f rfl rfl rfl (by assumption) (by exact (by exact opd_load1_ref rfl Tryz.isAgg28 rfl rfl rfl rfl rfl))) rfl ?_
          refine dc_cons (q_on_f rfl rfl rfl (by assumption) (by exact opr_call rfl rfl Tryz.call92 rfl (tagValid_c o.tags _ h2))) rfl ?_
          refine dc_cons (q_on_f rfl rfl rfl (by assumption) (by exact opd_not rfl rfl)) rfl ?_
          refine dc_cons (DStep.q rfl (by exact (by exact opd_pickf rfl rfl (by assumption) rfl))) rfl ?_
          refine dc_cons (DStep.q rfl (by exact opd_move rfl rfl)) rfl ?_
          refine dc_cons (q_off_f rfl rfl rfl (by assumption)) rfl ?_
          refine dc_cons (q_off_f rfl rfl rfl (by assumption)) rfl ?_
          refine dc_cons (q_off_f rfl rfl rfl (by assumption)) rfl ?_
          refine dc_cons (q_off_f rfl rfl rfl (by assumption)) rfl ?_
          refine dc_cons (q_off_f rfl rfl rfl (by assumption)) rfl ?_
          refine dc_cons (q_off_f rfl rfl rfl (by assumption)) rfl ?_
          refine dc_cons (q_off_f rfl rfl rfl (by assumption)) rfl ?_
          refine dc_cons (DStep.q rfl (by exact (by exact opd_pickt rfl rfl (by assumption) rfl))) rfl ?_
          refine dc_cons (DStep.q rfl (by exact opd_move rfl rfl)) rfl ?_
          refine dc_cons (q_off_f rfl rfl rfl (by rfl)) rfl ?_
          refine dc_cons (q_off_f rfl rfl rfl (by rfl)) rfl ?_
          refine dc_cons (q_off_f rfl rfl rfl (by rfl)) rfl ?_
          refine dc_cons (q_off_f rfl rfl rfl (by rfl)) rfl ?_
          refine dc_cons (DStep.q rfl (by exact (by exact opd_pick_t rfl rfl rfl))) rfl ?_
          refine dc_nil ⟨by kernel_rfl, ?_⟩
          exact ⟨rfl, ⟨_, rfl, by (simp only [gHeadN, *]; rfl)⟩, rfl, rfl, rfl⟩
      · refine awp_drawc follows ?_
        refine dc_cons (DStep.q rfl (by exact (by exact opd_field_ref rfl fo30_1 rfl rfl rfl rfl))) rfl ?_
        refine dc_cons (DStep.q rfl (by exact (by exact opd_load1_ref rfl Tryz.isAgg3 rfl rfl rfl rfl rfl))) rfl ?_
        refine dc_cons (DStep.q rfl (by exact opr_call rfl rfl Tryz.call91 rfl (word_c o.kind _))) rfl ?_
        refine dc_cons (DStep.q rfl (by exact opd_seql rfl rfl rfl)) rfl ?_
        refine dc_cons (DStep.q rfl (by exact opd_move rfl rfl)) rfl ?_
        refine dc_cons (q_on_f rfl rfl rfl (by assumption) (by exact (by exact opd_field_ref rfl fo30_0 rfl rfl rfl rfl))) rfl ?_
        refine dc_cons (q_on_f rfl rfl rfl (by assumption) (by exact (by exact opd_load1_ref rfl Tryz.isAgg9 rfl rfl rfl rfl rfl))) rfl ?_
        refine dc_cons (q_on_f rfl rfl rfl (by assumption) (by exact opr_call rfl rfl Tryz.call90 rfl (name_c o.id _ h1))) rfl ?_
        refine dc_cons (q_on_f rfl rfl rfl (by assumption) (by exact opd_not rfl rfl)) rfl ?_
        refine dc_cons (DStep.q rfl (by exact (by exact opd_pickf rfl rfl (by assumption) rfl))) rfl ?_
        refine dc_cons (DStep.q rfl (by exact opd_move rfl rfl)) rfl ?_
        refine dc_cons (q_off_f rfl rfl rfl (by assumption)) rfl ?_
        refine dc_cons (q_off_f rfl rfl rfl (by assumption)) rfl ?_
        refine dc_cons (q_off_f rfl rfl rfl (by assumption)) rfl ?_
        refine dc_cons (q_off_f rfl rfl rfl (by assumption)) rfl ?_
        refine dc_cons (DStep.q rfl (by exact (by exact opd_pickt rfl rfl (by assumption) rfl))) rfl ?_
        refine dc_cons (DStep.q rfl (by exact opd_move rfl rfl)) rfl ?_
        refine dc_cons (q_off_f rfl rfl rfl (by rfl)) rfl ?_
        refine dc_cons (q_off_f rfl rfl rfl (by rfl)) rfl ?_
        refine dc_cons (q_off_f rfl rfl rfl (by rfl)) rfl ?_
        refine dc_cons (q_off_f rfl rfl rfl (by rfl)) rfl ?_
        refine dc_cons (q_off_f rfl rfl rfl (by rfl)) rfl ?_
        refine dc_cons (q_off_f rfl rfl rfl (by rfl)) rfl ?_
        refine dc_cons (q_off_f rfl rfl rfl (by rfl)) rfl ?_
        refine dc_cons (DStep.q rfl (by exact (by exact opd_pick_t rfl rfl rfl))) rfl ?_
        refine dc_cons (DStep.q rfl (by exact opd_move rfl rfl)) rfl ?_
        refine dc_cons (q_off_f rfl rfl rfl (by rfl)) rfl ?_
        refine dc_cons (q_off_f rfl rfl rfl (by rfl)) rfl ?_
        refine dc_cons (q_off_f rfl rfl rfl (by rfl)) rfl ?_
        refine dc_cons (q_off_f rfl rfl rfl (by rfl)) rfl ?_
        refine dc_cons (DStep.q rfl (by exact (by exact opd_pick_t rfl rfl rfl))) rfl ?_
        refine dc_nil ⟨by kernel_rfl, ?_⟩
        exact ⟨rfl, ⟨_, rfl, by (simp only [gHeadN, *]; rfl)⟩, rfl, rfl, rfl⟩
    · refine awp_drawc follows ?_
      refine dc_cons (DStep.q rfl (by exact (by exact opd_field_ref rfl fo30_1 rfl rfl rfl rfl))) rfl ?_
      refine dc_cons (DStep.q rfl (by exact (by exact opd_load1_ref rfl Tryz.isAgg3 rfl rfl rfl rfl rfl))) rfl ?_
      refine dc_cons (DStep.q rfl (by exact opr_call rfl rfl Tryz.call91 rfl (word_c o.kind _))) rfl ?_
      refine dc_cons (DStep.q rfl (by exact opd_seql rfl rfl rfl)) rfl ?_
      refine dc_cons (DStep.q rfl (by exact opd_move rfl rfl)) rfl ?_
      refine dc_cons (q_off_f rfl rfl rfl (by assumption)) rfl ?_
      refine dc_cons (q_off_f rfl rfl rfl (by assumption)) rfl ?_
      refine dc_cons (q_off_f rfl rfl rfl (by assumption)) rfl ?_
      refine dc_cons (q_off_f rfl rfl rfl (by assumption)) rfl ?_
      refine dc_cons (DStep.q rfl (by exact (by exact opd_pickt rfl rfl (by assumption) rfl))) rfl ?_
      refine dc_cons (DStep.q rfl (by exact opd_move rfl rfl)) rfl ?_
      refine dc_cons (q_off_f rfl rfl rfl (by rfl)) rfl ?_
      refine dc_cons (q_off_f rfl rfl rfl (by rfl)) rfl ?_
      refine dc_cons (q_off_f rfl rfl rfl (by rfl)) rfl ?_
      refine dc_cons (q_off_f rfl rfl rfl (by rfl)) rfl ?_
      refine dc_cons (DStep.q rfl (by exact (by exact opd_pick_t rfl rfl rfl))) rfl ?_
      refine dc_cons (DStep.q rfl (by exact opd_move rfl rfl)) rfl ?_
      refine dc_cons (q_off_f rfl rfl rfl (by rfl)) rfl ?_
      refine dc_cons (q_off_f rfl rfl rfl (by rfl)) rfl ?_
      refine dc_cons (q_off_f rfl rfl rfl (by rfl)) rfl ?_
      refine dc_cons (q_off_f rfl rfl rfl (by rfl)) rfl ?_
      refine dc_cons (q_off_f rfl rfl rfl (by rfl)) rfl ?_
      refine dc_cons (q_off_f rfl rfl rfl (by rfl)) rfl ?_
      refine dc_cons (q_off_f rfl rfl rfl (by rfl)) rfl ?_
      refine dc_cons (DStep.q rfl (by exact (by exact opd_pick_t rfl rfl rfl))) rfl ?_
      refine dc_cons (DStep.q rfl (by exact opd_move rfl rfl)) rfl ?_
      refine dc_cons (q_off_f rfl rfl rfl (by rfl)) rfl ?_
      refine dc_cons (q_off_f rfl rfl rfl (by rfl)) rfl ?_
      refine dc_cons (q_off_f rfl rfl rfl (by rfl)) rfl ?_
      refine dc_cons (q_off_f rfl rfl rfl (by rfl)) rfl ?_
      refine dc_cons (DStep.q rfl (by exact (by exact opd_pick_t rfl rfl rfl))) rfl ?_
      refine dc_nil ⟨by kernel_rfl, ?_⟩
      exact ⟨rfl, ⟨_, rfl, by (simp only [gHeadN, *]; rfl)⟩, rfl, rfl, rfl⟩
  refine awp_cond rfl (fun hc1 => ?_) (fun hc1 => ?_)
  -- cond 1
  · skip
    refine awp_seq ?_
    refine awp_region ?_
    refine al_d rfl rfl rfl (by exact opd_assign rfl rfl) ?_
    refine al_nil ?_
    refine awp_ret ?_
    -- return
    refine aret1 (H' := []) (by exact .inr rfl) rfl (rval_tmp rfl) (Fin.wk (by simp) trivial trivial) ?_
    exact ⟨by rw [gObj, gHead, ← hml, hc1]; rfl, rfl⟩
  · skip
    refine awp_skip ?_
    refine awp_seq ?_
    refine awp_region ?_
    refine al_d rfl rfl rfl (by exact opd_makeMap (id := 37) strK rfl rfl) ?_
    refine al_d rfl rfl rfl (by exact x_alloc (id := 3) rfl zo59 rfl rfl) ?_
    refine al_n rfl rfl (by exact (by exact x_store_all rfl Tryz.sizeOf59 rfl rfl rfl rfl rfl rfl rfl rfl)) ?_
    refine al_nil ?_
    refine awp_seq ?_
    refine awp_region ?_
    refine al_d rfl rfl rfl (by exact x_alloc (id := 4) rfl zo9 rfl rfl) ?_
    refine al_n rfl rfl (by exact (by exact x_store_all rfl Tryz.sizeOf9 rfl rfl rfl rfl rfl rfl rfl rfl)) ?_
    refine al_nil ?_
    refine awp_seq_to ([(1, .ref 1 0 0 0), (5, .clo 94 [.ref 1 0 0 0, .ref 4 0 0 0, .ref 3 0 0 0])]) (vH o sNil []) ?_ ?_
    -- seqto
    · skip
      refine awp_region ?_
      refine al_d rfl rfl rfl (by exact opd_makeFunc rfl rfl) ?_
      refine al_d rfl rfl rfl (by exact opd_assign rfl rfl) ?_
      refine al_nil ?_
      -- end of the piece
      exact (Ent.wk ⟨⟨_, rfl, rfl⟩, (by (simp; rfl)), ⟨_, rfl, rfl⟩, (by exact vH_clo _ _ _ _), trivial⟩ ⟨⟨_, rfl, rfl⟩, (by exact sob_clo _ _), ⟨_, rfl, rfl⟩, (by (simp; done)), ⟨_, rfl, rfl⟩, (by (simp; rfl)), ⟨_, rfl, rfl⟩, (by (simp; done)), trivial⟩ trivial)
    · skip
      refine awp_seq ?_
      refine awp_seq ?_
      refine awp_region ?_
      refine al_d rfl rfl rfl (by exact (by exact opd_field_ref rfl fo30_3 rfl rfl rfl rfl)) ?_
      refine al_d rfl rfl rfl (by exact (by exact opd_load1_ref rfl Tryz.isAgg27 rfl rfl rfl rfl rfl)) ?_
      refine al_d rfl rfl rfl (by exact opd_move rfl rfl) ?_
      refine al_d rfl rfl rfl (by exact opr_call rfl rfl Tryz.call88 rfl (containsFuncS _ o.refs (wrongAt o) (fun k => vH o (before id o.refs k) (seenL o.refs k)) h3 (fun k s hk => CallsV.clo Tryz.call94 (by rw [wrongAt, hk, before_succ hk]; simp only [seenL, hk]; exact valid1_c o _ s _ (h4 s (List.mem_of_getElem? hk)))))) ?_
      refine al_nil ?_
      refine awp_cond rfl (fun hc2 => ?_) (fun hc2 => ?_)
      -- cond 2
      · skip
        refine awp_seq ?_
        refine awp_region ?_
        refine al_d rfl rfl rfl (by exact opd_assign rfl rfl) ?_
        refine al_nil ?_
        refine awp_ret ?_
        -- return
        refine aret1 (H' := []) (by exact .inr rfl) rfl (rval_tmp rfl) (Fin.wk (by simp) trivial trivial) ?_
        exact ⟨by rw [gObj, hc2]; simp, rfl⟩
      · have hfin : gObj o = gKind o := by have h := hc1; rw [hml] at h; rw [gObj, gHead, h, hc2]; rfl
        rw [hfin]
        clear hfin
        generalize before id o.refs (stopN (wrongAt o) o.refs.length) = la
        generalize seenL o.refs (stopN (wrongAt o) o.refs.length) = LL
        unfold vH
        refine awp_skip ?_
        refine awp_seq ?_
        refine awp_seq ?_
        refine awp_region ?_
        refine al_d rfl rfl rfl (by exact (by exact opd_field_ref rfl fo30_1 rfl rfl rfl rfl)) ?_
        refine al_d rfl rfl rfl (by exact (by exact opd_load1_ref rfl Tryz.isAgg3 rfl rfl rfl rfl rfl)) ?_
        refine al_nil ?_
        refine awp_block ?_
        refine awp_seq ?_
        refine awp_region ?_
        refine al_d rfl rfl rfl (by exact opd_eql rfl rfl rfl) ?_
        refine al_d rfl rfl rfl (by exact opd_assign rfl rfl) ?_
        refine al_nil ?_
        refine awp_cond rfl (fun hc3 => ?_) (fun hc3 => ?_)
        -- cond 3
        · skip
          refine awp_seq ?_
          refine awp_bool (t := 2) (n := 11) (X := decide (((o.refs.map encStr).length : Int) = 0) && gOn o.x o.y) ?_ ?_
          · all_goals (refine al_d rfl rfl rfl (by exact (by exact opd_field_ref rfl fo30_3 rfl rfl rfl rfl)) ?_)
            all_goals (refine al_d rfl rfl rfl (by exact (by exact opd_load1_ref rfl Tryz.isAgg27 rfl rfl rfl rfl rfl)) ?_)
            all_goals (refine al_d rfl rfl rfl (by exact (by exact opd_len_sl rfl Tryz.underlying27 rfl)) ?_)
            all_goals (refine al_d rfl rfl rfl (by exact opd_eql rfl rfl rfl) ?_)
            all_goals (refine al_d rfl rfl rfl (by exact opd_move rfl rfl) ?_)
            all_goals (refine al_split (t := 51) rfl (fun h51 => ?_) (fun h51 => ?_))
            all_goals (try contradiction)
            all_goals (first | refine al_off rfl rfl rfl rfl rfl ?_ | refine al_ond rfl rfl rfl rfl rfl rfl (by exact (by exact opd_field_ref rfl fo30_2 rfl rfl rfl rfl)) ?_)
            all_goals (first | refine al_off rfl rfl rfl rfl rfl ?_ | refine al_ond rfl rfl rfl rfl rfl rfl (by exact (by exact opd_loadn_ref rfl Tryz.isAgg26 Tryz.sizeOf26 rfl rfl rfl rfl (by simp only [List.drop_succ_cons, List.drop_zero, List.take_succ_cons, List.take_zero, List.take_nil, List.map_cons, List.map_nil, List.set_cons_zero, List.set_cons_succ, List.cons_append, List.nil_append, encTag, encObj]; rfl) rfl)) ?_)
            all_goals (first | refine al_off rfl rfl rfl rfl rfl ?_ | refine al_ond rfl rfl rfl rfl rfl rfl (by exact opr_call rfl rfl Tryz.call95 rfl (on_c o.x o.y _)) ?_)
            all_goals (refine al_d rfl rfl rfl (by exact (by first | exact opd_pick_t rfl rfl rfl | exact opd_pick_f rfl rfl rfl)) ?_)
            all_goals (refine al_d rfl rfl rfl (by exact opd_assign rfl rfl) ?_)
            all_goals (refine al_nil ?_)
            all_goals (exact ⟨⟨_, rfl, by (simp_all; done)⟩, rfl, rfl, rfl⟩)
          refine awp_ret ?_
          -- return
          refine aret1 (H' := []) (by exact .inr rfl) rfl (rval_tmp rfl) (Fin.wk (by simp) trivial trivial) ?_
          exact ⟨by rw [gKind, if_pos (of_decide_eq_true hc3), ← hml], rfl⟩
        · skip
          refine awp_seq ?_
          refine awp_region ?_
          refine al_d rfl rfl rfl (by exact opd_eql rfl rfl rfl) ?_
          refine al_d rfl rfl rfl (by exact opd_assign rfl rfl) ?_
          refine al_nil ?_
          refine awp_cond rfl (fun hc4 => ?_) (fun hc4 => ?_)
          -- cond 4
          · skip
            refine awp_seq ?_
            refine awp_bool (t := 2) (n := 12) (X := decide (((o.refs.map encStr).length : Int) = 3) && (decide (o.x = 0) && decide (o.y = 0))) ?_ ?_
            · all_goals (refine al_d rfl rfl rfl (by exact (by exact opd_field_ref rfl fo30_3 rfl rfl rfl rfl)) ?_)
              all_goals (refine al_d rfl rfl rfl (by exact (by exact opd_load1_ref rfl Tryz.isAgg27 rfl rfl rfl rfl rfl)) ?_)
              all_goals (refine al_d rfl rfl rfl (by exact (by exact opd_len_sl rfl Tryz.underlying27 rfl)) ?_)
              all_goals (refine al_d rfl rfl rfl (by exact opd_eql rfl rfl rfl) ?_)
              all_goals (refine al_d rfl rfl rfl (by exact opd_move rfl rfl) ?_)
              all_goals (refine al_split (t := 62) rfl (fun h62 => ?_) (fun h62 => ?_))
              all_goals (try contradiction)
              all_goals (first | refine al_off rfl rfl rfl rfl rfl ?_ | refine al_ond rfl rfl rfl rfl rfl rfl (by exact (by exact opd_field_ref rfl fo30_2 rfl rfl rfl rfl)) ?_)
              all_goals (first | refine al_off rfl rfl rfl rfl rfl ?_ | refine al_ond rfl rfl rfl rfl rfl rfl (by exact (by exact opd_loadn_ref rfl Tryz.isAgg26 Tryz.sizeOf26 rfl rfl rfl rfl (by simp only [List.drop_succ_cons, List.drop_zero, List.take_succ_cons, List.take_zero, List.take_nil, List.map_cons, List.map_nil, List.set_cons_zero, List.set_cons_succ, List.cons_append, List.nil_append, encTag, encObj]; rfl) rfl)) ?_)
              all_goals (first | refine al_off rfl rfl rfl rfl rfl ?_ | refine al_ond rfl rfl rfl rfl rfl rfl (by exact x_build rfl bo26 rfl rfl) ?_)
              all_goals (first | refine al_off rfl rfl rfl rfl rfl ?_ | refine al_ond rfl rfl rfl rfl rfl rfl (by exact opd_aeql rfl rfl rfl rfl rfl Tryz.eqGuardType26 (se26 _ _ _ _)) ?_)
              all_goals (refine al_d rfl rfl rfl (by exact (by first | exact opd_pick_t rfl rfl rfl | exact opd_pick_f rfl rfl rfl)) ?_)
              all_goals (refine al_d rfl rfl rfl (by exact opd_assign rfl rfl) ?_)
              all_goals (refine al_nil ?_)
              all_goals (exact ⟨⟨_, rfl, by (simp_all; done)⟩, rfl, rfl, rfl⟩)
            refine awp_ret ?_
            -- return
            refine aret1 (H' := []) (by exact .inr rfl) rfl (rval_tmp rfl) (Fin.wk (by simp) trivial trivial) ?_
            exact ⟨by rw [gKind, if_neg (of_decide_eq_false hc3), if_pos (of_decide_eq_true hc4), ← hml], rfl⟩
          · skip
            refine awp_skip ?_
            refine awp_seq ?_
            refine awp_region ?_
            refine al_d rfl rfl rfl (by exact (by exact opd_field_ref rfl fo30_2 rfl rfl rfl rfl)) ?_
            refine al_d rfl rfl rfl (by exact (by exact opd_loadn_ref rfl Tryz.isAgg26 Tryz.sizeOf26 rfl rfl rfl rfl (by simp only [List.drop_succ_cons, List.drop_zero, List.take_succ_cons, List.take_zero, List.take_nil, List.map_cons, List.map_nil, List.set_cons_zero, List.set_cons_succ, List.cons_append, List.nil_append, encTag, encObj]; rfl) rfl)) ?_
            refine al_d rfl rfl rfl (by exact x_build rfl bo26 rfl rfl) ?_
            refine al_d rfl rfl rfl (by exact opd_aeql rfl rfl rfl rfl rfl Tryz.eqGuardType26 (se26 _ _ _ _)) ?_
            refine al_d rfl rfl rfl (by exact opd_assign rfl rfl) ?_
            refine al_nil ?_
            refine awp_ret ?_
            -- return
            refine aret1 (H' := []) (by exact .inr rfl) rfl (rval_tmp rfl) (Fin.wk (by simp) trivial trivial) ?_
            exact ⟨by rw [gKind, if_neg (of_decide_eq_false hc3), if_neg (of_decide_eq_false hc4)], rfl⟩
end Go.Proofs.YtdcifaldfmpapaaGreat
end
