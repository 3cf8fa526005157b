/-
  WHAT THE ARGUMENTS OF THE LAWS HOLD: shapes as plain Lean data. Conditions: none.
  WHAT ALL LAWS' CLAIMS SHARE. Conditions: none.
  THE ABSTRACT LOGIC: an owned slice is frozen while other objects hold it. Conditions: each rule's own premises.
  THE ABSTRACT LOGIC, 31: a range over a function. Conditions: the rule's own premises.
  THE ABSTRACT LOGIC, 32: a contract, at heaps that hold the same. Conditions: the rules' own premises.
  THE ABSTRACT LOGIC, 17: a text's bytes are appended. Conditions: each rule's own premises.
  STATES AND RESULTS in front of a heap that is not looked into. Conditions: none.
  STATES in front of a heap that is not looked into: objects are dropped. Conditions: none.
  AN OWNED SLICE IS LENT FOR GOOD: a call reads it as a slice that never changes; behind the call the object is empty.
  Conditions: each rule's own premises.
  THE ABSTRACT LOGIC, 33: pointers turned to unsafe pointers and back, a pointer held against itself; the string that shares the bytes of an owned row (strings.Builder). Conditions: the rules' own premises.
  A SLICE OF ONE'S OWN WHOSE CAPACITY IS KNOWN ('osc'): cap, cuts up to the capacity, appending within it or beyond it, copies inside of an object and from others, clear.
  Conditions: each rule's own premises.
  A SLICE OF ONE'S OWN WHOSE CAPACITY IS KNOWN: append within the capacity (it writes over what is there), append beyond it (a new object), clear, cuts with a bound.
  Conditions: each rule's own premises.
  A SLICE COMPARED WITH nil; copies in the form of the walks; an owned slice that ends with a call and is handed on as one that never changes.
  Conditions: each rule's own premises.
  A nil SLICE THAT IS HANDED ON AS nil; slices that are made shorter; a call's contract at a small heap, used in a greater one.
  Conditions: each rule's own premises.
  THE ABSTRACT LOGIC, 34: bytes without content (MakeNoZero), a slice that is made shorter for good, s[i:j:j]; capacities and lengths of nil. Conditions: the rules' own premises.
-/
import Derived.Test.YtedfihgkopejcaaKT6M3
import Derived.Lib.AppendStr
import Derived.Scope
import Derived.Lib.UnsafeStr
import Derived.Lib.MakeNoZero
import Derived.Lib.Builder
import Derived.Lib.Overlaps
import Derived.WalkSpells
import Derived.Lib.SliceRun
section
set_option linter.unusedVariables false
set_option linter.unusedSimpArgs false
set_option maxRecDepth 100000
namespace Go.Proofs.Ytedfihgkopejcaa
open Go.Abs
def wfI (n : Int) : Prop := (Lit.int .i64 n).wf = true
def szTag (B : Nat) (t : GTag) : Prop := t.key.size ≤ B ∧ t.val.size ≤ B
def szStrs (B : Nat) (l : List ByteArray) : Prop := l.length ≤ B ∧ ∀ s, s ∈ l → s.size ≤ B
def szTags (B : Nat) (l : List GTag) : Prop := l.length ≤ B ∧ ∀ s, s ∈ l → szTag B s
def szObj (B : Nat) (o : GObj) : Prop := o.id.size ≤ B ∧ wfI o.kind ∧ wfI o.x ∧ wfI o.y ∧ szStrs B o.refs ∧ szTags B o.tags
def szMap (B : Nat) (m : List GObj) : Prop := m.length ≤ B ∧ ∀ o, o ∈ m → szObj B o
def szEdit (B : Nat) (e : GEdit) : Prop := wfI e.op ∧ e.id.size ≤ B ∧ e.other.size ≤ B ∧ e.node.size ≤ B ∧ wfI e.x ∧ wfI e.y ∧ e.key.size ≤ B ∧ e.val.size ≤ B ∧ szStrs B e.refs ∧ szObj B e.obj
def szEdits (B : Nat) (l : List GEdit) : Prop := l.length ≤ B ∧ ∀ e, e ∈ l → szEdit B e
section
variable {B n : Nat} {ps : List PV}
theorem d_tag (h : Sh Try.prog B (n + 2) 46 ps) : ∃ t, ps = encTag t ∧ szTag B t := by
  obtain ⟨a, b, rfl, _, h1, a2, b2, rfl, _, h2, rfl⟩ := sh_struct Try.underlying46 h
  obtain ⟨k, rfl, hk⟩ := sh_str Try.underlying9 h1
  obtain ⟨v, rfl, hv⟩ := sh_str Try.underlying9 h2
  exact ⟨⟨k, v⟩, rfl, hk, hv⟩
theorem d_tags (h : Sh Try.prog B (n + 3) 22 ps) : ∃ l, ps = [slTags l] ∧ szTags B l := by
  obtain ⟨l, rfl, h1, h2⟩ := sh_rows (f := encTag) (good := szTag B) Try.underlying22 h (fun r hr => d_tag hr)
  exact ⟨l, rfl, h1, h2⟩
end
theorem okTags_of {B : Nat} {l : List GTag} (hB : B < 4611686018427387904) (h : szTags B l) : okTags l := ⟨by have := h.1; omega, fun t ht => ⟨by have := (h.2 t ht).1; omega, by have := (h.2 t ht).2; omega⟩⟩
section
variable {B n : Nat} {ps : List PV}
theorem d_str (h : Sh Try.prog B (n + 1) 9 ps) : ∃ s, ps = [.str s] ∧ s.size ≤ B := by
  obtain ⟨k, rfl, hk⟩ := sh_str Try.underlying9 h
  exact ⟨k, rfl, hk⟩
end
end Go.Proofs.Ytedfihgkopejcaa
end
section
set_option linter.unusedVariables false
set_option maxRecDepth 100000
namespace Go.Proofs.Ytedfihgkopejcaa
open Go.Abs Go.ChangeShapes Go.WideShapes Go.ChangeAt Go.RowKit
theorem own : ownKnob Try.prog.godebug = none := by kernel_rfl
theorem laidOut : laidOutB Try.prog = true := by kernel_rfl
theorem upto_bound {H : Type} {l : List (DataW H)} (hk : Rows.uptoSmall H l = true) : Rows.uptoBulkAll l ≤ 1048576 := of_decide_eq_true hk
theorem bulk_left {H : Type} {l r : List (DataW H)} {n : Nat} (h : Rows.uptoBulkAll (l ++ r) ≤ n) : Rows.uptoBulkAll l ≤ n := by
  induction l generalizing n with
  | nil => simp [Rows.uptoBulkAll]
  | cons x l ih =>
    simp only [List.cons_append, Rows.uptoBulkAll] at h ⊢
    have := ih (n := n - Rows.uptoBulk x) (by omega)
    omega
end Go.Proofs.Ytedfihgkopejcaa
end
section
set_option linter.unusedVariables false
set_option linter.unusedSimpArgs false
namespace Go.Abs
def SubG (H' H : Heap) : Prop := ∀ j o', H'.get j = some o' → ∃ o, H.get j = some o ∧ o'.g = o.g ∧ o'.sz = o.sz ∧ o'.rows.length = o.rows.length
theorem VRel.restrictG {w : World} {I : Nat → Prop} {ι : Plc} {H H' : Heap} (hs : SubG H' H) {v : Value} {a : AV} (h : VRel w I ι H v a) : Clo H' a → VRel w I ι H' v a := by
  induction h with
  | any v => exact fun _ => .any v
  | pv h => exact fun _ => .pv h
  | ref o h1 h2 h3 h4 =>
    intro hc
    cases hc with
    | ref hc =>
      obtain ⟨o', ho'⟩ := Option.isSome_iff_exists.1 hc
      obtain ⟨o2, e1, e2, e3, e4⟩ := hs _ _ ho'
      rw [h1] at e1; cases e1
      exact .ref o' ho' (by omega) h3 (fun hg => by rw [e3]; exact h4 (by omega))
  | pad b off cap sz h1 h2 h3 cs h4 h5 h6 => exact fun _ => .pad b off cap sz h1 h2 h3 cs h4 h5 h6
  | osl o h1 h2 h3 h4 =>
    intro hc
    cases hc with
    | osl hc =>
      obtain ⟨o', ho'⟩ := Option.isSome_iff_exists.1 hc
      obtain ⟨o2, e1, e2, e3, e4⟩ := hs _ _ ho'
      rw [h1] at e1; cases e1
      exact .osl o' ho' (by omega) h3 (fun hg => by rw [e3, e4]; exact h4 (by omega))
  | clo hl h ih =>
    intro hc
    cases hc with | clo hc => exact .clo hl fun i v a hv ha => ih i v a hv ha (hc a (List.mem_of_getElem? ha))
  | agg hl h1 h ih =>
    intro hc
    cases hc with | agg hc => exact .agg hl h1 fun i v a hv ha => ih i v a hv ha (hc a (List.mem_of_getElem? ha))
  | tup hl h ih =>
    intro hc
    cases hc with | tup hc => exact .tup hl fun i v a hv ha => ih i v a hv ha (hc a (List.mem_of_getElem? ha))
  | mp o h1 h2 h3 h4 =>
    intro hc
    cases hc with
    | mp hc =>
      obtain ⟨o', ho'⟩ := Option.isSome_iff_exists.1 hc
      obtain ⟨o2, e1, e2, e3, e4⟩ := hs _ _ ho'
      rw [h1] at e1; cases e1
      exact .mp o' ho' (by omega) h3 (fun hg => by rw [e3]; exact h4 (by omega))
  | it o h1 h2 h3 h4 =>
    intro hc
    cases hc with
    | it hc =>
      obtain ⟨o', ho'⟩ := Option.isSome_iff_exists.1 hc
      obtain ⟨o2, e1, e2, e3, e4⟩ := hs _ _ ho'
      rw [h1] at e1; cases e1
      exact .it o' ho' (by omega) h3 (fun hg => by rw [e3]; exact h4 (by omega))
  | yld o h1 h2 h3 h4 =>
    intro hc
    cases hc with
    | yld hc =>
      obtain ⟨o', ho'⟩ := Option.isSome_iff_exists.1 hc
      obtain ⟨o2, e1, e2, e3, e4⟩ := hs _ _ ho'
      rw [h1] at e1; cases e1
      exact .yld o' ho' (by omega) h3 (fun hg => by rw [e3]; exact h4 (by omega))
  | osc o h1 h2 h3 h4 =>
    intro hc
    cases hc with
    | osc hc =>
      obtain ⟨o', ho'⟩ := Option.isSome_iff_exists.1 hc
      obtain ⟨o2, e1, e2, e3, e4⟩ := hs _ _ ho'
      rw [h1] at e1; cases e1
      exact .osc o' ho' (by omega) h3 (fun hg => by rw [e3]; exact h4 (by omega))
theorem VRel.freezeG {w : World} {I : Nat → Prop} {ι : Plc} {H H' : Heap} {id : Nat} {ob : Ob} {ps : List (List PV)} (hr : Rel I ι H w) (hs : SubG H' H) (hH : H.get id = some ob) (hps : ob.rows = ps.map (·.map .pv)) {a a' : AV} (hf : Fz H' id ob.g ps a a') :
    ∀ {v : Value}, VRel w I ι H v a → VRel w (ImmPlus I ι id) ι H' v a' := by
  induction hf with
  | same h => exact fun hv => (hv.restrictG hs h).mono' (fun _ _ => rfl) (fun _ h => .inl h) (fun _ o h => ⟨o, h, Nat.le_refl _, fun _ => ⟨rfl, rfl, fun _ => Nat.le_refl _⟩⟩)
  | osl hq =>
    intro v hv
    subst hq
    exact .pv (freeze_prep hr hH hps hv)
  | agg hl h ih =>
    intro v hv
    cases hv with
    | agg h1 h2 h3 =>
      refine .agg (h1.trans hl) h2 fun i u a' hu ha' => ?_
      have hi := (List.getElem?_eq_some_iff.1 ha').1
      exact ih i _ a' (List.getElem?_eq_getElem (by omega)) ha' (h3 i u _ hu (List.getElem?_eq_getElem (by omega)))
  | tup hl h ih =>
    intro v hv
    cases hv with
    | tup h1 h3 =>
      refine .tup (h1.trans hl) fun i u a' hu ha' => ?_
      have hi := (List.getElem?_eq_some_iff.1 ha').1
      exact ih i _ a' (List.getElem?_eq_getElem (by omega)) ha' (h3 i u _ hu (List.getElem?_eq_getElem (by omega)))
/-- Rows that become other rows, a slice in them frozen. -/
def FzRows (H' : Heap) (id g : Nat) (ps : List (List PV)) (rows rows' : List (List AV)) : Prop :=
  rows'.length = rows.length ∧ ∀ (i : Nat) (r' : List AV), rows'[i]? = some r' → ∃ r, rows[i]? = some r ∧ r.length = r'.length ∧ ∀ (k : Nat) (a a' : AV), r[k]? = some a → r'[k]? = some a' → Fz H' id g ps a a'
theorem fzr_same {H' : Heap} {id g : Nat} {ps : List (List PV)} {rows : List (List AV)} (h : ∀ r ∈ rows, ∀ a ∈ r, Clo H' a) : FzRows H' id g ps rows rows :=
  ⟨rfl, fun i r hi => ⟨r, hi, rfl, fun k a a' h1 h2 => by rw [h1] at h2; cases h2; exact .same (h r (List.mem_of_getElem? hi) a (List.mem_of_getElem? h1))⟩⟩
theorem fzr_one {H' : Heap} {id g : Nat} {ps : List (List PV)} {r r' : List AV} (hl : r.length = r'.length) (h : ∀ (k : Nat) (a a' : AV), r[k]? = some a → r'[k]? = some a' → Fz H' id g ps a a') : FzRows H' id g ps [r] [r'] :=
  ⟨rfl, fun i x hi => by
    match i, hi with
    | 0, hi => cases hi; exact ⟨r, rfl, hl, h⟩⟩
def FOk (H H' : Heap) (id g : Nat) (ps : List (List PV)) : Heap → Prop
  | [] => True
  | (j, o') :: r => (∃ o, H.get j = some o ∧ o'.g = o.g ∧ o'.sz = o.sz ∧ o'.ty = o.ty ∧ FzRows H' id g ps o.rows o'.rows) ∧ FOk H H' id g ps r
theorem FOk.spec {H H' : Heap} {id g : Nat} {ps : List (List PV)} {L : Heap} (h : FOk H H' id g ps L) : ∀ p ∈ L, ∃ o, H.get p.1 = some o ∧ p.2.g = o.g ∧ p.2.sz = o.sz ∧ p.2.ty = o.ty ∧ FzRows H' id g ps o.rows p.2.rows := by
  induction L with
  | nil => simp
  | cons x r ih =>
    obtain ⟨t, v⟩ := x
    obtain ⟨h1, h2⟩ := h
    intro p hp
    rcases List.mem_cons.1 hp with e | e
    · subst e; exact h1
    · exact ih h2 p e
theorem Ent.fzG {G0 : Heap} {E E' : Env} {H H' : Heap} {id : Nat} {ob : Ob} (ps : List (List PV)) (hH : H.get id = some ob) (hps : ob.rows = ps.map (·.map .pv)) (hE : ∀ p ∈ E', ∃ v0, E.get p.1 = some v0 ∧ Fz H' id ob.g ps v0 p.2) (hno : H'.get id = none)
    (hF : FOk H H' id ob.g ps H') (hk : KOk H' H G0) : Ent G0 E H E' H' := by
  intro G hG N a w hs
  obtain ⟨I, ι, hr, hst, he⟩ := hs.rel
  subst hG
  have hf : ∀ j o', H'.get j = some o' → ∃ o, H.get j = some o ∧ o'.g = o.g ∧ o'.sz = o.sz ∧ o'.ty = o.ty ∧ FzRows H' id ob.g ps o.rows o'.rows := fun j o' hj => hF.spec _ (mem_of_hget hj)
  have hsub : SubG H' H := fun j o' hj => by
    obtain ⟨o, e1, e2, e3, _, e5⟩ := hf j o' hj
    exact ⟨o, e1, e2, e3, e5.1⟩
  have hown : ∀ b, Own ι H' b → Own ι H b := fun b ⟨j, o', c, h1, h2⟩ => by
    obtain ⟨o, e1, _⟩ := hf j o' h1
    exact ⟨j, o, c, e1, h2⟩
  have hrel : Rel (ImmPlus I ι id) ι H' w := by
    refine ⟨fun b hb => ?_, fun j o' hj => ?_, fun j j' o o' b c c' h1 h2 => ?_⟩
    · rcases hb with hb | ⟨cap, hb⟩
      · exact hr.imm b hb
      · exact hr.lt ⟨id, ob, cap, hH, hb⟩
    · obtain ⟨o, e1, e2, e3, e4, e5, e6⟩ := hf j o' hj
      refine (hr.obj j o e1).keepG e3 e4 e5 (raw_rows e5.symm (fun i r' hi => by
        obtain ⟨r, z1, z2, z3⟩ := e6 i r' hi
        exact ⟨r, z1, z2, fun k a a' h1 h2 y ts e => (z3 k a a' h1 h2).raw e⟩)) rfl (fun b' cap' q1 _ => ⟨rfl, fun q3 => ?_⟩) (fun i r' hi => ?_)
      · rintro (h | ⟨cap, h⟩)
        · exact q3 h
        · have : j = id := hr.inj j id o ob b' cap' cap e1 hH q1 h
          rw [this, hno] at hj
          cases hj
      · obtain ⟨r, z1, z2, z3⟩ := e6 i r' hi
        exact ⟨r, z1, z2, fun k a a' h1 h2 v hv => VRel.freezeG hr hsub hH hps (z3 k a a' h1 h2) hv⟩
    · obtain ⟨p, e1, _⟩ := hf j o h1
      obtain ⟨p', e1', _⟩ := hf j' o' h2
      exact hr.inj j j' p p' b c c' e1 e1'
  have hstep : Step G.I G.ι G.H G.w (ImmPlus I ι id) ι H' w :=
    { os := hst.os, tape := hst.tape, output := hst.output, size := hst.size, froz := hst.froz, keep := hst.keep
      imm := fun b hb => .inl (hst.imm b hb)
      immNew := fun b hb => by
        rcases hb with hb | ⟨cap, hb⟩
        · exact hst.immNew b hb
        · rcases hst.own b ⟨id, ob, cap, hH, hb⟩ with h1 | h1
          · exact .inr (.inl h1)
          · exact .inr (.inr h1)
      own := fun b hb => hst.own b (hown b hb)
      objs := fun j o ho => by
        obtain ⟨o', h1, h2⟩ := hst.objs j o ho
        exact ⟨o', (hk.kept j (by simp [ho])).trans h1, h2⟩ }
  refine ⟨hs.defers, hs.size, _, ι, hrel, hstep, fun t v ht => ?_⟩
  obtain ⟨v0, h1, h2⟩ := hE _ (mem_of_get ht)
  obtain ⟨c, hc, hv⟩ := he t v0 h1
  exact ⟨c, hc, VRel.freezeG hr hsub hH hps h2 hv⟩
end Go.Abs
end
section
set_option linter.unusedVariables false
set_option linter.unusedSimpArgs false
namespace Go.Abs
/-- The record of a loop as an object: the record, and what it keeps of the frame. -/
def LR (x : Go.Loop) (E0 : Env) : Ob := ⟨0, 0, 0, [[.raw x (E0.map (·.1))], E0.map (·.2)]⟩
section
variable {I : Nat → Prop} {ι : Plc} {H : Heap} {w : World}
theorem rec_at {id : Nat} {x : Go.Loop} {E0 : Env} (hr : Rel I ι H w) (hH : H.get id = some (LR x E0)) {v : Value} (hv : VRel w I ι H v (.yld id 0)) :
    ∃ b, ι id = some (b, 2) ∧ v = .func (.yield b) #[] #[] ∧ w.heap[b]? = some (.loop x) ∧ ¬ I b ∧ ∀ (i t : Nat) (a : AV), (E0.map (·.1))[i]? = some t → (E0.map (·.2))[i]? = some a → ∃ c, x.tmps[t]? = some c ∧ VRel w I ι H c a := by
  cases hv with
  | yld o h1 h2 h3 h4 =>
    rw [hH] at h1; cases h1
    obtain ⟨_, b, e1, e2⟩ := h4 rfl
    obtain ⟨_, b', y, k1, k2, k3, k4⟩ := (hr.obj id _ hH).rec rfl e1
    rw [e1] at k1; cases k1
    obtain ⟨q1, q2⟩ := k4 x _ _ rfl
    subst q1
    exact ⟨b, e1, e2, k2, k3, q2⟩
/-- The record turns: its state, and what is pending. -/
theorem Rel.setRec {id b : Nat} {x y : Go.Loop} {E0 : Env} {H' : Heap} (hr : Rel I ι H w) (hH : H.get id = some (LR x E0)) (hι : ι id = some (b, 2)) (hy : y.tmps = x.tmps)
    (h1 : H'.get id = some (LR y E0)) (h2 : ∀ j, j ≠ id → H'.get j = H.get j) : Rel I ι H' (w.putObj b (.loop y)) ∧ Step I ι H w I ι H' (w.putObj b (.loop y)) := by
  obtain ⟨_, b', z, k1, k2, k3, k4⟩ := (hr.obj id _ hH).rec rfl hι
  rw [hι] at k1; cases k1
  obtain ⟨q1, q2⟩ := k4 x _ _ rfl
  subst q1
  have hlt := (Array.getElem?_eq_some_iff.1 k2).1
  have hown : ∀ c, Own ι H' c → Own ι H c := fun c ⟨j, o, cap, ho, hc⟩ => by
    by_cases e : j = id
    · subst e; exact ⟨j, _, cap, hH, hc⟩
    · exact ⟨j, o, cap, (h2 j e).symm.trans ho, hc⟩
  have hst : Step I ι H w I ι H' (w.putObj b (.loop y)) := by
    refine ⟨rfl, rfl, rfl, by rw [World.putObj_size]; exact Nat.le_refl _, fun a ha _ => ?_, fun _ h => h, fun _ h => .inl h, fun c hc => .inl (hown c hc), fun c hc hn => ?_, fun j o hj => ?_⟩
    · unfold World.frozen?
      by_cases e : a.block = b
      · rw [e, World.putObj_heap_same hlt, k2]
      · rw [World.putObj_heap_other e]
    · exact World.putObj_heap_other fun e => hn ⟨id, _, 2, hH, by rw [e]; exact hι⟩
    · by_cases e : j = id
      · subst e
        rw [hH] at hj; cases hj
        exact ⟨_, h1, Nat.le_refl _, fun _ => ⟨rfl, rfl, fun h => by cases h⟩⟩
      · exact ⟨o, (h2 j e).trans hj, Nat.le_refl _, fun _ => ⟨rfl, rfl, fun _ => Nat.le_refl _⟩⟩
  refine ⟨⟨fun c hc => by rw [World.putObj_size]; exact hr.imm c hc, fun j o hj => ?_, fun j j' o o' c d d' hj hj' hc hc' => ?_⟩, hst⟩
  · by_cases e : j = id
    · subst e
      rw [h1] at hj; cases hj
      refine .inr (.inr (.inr ⟨rfl, b, y, hι, World.putObj_heap_same hlt, k3, fun z ts r hz => ?_⟩))
      simp only [LR, List.cons.injEq, AV.raw.injEq, and_true] at hz
      obtain ⟨⟨rfl, rfl⟩, rfl⟩ := hz
      refine ⟨rfl, fun i t a ht ha => ?_⟩
      obtain ⟨c, c1, c2⟩ := q2 i t a ht ha
      exact ⟨c, by rw [hy]; exact c1, c2.mono hr hst⟩
    · rw [h2 j e] at hj
      exact (hr.obj j o hj).keep rfl (fun c d hc _ => ⟨World.putObj_heap_other (fun hb => e (hr.inj j id o _ c d 2 hj hH hc (by rw [hb]; exact hι))), fun h => h⟩) (fun r _ a _ v hv => hv.mono hr hst)
  · have key : ∀ j o, H'.get j = some o → ∃ o, H.get j = some o := fun j o hj => by
      by_cases e : j = id
      · subst e; exact ⟨_, hH⟩
      · exact ⟨o, (h2 j e).symm.trans hj⟩
    obtain ⟨q, hq⟩ := key j o hj
    obtain ⟨q', hq'⟩ := key j' o' hj'
    exact hr.inj j j' q q' c d d' hq hq' hc hc'
/-- A new block that nobody owns. -/
theorem Rel.push (o : Obj) (hr : Rel I ι H w) : Rel I ι H (w.alloc o) ∧ Step I ι H w I ι H (w.alloc o) := by
  have hk : ∀ b, b < w.heap.size → (w.alloc o).heap[b]? = w.heap[b]? := fun b hb => by
    show (w.heap.push o)[b]? = _
    rw [Array.getElem?_push, if_neg (Nat.ne_of_lt hb)]
  have hst : Step I ι H w I ι H (w.alloc o) := by
    refine ⟨rfl, rfl, rfl, by rw [World.size_alloc]; omega, fun a ha _ => ?_, fun _ h => h, fun _ h => .inl h, fun _ h => .inl h, fun b hb _ => hk b hb, fun _ o h => ⟨o, h, Nat.le_refl _, fun _ => ⟨rfl, rfl, fun _ => Nat.le_refl _⟩⟩⟩
    unfold World.frozen?
    rw [hk _ ha]
  refine ⟨⟨fun b hb => by have := hr.imm b hb; rw [World.size_alloc]; omega, fun j o hj => ?_, hr.inj⟩, hst⟩
  exact (hr.obj j o hj).keep rfl (fun b c _ hb => ⟨hk b hb, fun h => h⟩) (fun r _ a _ v hv => hv.mono hr hst)
end
def busy (x : Go.Loop) : Go.Loop := { x with state := .busy }
def left (x : Go.Loop) (c : Code) : Go.Loop := { x with state := .done, pending := some c }
/-- How a round ends: K is the heap behind it, without the record. -/
def RoundQ (H0 : Heap) (id : Nat) (x : Go.Loop) (E0 : Env) (Q : AV → Heap → Prop) : Exit → Env → Heap → Prop
  | .normal, E, H => ∃ K, Ent H0 E H [] ((id, LR (busy x) E0) :: K) ∧ Q (.pv (.bool true)) ((id, LR x E0) :: K)
  | .ret, E, H => ∃ K, Ent H0 E H [] ((id, LR (busy x) E0) :: K) ∧ Q (.pv (.bool false)) ((id, LR (left x .ret) E0) :: K)
  | .exit j, E, H => ∃ K, Ent H0 E H [] ((id, LR (busy x) E0) :: K) ∧ Q (.pv (.bool false)) ((id, LR (left x (.exit j)) E0) :: K)
  | _, _, _ => False
theorem same_place {G : Entry} {I : Nat → Prop} {ι : Plc} {H : Heap} {w : World} {id b : Nat} {x y : Go.Loop} {E0 : Env} (hst : Step G.I G.ι G.H G.w I ι H w) (hG : G.H.get id = some (LR x E0)) (hι : G.ι id = some (b, 2)) (hH : H.get id = some (LR y E0)) : ι id = some (b, 2) := by
  obtain ⟨o', e1, _, e3⟩ := hst.objs id _ hG
  rw [hH] at e1; cases e1
  exact (e3 rfl).1.trans hι
theorem rec_heap {I : Nat → Prop} {ι : Plc} {H : Heap} {w : World} {id b : Nat} {x : Go.Loop} {E0 : Env} (hr : Rel I ι H w) (hH : H.get id = some (LR x E0)) (hι : ι id = some (b, 2)) : w.heap[b]? = some (.loop x) := by
  obtain ⟨_, b', z, k1, k2, k3, k4⟩ := (hr.obj id _ hH).rec rfl hι
  rw [hι] at k1; cases k1
  obtain ⟨q1, _⟩ := k4 x _ _ rfl
  subst q1
  exact k2
theorem hd_get (id : Nat) (o : Ob) (K : Heap) : Heap.get ((id, o) :: K) id = some o := by simp [Heap.get, beq_self]
theorem hd_other {id j : Nat} (o o' : Ob) (K : Heap) (h : j ≠ id) : Heap.get ((id, o) :: K) j = Heap.get ((id, o') :: K) j := by simp [Heap.get, beq_ne (Ne.symm h)]
/-- A ROUND, out of the walk of its assignment and of its body. -/
theorem ycalls {P : Program} {id p N : Nat} {x : Go.Loop} {assign body : Code} {E0 : Env} {a : AV} {K : Heap} {Q : AV → Heap → Prop} (E2 : Env) (K2 : Heap) (hx1 : x.state = .ready) (hx2 : x.pending = none) (hp : x.params = #[p]) (hN : x.tmps.size = N) (hxa : x.assign = assign) (hxb : x.body = body) (hpN : Nat.blt p N = true)
    (hok : okRound assign = true) (hok2 : okRound body = true)
    (h1 : AWp P ((id, LR x E0) :: K) N assign (AThen (fun E1 H1 => Ent ((id, LR x E0) :: K) E1 H1 E2 ((id, LR x E0) :: K2)) (fun _ _ _ => False)) ((p, a) :: E0) ((id, LR x E0) :: K))
    (h2 : AWp P ((id, LR x E0) :: K) N body (RoundQ ((id, LR x E0) :: K) id x E0 Q) E2 ((id, LR (busy x) E0) :: K2)) : YCalls P id 0 [a] ((id, LR x E0) :: K) Q := by
  subst hxa hxb
  have hpN : p < N := by simpa [Nat.blt_eq] using hpN
  intro I ι w vs v hr hv hl hvs
  obtain ⟨b, e1, e2, e3, e4, e5⟩ := rec_at hr (hd_get _ _ _) hv
  obtain ⟨u, rfl⟩ : ∃ u, vs = #[u] := by
    match vs, hl with
    | ⟨[u]⟩, _ => exact ⟨u, rfl⟩
  have hu := hvs 0 u a rfl rfl
  refine ⟨b, x.fn, _, x.assign, x.body, e2, run_yield e3 (by rw [hp]; rfl), ?_⟩
  refine roundIn_of_wpIn (F := Fence.wide) trivial ?_
  have hG : (⟨I, ι, (id, LR x E0) :: K, w⟩ : Entry).H = (id, LR x E0) :: K := rfl
  have hst : St ⟨I, ι, (id, LR x E0) :: K, w⟩ N ((p, a) :: E0) ((id, LR x E0) :: K) { tmps := (x.params.zip #[u]).foldl (fun tmps (t, a) => tmps.setIfInBounds t a) x.tmps, defers := [] } w := by
    have ht : (x.params.zip #[u]).foldl (fun tmps (t, a) => tmps.setIfInBounds t a) x.tmps = x.tmps.setIfInBounds p u := by rw [hp]; simp
    rw [ht]
    refine ⟨Marks.nil _ _, by simp [hN], I, ι, hr, Step.refl _ _ _ _, fun t y hy => ?_⟩
    by_cases e : p = t
    · subst e
      rw [Env.get_cons_same] at hy; cases hy
      exact ⟨u, by simp [hN, hpN], hu⟩
    · rw [Env.get_cons_other _ _ e] at hy
      obtain ⟨i, hi⟩ := List.mem_iff_getElem?.1 (mem_of_get hy)
      obtain ⟨c, c1, c2⟩ := e5 i t y (by rw [List.getElem?_map, hi]; rfl) (by rw [List.getElem?_map, hi]; rfl)
      exact ⟨c, by show (x.tmps.setIfInBounds p u)[t]? = some c; rw [Array.getElem?_setIfInBounds_ne e]; exact c1, c2⟩
  refine wpIn_mono (h1 _ hG _ w hst (some b) (.inr hok)) ?_
  rintro e a1 w1 ⟨E1, H1, q, hs1⟩
  cases e with
  | normal =>
    have hs2 := q _ hG N a1 w1 hs1
    obtain ⟨I1, ι1, hr1, hst1, he1⟩ := hs2.rel
    have hι1 := same_place hst1 (hd_get _ _ _) e1 (hd_get _ _ _)
    have hb1 := rec_heap hr1 (hd_get _ _ _) hι1
    obtain ⟨k1, k2⟩ := hr1.setRec (y := busy x) (H' := (id, LR (busy x) E0) :: K2) (hd_get _ _ _) hι1 rfl (hd_get _ _ _) (fun j hj => hd_other _ _ _ hj)
    refine ⟨_, run_beginRound hb1 hx1, ?_⟩
    have hs3 : St ⟨I, ι, (id, LR x E0) :: K, w⟩ N E2 ((id, LR (busy x) E0) :: K2) a1 (w1.putObj b (.loop (busy x))) :=
      ⟨hs2.defers.step hr1 k2, hs2.size, I1, ι1, k1, hst1.trans k2, fun t y hy => let ⟨c, c1, c2⟩ := he1 t y hy; ⟨c, c1, c2.mono hr1 k2⟩⟩
    refine wpIn_mono (h2 _ hG a1 _ hs3 (some b) (.inr hok2)) ?_
    rintro e a2 w3 ⟨E3, H3, q3, hs4⟩
    have fin : ∀ (jump : Option Code) (y : Go.Loop) (K3 : Heap), y = { busy x with state := if jump.isNone then .ready else .done, pending := jump } → Ent ((id, LR x E0) :: K) E3 H3 [] ((id, LR (busy x) E0) :: K3) → Q (.pv (.bool jump.isNone)) ((id, LR y E0) :: K3) →
        ∃ v w', (Instr.endRound b jump).run P w3 = .ok v w' ∧ ∃ r H' I' ι' v', Ending.returned v = .returned v' ∧ Q r H' ∧ VRel w' I' ι' H' v' r ∧ Rel I' ι' H' w' ∧ Step I ι ((id, LR x E0) :: K) w I' ι' H' w' := by
      intro jump y K3 hy hent hQ
      have hs5 := hent _ hG N a2 w3 hs4
      obtain ⟨I5, ι5, hr5, hst5, _⟩ := hs5.rel
      have hι5 := same_place hst5 (hd_get _ _ _) e1 (hd_get _ _ _)
      have hb5 := rec_heap hr5 (hd_get _ _ _) hι5
      obtain ⟨z1, z2⟩ := hr5.setRec (y := y) (H' := (id, LR y E0) :: K3) (hd_get _ _ _) hι5 (by rw [hy]) (hd_get _ _ _) (fun j hj => hd_other _ _ _ hj)
      refine ⟨_, _, run_endRound jump hb5, _, _, I5, ι5, _, rfl, hQ, .pv (.bool _), ?_, ?_⟩
      · rw [← hy]; exact z1
      · rw [← hy]; exact hst5.trans z2
    cases e with
    | normal =>
      obtain ⟨K3, hent, hQ⟩ := q3
      refine fin none x K3 ?_ hent hQ
      obtain ⟨st, pe, fn, tm, pa, ax, bo, de⟩ := x
      simp only at hx1 hx2
      subst hx1 hx2
      rfl
    | ret =>
      obtain ⟨K3, hent, hQ⟩ := q3
      exact fin (some .ret) (left x .ret) K3 rfl hent hQ
    | exit j =>
      obtain ⟨K3, hent, hQ⟩ := q3
      exact fin (some (.exit j)) (left x (.exit j)) K3 rfl hent hQ
    | goto l => exact q3.elim
    | panic ch => exact q3.elim
    | outgrown => exact q3.elim
  | exit j => exact q.elim
  | goto l => exact q.elim
  | ret => exact q.elim
  | panic ch => exact q.elim
  | outgrown => exact q.elim
/-- What a loop leads to, by what is pending. -/
def RangeQ (Q : Exit → Env → Heap → Prop) (E : Env) (H : Heap) : Option Code → Prop
  | none => Q .normal E H
  | some .ret => Q .ret E H
  | some (.exit j) => Q (.exit j) E H
  | _ => False
/-- THE STATEMENT, out of the iterator's contract. -/
theorem awp_range {P : Program} {G0 : Heap} {N f id p : Nat} {caps : List AV} {g : Operand} {ps : Array Tmp} {assign body : Code} {Q : Exit → Env → Heap → Prop} {E : Env} {H : Heap} (E0 : Env) (hg : aeval E g = some (.clo f caps)) (hc : ∀ (args : Array Value) (w : World), (callFunc f args).run P w = .ok (.enter f args) w)
    (hps : ps = #[p]) (hid : H.get id = none) (hE0 : ∀ q ∈ E0, E.get q.1 = some q.2)
    (h : ∀ x : Go.Loop, x.state = .ready → x.pending = none → x.params = #[p] → x.tmps.size = N → x.assign = assign → x.body = body →
      ACalls P f (.yld id 0 :: caps) ((id, LR x E0) :: H) (fun r H' => ∃ (y : Go.Loop) (K : Heap), y.tmps = x.tmps ∧ y.state ≠ .busy ∧ H' = (id, LR y E0) :: K ∧ ∀ z : Go.Loop, RangeQ Q E ((id, LR z E0) :: K) y.pending)) :
    AWp P G0 N (.rangeFunc g ps assign body) Q E H := by
  intro G hG a w hs ro hro
  obtain rfl : ro = none := hro.resolve_right (fun h => by cases h)
  obtain ⟨I, ι, hr, hst, he⟩ := hs.rel
  refine wpIn_rangeFunc (F := RF none) ?_
  intro fn _
  have hgv := aeval_rel he hg
  generalize hfc : a.eval g = fc at hgv
  cases hgv with
  | @clo _ us _ hl hh =>
    obtain ⟨x, hx⟩ : ∃ x : Go.Loop, x = { state := .ready, pending := none, fn, tmps := a.tmps, params := ps, assign, body, defers := w.heap.size } := ⟨_, rfl⟩
    obtain ⟨a1, a2⟩ := hr.push (.deferred (some []))
    obtain ⟨wd, hwd⟩ : ∃ wd, wd = w.alloc (.deferred (some [])) := ⟨_, rfl⟩
    rw [← hwd] at a1 a2
    have hwds : wd.heap.size = w.heap.size + 1 := by rw [hwd, World.size_alloc]
    have hDd : wd.heap[w.heap.size]? = some (.deferred (some [])) := by rw [hwd]; exact World.alloc_heap_new w _
    have hidH : Heap.get ((id, LR x E0) :: H) id = some (LR x E0) := hd_get _ _ _
    obtain ⟨b1, b2⟩ := a1.placeX (id := id) (cap := 2) (x := .loop x) (w' := wd.alloc (.loop x)) (H' := (id, LR x E0) :: H) (ob' := LR x E0) rfl rfl rfl rfl (fun o ho => by rw [hid] at ho; cases ho)
      (fun hnew hI hmono => .inr (.inr (.inr ⟨rfl, _, x, by simp, hnew, hI, fun y ts r hy => by
        simp only [LR, List.cons.injEq, AV.raw.injEq, and_true] at hy
        obtain ⟨⟨rfl, rfl⟩, rfl⟩ := hy
        refine ⟨rfl, fun i t v ht hv => ?_⟩
        rw [List.getElem?_map] at ht hv
        obtain ⟨q, hq, rfl⟩ := Option.map_eq_some_iff.1 ht
        rw [hq] at hv
        cases hv
        obtain ⟨c, c1, c2⟩ := he q.1 q.2 (hE0 q (List.mem_of_getElem? hq))
        exact ⟨c, by rw [hx]; exact c1, hmono _ _ (c2.mono hr a2)⟩⟩)))
      hidH (fun j hj => by simp [Heap.get, beq_ne (Ne.symm hj)])
    obtain ⟨w1, hw1⟩ : ∃ w1, w1 = wd.alloc (.loop x) := ⟨_, rfl⟩
    rw [← hw1] at b1 b2
    obtain ⟨ι1, hι1⟩ : ∃ ι1 : Plc, ι1 = fun j => if j = id then some (wd.heap.size, 2) else ι j := ⟨_, rfl⟩
    rw [← hι1] at b1 b2
    have hιid : ι1 id = some (w.heap.size + 1, 2) := by rw [hι1, hwds]; simp
    have hL1 := rec_heap b1 hidH hιid
    have hD1 : w1.heap[w.heap.size]? = some (.deferred (some [])) := by
      rw [b2.keep _ (by rw [hwds]; omega) (own_mark a1 hDd)]
      exact hDd
    have hcall := h x (by rw [hx]) (by rw [hx]) (by rw [hx, hps]) (by rw [hx]; exact hs.size) (by rw [hx]) (by rw [hx]) I ι1 w1 (#[.func (.yield (w.heap.size + 1)) #[] #[]] ++ us) b1 (by simp [hl]; omega) (fun i v c hv hc' => by
      cases i with
      | zero =>
        rw [Array.getElem?_append_left (by simp)] at hv
        simp at hv hc'
        subst hv hc'
        exact .yld (LR x E0) hidH (Nat.le_refl _) rfl (fun _ => ⟨rfl, _, hιid, rfl⟩)
      | succ i =>
        rw [Array.getElem?_append_right (by simp)] at hv
        simp only [List.getElem?_cons_succ] at hc'
        have := hh i v c (by simpa using hv) hc'
        exact (this.mono hr a2).mono a1 b2)
    refine ⟨w.heap.size + 1, [mark w.heap.size], w1, { target := .fn (.func f) us, args := #[.func (.yield (w.heap.size + 1)) #[] #[]] }, w1, f, #[.func (.yield (w.heap.size + 1)) #[] #[]] ++ us, w1, ?_, ?_, fun _ _ => trivial, ?_, (fun q => by cases q), ?_⟩
    · rw [hw1, hwd, hx]; exact run_enterLoop_outer _ _ _ _ _
    · simp only [resolve, hfc]
      simp [go_sem]
    · simp [invoke, go_sem, hc]
    · refine ((callsIn_wide (n := 0)).2 hcall).mono ?_
      rintro e w3 ⟨r, H', I3, ι3, v3, rfl, ⟨y, K, hy1, hy2, rfl, hq⟩, _, hr3, hst3⟩
      have hι3 := same_place (G := ⟨I, ι1, (id, LR x E0) :: H, w1⟩) hst3 hidH hιid (hd_get _ _ _)
      have hb3 := rec_heap hr3 (hd_get _ _ _) hι3
      obtain ⟨z, hz⟩ : ∃ z : Go.Loop, z = { y with state := .exhausted } := ⟨_, rfl⟩
      obtain ⟨z1, z2⟩ := hr3.setRec (y := z) (H' := (id, LR z E0) :: K) (hd_get _ _ _) hι3 (by rw [hz]) (hd_get _ _ _) (fun j hj => hd_other _ _ _ hj)
      obtain ⟨w4, hw4⟩ : ∃ w4, w4 = w3.putObj (w.heap.size + 1) (.loop z) := ⟨_, rfl⟩
      rw [← hw4] at z1 z2
      refine ⟨y.pending, w4, by rw [hw4, hz]; exact run_endLoop hb3 hy2, ?_⟩
      have hall : Step I ι H w I3 ι3 ((id, LR z E0) :: K) w4 := ((a2.trans b2).trans hst3).trans z2
      have hD4 : w4.heap[w.heap.size]? = some (.deferred (some [])) := by
        rw [(hst3.trans z2).keep _ (Array.getElem?_eq_some_iff.1 hD1).1 (own_mark b1 hD1)]
        exact hD1
      have hs4 : St G N E ((id, LR z E0) :: K) { a with defers := [mark w.heap.size] ++ a.defers } w4 := by
        refine ⟨?_, hs.size, I3, ι3, z1, hst.trans hall, fun t v hv => let ⟨c, c1, c2⟩ := he t v hv; ⟨c, c1, c2.mono hr hall⟩⟩
        obtain ⟨Ds, d1, d2, d3⟩ := hs.defers.step hr hall
        refine ⟨w.heap.size :: Ds, by rw [d1]; rfl, List.nodup_cons.2 ⟨fun hmem => ?_, d2⟩, fun D hD => ?_⟩
        · have hold : ∀ D ∈ Ds, D < w.heap.size := by
            obtain ⟨Ds', d1', _, d3'⟩ := hs.defers
            have he : Ds' = Ds := by
              have h0 : Ds'.map mark = Ds.map mark := by rw [← d1', ← d1]
              have hinj : ∀ (l l' : List Nat), l.map mark = l'.map mark → l = l' := by
                intro l
                induction l with
                | nil => intro l' h; cases l' with
                  | nil => rfl
                  | cons _ _ => cases h
                | cons D l ih => intro l' h; cases l' with
                  | nil => cases h
                  | cons D' l' =>
                    simp only [List.map_cons, List.cons.injEq, mark, Deferred.mk.injEq, Target.collected.injEq, and_true] at h
                    rw [h.1, ih l' h.2]
              exact hinj _ _ h0
            subst he
            exact fun D hD => (Array.getElem?_eq_some_iff.1 (d3' D hD).2).1
          exact Nat.lt_irrefl _ (hold _ hmem)
        · rcases List.mem_cons.1 hD with rfl | hD
          · exact ⟨hst.size, hD4⟩
          · exact d3 D hD
      have hq' := hq z
      generalize y.pending = pend at hq' ⊢
      match pend, hq' with
      | none, hq' => exact ⟨E, _, hq', hs4⟩
      | some .ret, hq' => exact wpIn_ret ⟨E, _, hq', hs4⟩
      | some (.exit j), hq' => exact wpIn_exit ⟨E, _, hq', hs4⟩
end Go.Abs
end
section
set_option linter.unusedVariables false
set_option linter.unusedSimpArgs false
namespace Go.Abs
theorem ACalls.congrG {P : Program} {f : FuncId} {args : List AV} {H H1 K K1 : Heap} {r0 : AV} (h : ACalls P f args H1 (fun r X => r = r0 ∧ X = K1)) (he : ∀ j, H1.get j = H.get j) (hk : ∀ j, K.get j = K1.get j) : ACalls P f args H (fun r X => r = r0 ∧ X = K) := by
  intro I ι w vs hr hl hv
  obtain ⟨p1, p2⟩ := hr.congr he
  refine (h I ι w vs p1 hl (fun i v a h1 h2 => (hv i v a h1 h2).mono hr p2)).mono ?_
  rintro e w' ⟨r, H', I', ι', v, rfl, ⟨rfl, rfl⟩, k1, k2, k3⟩
  obtain ⟨q1, q2⟩ := k2.congr hk
  exact ⟨r, K, I', ι', v, rfl, ⟨rfl, rfl⟩, k1.mono k2 q2, q1, (p2.trans k3).trans q2⟩
theorem YCalls.congrG {P : Program} {id g : Nat} {args : List AV} {H H1 K K1 : Heap} {r0 : AV} (h : YCalls P id g args H1 (fun r X => r = r0 ∧ X = K1)) (he : ∀ j, H1.get j = H.get j) (hk : ∀ j, K.get j = K1.get j) : YCalls P id g args H (fun r X => r = r0 ∧ X = K) := by
  intro I ι w vs v hr hvy hl hv
  obtain ⟨p1, p2⟩ := hr.congr he
  obtain ⟨l, f, tmps, assign, body, e1, e2, e3⟩ := h I ι w vs v p1 (hvy.mono hr p2) hl (fun i v a h1 h2 => (hv i v a h1 h2).mono hr p2)
  refine ⟨l, f, tmps, assign, body, e1, e2, e3.mono ?_⟩
  rintro e w' ⟨r, H', I', ι', v, rfl, ⟨rfl, rfl⟩, k1, k2, k3⟩
  obtain ⟨q1, q2⟩ := k2.congr hk
  exact ⟨r, K, I', ι', v, rfl, ⟨rfl, rfl⟩, k1.mono k2 q2, q1, (p2.trans k3).trans q2⟩
theorem CallsV.congrG {P : Program} {fv : AV} {args : List AV} {H H1 K K1 : Heap} {r0 : AV} (h : CallsV P fv args H1 (fun r X => r = r0 ∧ X = K1)) (he : ∀ j, H1.get j = H.get j) (hk : ∀ j, K.get j = K1.get j) : CallsV P fv args H (fun r X => r = r0 ∧ X = K) := by
  rcases h with ⟨id, g, e, h⟩ | ⟨F, caps, e, hc, h⟩
  · exact .inl ⟨id, g, e, h.congrG he hk⟩
  · exact .inr ⟨F, caps, e, hc, h.congrG he hk⟩
/-- Two objects in front change places. -/
theorem get_swap {i j : Nat} {a b : Ob} {K : Heap} (h : i ≠ j) (k : Nat) : Heap.get ((i, a) :: (j, b) :: K) k = Heap.get ((j, b) :: (i, a) :: K) k := by
  simp only [Heap.get]
  cases e1 : Nat.beq i k with
  | true =>
    have := Nat.eq_of_beq_eq_true e1
    subst this
    rw [beq_ne (Ne.symm h)]; rfl
  | false => cases e2 : Nat.beq j k <;> rfl
end Go.Abs
end
section
set_option linter.unusedVariables false
set_option linter.unusedSimpArgs false
namespace Go.Abs
open Go.Lib
section
variable {P : Program} {N : Nat} {o : Oper} {E : Env} {H : Heap} {T S : TypeId} {x y : Operand}
theorem strCells_rel {w : World} {I : Nat → Prop} {ι : Plc} (s : ByteArray) : LRel w I ι H 1 (strCells s) (brows s.data.toList) := by
  intro i r hi k a hk
  rw [brows, List.getElem?_map] at hi
  obtain ⟨b, hb, rfl⟩ := Option.map_eq_some_iff.1 hi
  cases k with
  | zero =>
    cases hk
    exact ⟨.int .u8 b.toNat, by rw [strCells, Nat.mul_one, Nat.add_zero, List.getElem?_map, hb]; rfl, rfl, .pv (.int _ _)⟩
  | succ k => simp at hk
theorem opd_append_str {e : TypeId} {id g n : Nat} {ob : Ob} {s : ByteArray} {H2 : Heap} (ho : o.op = .call { callee := .builtin .append, args := #[x, y], argTypes := #[T, S] }) (hT : P.underlying T = some (.slice e)) (hS : P.underlying S = some .string) (hinf : EInfo P e 1 1) (hz0 : ∀ i, P.info? e = some i → i.zero = some (.int .u8 0))
    (hx : aeval E x = some (.osl id g 0 n)) (hH : H.get id = some ob) (hg : ob.g = g) (hosz : ob.sz = 1) (hty : ob.ty = e) (hn : ob.rows.length = n)
    (hy : aeval E y = some (.pv (.str s))) (hmax : n + s.size ≤ 140737488355328)
    (hH2 : H.set id ⟨g + 1, 1, e, ob.rows ++ brows s.data.toList⟩ = H2) : OpD P N o E H (.osl id (g + 1) 0 (n + s.size)) H2 := by
  intro a w I ι _ _ hr he K Q hk
  obtain ⟨i, z, hi, hz, hsize, hby, hzs, hsz0⟩ := hinf
  have hzi := hz0 i hi
  subst hg hty hn hH2
  have hlen2 : (brows s.data.toList).length = s.size := by simp [brows]
  have hml : ob.rows.length + s.size ≤ maxLen := by simp only [maxLen]; omega
  have h1 : (H.set id ⟨ob.g + 1, 1, ob.ty, ob.rows ++ brows s.data.toList⟩).get id = some ⟨ob.g + 1, 1, ob.ty, ob.rows ++ brows s.data.toList⟩ := Heap.get_set_same _ _ _
  have h2 : ∀ j, j ≠ id → (H.set id ⟨ob.g + 1, 1, ob.ty, ob.rows ++ brows s.data.toList⟩).get j = H.get j := fun j hj => Heap.get_set_other _ _ hj
  have hpos : 0 < ob.sz := osl_sz (aeval_rel he hx) hH rfl
  have p2 := ((hr.obj id ob hH).cells hpos).2.1
  rw [hosz] at p2
  have hrl : ∀ r ∈ ob.rows ++ brows s.data.toList, r.length = 1 := fun r hr' => by
    rcases List.mem_append.1 hr' with h | h
    · exact p2 r h
    · obtain ⟨b, _, rfl⟩ := List.mem_map.1 h; rfl
  have hys := (aeval_rel he hy).str_inv
  have fin : ∀ (v' : Value) (w' : World) (ι' : Plc), (Builtin.append_ #[T, S] o.type #[a.eval x, .string s]).run P w = .ok v' w' → VRel w' I ι' (H.set id ⟨ob.g + 1, 1, ob.ty, ob.rows ++ brows s.data.toList⟩) v' (.osl id (ob.g + 1) 0 (ob.rows.length + s.size)) →
      Rel I ι' (H.set id ⟨ob.g + 1, 1, ob.ty, ob.rows ++ brows s.data.toList⟩) w' → Step I ι H w I ι' (H.set id ⟨ob.g + 1, 1, ob.ty, ob.rows ++ brows s.data.toList⟩) w' → o.wpW P a w K Q := by
    intro v' w' ι' hrun k1 k2 k3
    unfold Oper.wpW execOp
    simp only [ho, resolve, invoke, builtin, Sem.run_bind, Sem.run_pure, Result.andThen_ok, List.map_toArray, List.map_cons, List.map_nil, hys, hrun]
    exact hk v' w' I ι' _ _ ⟨rfl, rfl⟩ k1 k2 k3
  have hvx := aeval_rel he hx
  obtain ⟨_, hcase⟩ := osl_slice hvx hH rfl
  rcases hcase with ⟨b, cap, oo, c1, c2, c3⟩ | ⟨c1, c2, _, c4⟩
  · obtain ⟨p1, _, ⟨b', cap', cs, e1, e2, e3, e4, e5, e5', e6⟩ | ⟨e1, _⟩⟩ := (hr.obj id ob hH).cells hpos
    · rw [c1] at e1; cases e1
      rw [hosz] at e4 e6
      have hoo : oo = 0 := by rw [c3 (by omega)]; simp
      subst hoo
      rw [Nat.sub_zero] at c2
      have olds : LRel w I ι H 1 (cs.toList.take (ob.rows.length * 1)) ob.rows := by
        intro i' r hi' k a' hk'
        obtain ⟨u, q1, q2, q3⟩ := e6 i' r hi' k a' hk'
        have hk2 : k < 1 := by rw [← p2 r (List.mem_of_getElem? hi')]; exact (List.getElem?_eq_some_iff.1 hk').1
        have hi2 : i' < ob.rows.length := (List.getElem?_eq_some_iff.1 hi').1
        exact ⟨u, by rw [List.getElem?_take, if_pos (by omega)]; simpa using q1, q2, q3⟩
      have holen : (cs.toList.take (ob.rows.length * 1)).length = ob.rows.length * 1 := by simp; omega
      have hslen : (strCells s).length = s.size := strCells_length s
      by_cases hroom : ob.rows.length + s.size ≤ cap
      · have hrun := run_append_room_string (P := P) w T S o.type ob.ty i hT hS hi hsize b ob.rows.length cap cs e2 s hroom (by omega)
        obtain ⟨k2, k3⟩ := Rel.update (H' := H.set id ⟨ob.g + 1, 1, ob.ty, ob.rows ++ brows s.data.toList⟩) (ob' := ⟨ob.g + 1, 1, ob.ty, ob.rows ++ brows s.data.toList⟩)
          (cs' := (cs.toList.take ob.rows.length ++ strCells s ++ cs.toList.drop (ob.rows.length + s.size)).toArray) hr hH c1 e2 (by simp) hosz.symm rfl (fun e => by simp at e) (by
            simp only [List.size_toArray, List.length_append, List.length_take, List.length_drop, Array.length_toList, hslen, hosz]
            omega) (by simp only [List.length_append, hlen2]; exact hroom) (by rw [hosz]; exact hrl) (fun i' r hi' k a' hk' => by
              have := LRel.app (l3 := cs.toList.drop (ob.rows.length + s.size)) olds holen (strCells_rel (H := H) s) i' r hi' k a' hk'
              rw [hosz]
              simpa [List.append_assoc] using this) h1 h2
        exact fin _ _ ι (by rw [c2]; exact hrun) (.osl _ h1 (Nat.le_refl _) rfl fun _ => ⟨Nat.zero_lt_one, by simp [hlen2], .inl ⟨b, cap, 0, c1, by simp, fun _ => by simp⟩⟩) k2 k3
      · have holds : ∀ j v, (cs.toList.take ob.rows.length)[j]? = some v → w.cell? ((⟨b, 0, none⟩ : Addr).add j) = some v := by
          intro j v hv
          rw [Addr.add_lit, Nat.zero_add, cell_of_row w b _ cs ob.ty (0, 0) e2]
          rw [List.getElem?_take] at hv
          split at hv
          · simpa using hv
          · cases hv
        have hrun := run_append_grow_string (P := P) w T S o.type ob.ty i (.int .u8 0) hT hS hi hzi ⟨b, 0, none⟩ ob.rows.length cap _ (by rw [hsize]; simpa using holen) holds s (by omega) (by omega) (growslice_fits (by omega) (by rw [hby]; omega))
        have hge := grownCap_ge w (ob.rows.length + s.size) cap ob.ty
        have hcm := grownCap_le_maxLen w (ob.rows.length + s.size) cap ob.ty hml
        have hz1 : (Value.int IntKind.u8 0).cells.size = 1 := rfl
        obtain ⟨k2, k3⟩ := Rel.place (H' := H.set id ⟨ob.g + 1, 1, ob.ty, ob.rows ++ brows s.data.toList⟩) (id := id) (cap := grownCap w (ob.rows.length + s.size) cap ob.ty) (ob' := ⟨ob.g + 1, 1, ob.ty, ob.rows ++ brows s.data.toList⟩)
          (cs' := (cs.toList.take ob.rows.length).toArray ++ (strCells s).toArray ++ Builtin.zeroCells (Value.int .u8 0).cells (grownCap w (ob.rows.length + s.size) cap ob.ty - (ob.rows.length + s.size)))
          (w' := w.drew.alloc (.cells ((cs.toList.take ob.rows.length).toArray ++ (strCells s).toArray ++ Builtin.zeroCells (Value.int .u8 0).cells (grownCap w (ob.rows.length + s.size) cap ob.ty - (ob.rows.length + s.size))) ob.ty)) hr rfl rfl rfl rfl
          (fun o' ho' => by rw [hH] at ho'; cases ho'; simp) Nat.zero_lt_one (by
            simp only [Array.size_append, List.size_toArray, size_zeroCells, hz1, hslen, List.length_take, Array.length_toList]
            omega) (by simp only [List.length_append, hlen2]; exact hge) hcm hrl (fun i' r hi' k a' hk' => by
              obtain ⟨u, q1, q2, q3⟩ := LRel.app (l3 := (Builtin.zeroCells (Value.int .u8 0).cells (grownCap w (ob.rows.length + s.size) cap ob.ty - (ob.rows.length + s.size))).toList) olds holen (strCells_rel (H := H) s) i' r hi' k a' hk'
              refine ⟨u, ?_, q2, q3⟩
              rw [← Array.getElem?_toList]
              simpa [List.append_assoc] using q1) h1 h2
        exact fin _ _ _ (by rw [c2]; exact hrun) (.osl _ h1 (Nat.le_refl _) rfl fun _ => ⟨Nat.zero_lt_one, by simp [hlen2], .inl ⟨w.heap.size, _, 0, by simp; rfl, by simp, fun _ => by simp⟩⟩) k2 k3
    · rw [c1] at e1; cases e1
  · have hnil : ob.rows = [] := List.eq_nil_of_length_eq_zero c4
    by_cases h0 : s.size = 0
    · have hb0 : brows s.data.toList = [] := List.eq_nil_of_length_eq_zero (by rw [hlen2]; exact h0)
      have hrun : (Builtin.append_ #[T, S] o.type #[.slice none 0 0, .string s]).run P w = .ok (.slice none 0 0) w := by
        have hf := run_firstCells_string (P := P) w 1 s
        rw [h0] at hf
        simp [Builtin.append_, run_underlying hT, run_underlying hS, sizeOf, typeInfo, hi, hsize, Builtin.lenOf, h0, hf]
      obtain ⟨k2, k3⟩ := Rel.tick (H' := H.set id ⟨ob.g + 1, 1, ob.ty, ob.rows ++ brows s.data.toList⟩) (ob' := ⟨ob.g + 1, 1, ob.ty, ob.rows ++ brows s.data.toList⟩) hr hH (by simp) hosz.symm rfl (by simp [hb0]) h1 h2
      exact fin _ _ ι (by rw [c2]; exact hrun) (.osl _ h1 (Nat.le_refl _) rfl fun _ => ⟨Nat.zero_lt_one, by simp [hlen2], .inr ⟨c1, rfl, rfl, by simp [hnil, h0]⟩⟩) k2 k3
    · have hr0 := run_append_nil_string (P := P) w T S o.type ob.ty i (.int .u8 0) hT hS hi hzi s (by omega) (by omega) (by rw [hby]; omega)
      have hslen : (strCells s).length = s.size := strCells_length s
      have e1 : (s.data.map fun b => Value.int .u8 b.toNat) = (strCells s).toArray := by
        apply Array.ext'
        simp [strCells]
      rw [e1] at hr0
      have hml0 : s.size ≤ maxLen := by omega
      have hge := grownCap_ge w s.size 0 ob.ty
      have hcm := grownCap_le_maxLen w s.size 0 ob.ty hml0
      have hz1 : (Value.int IntKind.u8 0).cells.size = 1 := rfl
      obtain ⟨k2, k3⟩ := Rel.place (H' := H.set id ⟨ob.g + 1, 1, ob.ty, ob.rows ++ brows s.data.toList⟩) (id := id) (cap := grownCap w s.size 0 ob.ty) (ob' := ⟨ob.g + 1, 1, ob.ty, ob.rows ++ brows s.data.toList⟩)
        (cs' := (strCells s).toArray ++ Builtin.zeroCells (Value.int .u8 0).cells (grownCap w s.size 0 ob.ty - s.size))
        (w' := w.drew.alloc (.cells ((strCells s).toArray ++ Builtin.zeroCells (Value.int .u8 0).cells (grownCap w s.size 0 ob.ty - s.size)) ob.ty)) hr rfl rfl rfl rfl
        (fun o' ho' => by rw [hH] at ho'; cases ho'; simp) Nat.zero_lt_one (by
          simp only [Array.size_append, List.size_toArray, size_zeroCells, hz1, hslen]
          omega) (by simp only [List.length_append, hlen2, hnil, List.length_nil, Nat.zero_add]; exact hge) hcm hrl (fun i' r hi' k a' hk' => by
            simp only [hnil, List.nil_append] at hi'
            obtain ⟨u, q1, q2, q3⟩ := strCells_rel (w := w) (I := I) (ι := ι) (H := H) s i' r hi' k a' hk'
            have hlt := (List.getElem?_eq_some_iff.1 q1).1
            refine ⟨u, ?_, q2, q3⟩
            rw [Array.getElem?_append_left (by simpa using hlt)]
            simpa using q1) h1 h2
      exact fin _ _ _ (by rw [c2]; exact hr0) (.osl _ h1 (Nat.le_refl _) rfl fun _ => ⟨Nat.zero_lt_one, by simp [hlen2], .inl ⟨w.heap.size, _, 0, by simp; rfl, by simp [hnil], fun _ => by simp⟩⟩) k2 k3
/-- The rule in the form in which a walk uses it. -/
theorem x_append_str {e : TypeId} {id g n k : Nat} {ob : Ob} {s : ByteArray} {rows' : List (List AV)} (ho : o.op = .call { callee := .builtin .append, args := #[x, y], argTypes := #[T, S] }) (hSl : SliceOf P T e 1) (hS : P.underlying S = some .string) (hinf : EI P e 1 1) (hz0 : ∀ i, P.info? e = some i → i.zero = some (.int .u8 0))
    (hx : aeval E x = some (.osl id g 0 n)) (hH : H.get id = some ob) (hg : ob.g = g) (hosz : ob.sz = 1) (hty : ob.ty = e) (hn : ob.rows.length = n)
    (hy : aeval E y = some (.pv (.str s))) (hmax : n + s.size ≤ 140737488355328) (hk : n + s.size = k) (hrows : ob.rows ++ brows s.data.toList = rows') :
    OpD P N o E H (.osl id (g + 1) 0 k) ((id, ⟨g + 1, 1, e, rows'⟩) :: H) := by
  subst hk hrows
  exact OpD.congr (opd_append_str ho hSl.1 hS hinf.1 hz0 hx hH hg hosz hty hn hy hmax rfl) (fun j => set_cons _ _ _ j)
end
end Go.Abs
end
section
set_option linter.unusedVariables false
set_option linter.unusedSimpArgs false
namespace Go.Abs
theorem Ent.get' {G0 : Heap} {E E' : Env} {H H' : Heap} (h : EOk0 E E') (hH : ∀ j, H'.get j = H.get j) : Ent G0 E H E' H' := (Ent.e0 h).trans (Ent.get (fun _ => rfl) hH)
theorem get_dup (id : Nat) (o o' : Ob) (H : Heap) (j : Nat) : Heap.get ((id, o) :: H) j = Heap.get ((id, o) :: (id, o') :: H) j := by
  cases e : Nat.beq id j <;> simp [Heap.get, e]
theorem Kept.app {D H G0 : Heap} (hG : ∀ p ∈ D, G0.get p.1 = none) : Kept G0 H (D ++ H) := fun id hi => by
  rw [hget_app]
  cases e : D.get id with
  | none => rfl
  | some o =>
    have := hG _ (mem_of_hget e)
    rw [this] at hi
    cases hi
/-- The objects in front end with the call. -/
theorem Fin.pops' {G0 H : Heap} {r : AV} (D : Heap) (hr : Clo H r) (hc : Closed H) (hD : ∀ p ∈ D, H.get p.1 = none) (hG : ∀ p ∈ D, G0.get p.1 = none) : Fin G0 (D ++ H) r H r := by
  intro G hG' I ι w v h1 h2 h3
  subst hG'
  exact ⟨I, ι, h1.restrict (Sub.app hD) hc, h2.restrict (Sub.app hD) (Kept.app hG), h3.restrict (Sub.app hD) hr⟩
/-- The result's slice is frozen. -/
theorem Fin.fzC {G0 H H' : Heap} {r r' : AV} {id : Nat} {ob : Ob} (ps : List (List PV)) (hH : H.get id = some ob) (hps : ob.rows = ps.map (·.map .pv)) (hf : Fz H' id ob.g ps r r') (hno : H'.get id = none) (hs : Sub H' H) (hc : Closed H') (hk : Kept G0 H' H) : Fin G0 H r H' r' := by
  intro G hG I ι w v h1 h2 h3
  subst hG
  exact ⟨_, ι, h1.freeze hs hc hH hno, h2.freeze hs hk hH, VRel.freeze h1 hs hH hps hf h3⟩
/-- An owned slice in front is what is returned. -/
theorem Fin.slice {G0 H : Heap} {id g n : Nat} {ob : Ob} (D : Heap) (ps : List (List PV)) (hH : Heap.get (D ++ H) id = some ob) (hg : ob.g = g) (hps : ob.rows = ps.map (·.map .pv)) (hn : ps.length = n) (hc : Closed H) (hD : ∀ p ∈ D, H.get p.1 = none) (hG : ∀ p ∈ D, G0.get p.1 = none) (hid : H.get id = none) :
    Fin G0 (D ++ H) (.osl id g 0 n) H (.pv (.sl ps)) := by
  subst hg hn
  exact Fin.fzC ps hH hps (.osl (by rw [Nat.zero_add, List.drop_zero, List.take_length])) hid (Sub.app hD) hc (Kept.app hG)
end Go.Abs
end
section
set_option linter.unusedVariables false
set_option linter.unusedSimpArgs false
namespace Go.Abs
theorem Clo.up {H H' : Heap} (hs : ∀ i, (H.get i).isSome = true → (H'.get i).isSome = true) {a : AV} (h : Clo H a) : Clo H' a := by
  induction h with
  | any => exact .any
  | pv p => exact .pv p
  | pad rows i k => exact .pad rows i k
  | ref h => exact .ref (hs _ h)
  | osl h => exact .osl (hs _ h)
  | clo h ih => exact .clo ih
  | agg h ih => exact .agg ih
  | tup h ih => exact .tup ih
  | mp h => exact .mp (hs _ h)
  | it h => exact .it (hs _ h)
  | yld h => exact .yld (hs _ h)
  | raw x ts => exact .raw x ts
  | osc h => exact .osc (hs _ h)
theorem Clo.app {D K : Heap} {a : AV} (h : Clo K a) : Clo (D ++ K) a := h.up fun i hi => by
  rw [hget_app]
  cases D.get i with
  | none => exact hi
  | some o => rfl
theorem Closed.app {D K : Heap} (h3 : ∀ p ∈ D, ∀ r ∈ p.2.rows, ∀ a ∈ r, Clo (D ++ K) a) (h4 : Closed K) : Closed (D ++ K) := by
  intro id o ho
  rw [hget_app] at ho
  cases e : D.get id with
  | some x =>
    rw [e] at ho
    cases ho
    exact h3 _ (mem_of_hget e)
  | none =>
    rw [e] at ho
    exact fun r hr a ha => (h4 id o ho r hr a ha).app
theorem Sub.front {D D' K : Heap} (h1 : ∀ p ∈ D, K.get p.1 = none) (h2 : ∀ p ∈ D', D.get p.1 = some p.2) : Sub (D' ++ K) (D ++ K) := by
  intro id o ho
  rw [hget_app] at ho ⊢
  cases e : D'.get id with
  | some x =>
    rw [e] at ho
    cases ho
    rw [h2 _ (mem_of_hget e)]
  | none =>
    rw [e] at ho
    cases e2 : D.get id with
    | none => exact ho
    | some x =>
      have := h1 _ (mem_of_hget e2)
      rw [this] at ho; cases ho
theorem Kept.front {G0 D D' K : Heap} (h2 : ∀ p ∈ D', D.get p.1 = some p.2) (h5 : ∀ p ∈ D, G0.get p.1 = none) : Kept G0 (D' ++ K) (D ++ K) := by
  intro id hi
  have hD : D.get id = none := by
    cases e : D.get id with
    | none => rfl
    | some x =>
      have := h5 _ (mem_of_hget e)
      rw [this] at hi; cases hi
  have hD' : D'.get id = none := by
    cases e : D'.get id with
    | none => rfl
    | some x =>
      have := h2 _ (mem_of_hget e)
      rw [hD] at this; cases this
  rw [hget_app, hget_app, hD, hD']
/-- Objects in front are dropped, the others stay. -/
theorem Ent.front {G0 : Heap} {E E' : Env} {K : Heap} (D D' : Heap) (hE : EOk E (D' ++ K) E') (h1 : ∀ p ∈ D, K.get p.1 = none) (h2 : ∀ p ∈ D', D.get p.1 = some p.2) (h3 : ∀ p ∈ D', ∀ r ∈ p.2.rows, ∀ a ∈ r, Clo (D' ++ K) a) (h4 : Closed K)
    (h5 : ∀ p ∈ D, G0.get p.1 = none) : Ent G0 E (D ++ K) E' (D' ++ K) := by
  intro G hG N a w hs
  obtain ⟨I, ι, hr, hst, he⟩ := hs.rel
  subst hG
  have hsub := Sub.front h1 h2
  refine ⟨hs.defers, hs.size, I, ι, hr.restrict hsub (Closed.app h3 h4), hst.restrict hsub (Kept.front h2 h5), fun t v ht => ?_⟩
  obtain ⟨k1, k2⟩ := hE.spec _ (mem_of_get ht)
  obtain ⟨c, hc, hv⟩ := he t v k1
  exact ⟨c, hc, hv.restrict hsub k2⟩
section
variable {F : Fence} {n : Nat} {P : Program} {b : Frame} {a : Act} {k : List Item} {cs : List Frame} {w : World} {Q : Exit → Act → World → Prop}
theorem stepR_scope {c : Code} : step P (lone (b.atR a (.code (.scope c) :: k)) cs w) = .next (lone (b.atR a (.code c :: .inScope c :: k)) cs w) :=
  step_lone_go (by simp [stepG, stepG.exec, Frame.atR])
theorem stepR_inScope {c : Code} : step P (lone (b.atR a (.inScope c :: k)) cs w) = .next (lone (b.atR a k) cs w) :=
  step_lone_go (by simp [stepG, stepG.exec, Frame.atR])
theorem wpIn_scope_straight {c : Code} (h : c.wpIn F n P (Exit.noGoto Q) a w) : (Code.scope c).wpIn F n P Q a w := by
  intro b k cs hro hb hr
  have h0 : (lone (b.atR a (.code (.scope c) :: k)) cs w).fenced P F := fenced_calm hb hr rfl
  obtain ⟨e, a₁, w₁, hq, harr⟩ := h b (.inScope c :: k) cs hro hb hr
  cases e with
  | normal => exact ⟨.normal, a₁, w₁, hq, .head h0 stepR_scope (StepsIn.trans harr (.one (fenced_calm hb hr rfl) stepR_inScope))⟩
  | exit id =>
    have hx : exitTo id (.inScope c :: k) = exitTo id k := by simp [exitTo]
    exact ⟨_, a₁, w₁, hq, fun k' hk => .head h0 stepR_scope (harr.1 k' (by rw [hx]; exact hk)),
      fun hr' hk => let ⟨k₁, h1, h2⟩ := harr.2 hr' (by rw [hx]; exact hk); ⟨k₁, h1, .head h0 stepR_scope h2⟩⟩
  | goto l => exact hq.elim
  | ret => exact ⟨_, a₁, w₁, hq, .of_steps (.one h0 stepR_scope) harr⟩
  | panic ch => exact ⟨_, a₁, w₁, hq, .of_steps (.one h0 stepR_scope) harr⟩
  | outgrown => exact ⟨_, a₁, w₁, hq, .of_steps (.one h0 stepR_scope) harr⟩
end
/-- A scope of labels into which nothing jumps. -/
def ANoGoto (Q : Exit → Env → Heap → Prop) : Exit → Env → Heap → Prop
  | .goto _, _, _ => False
  | e, E, H => Q e E H
theorem awp_scope {P : Program} {G0 : Heap} {N : Nat} {E : Env} {H : Heap} {Q : Exit → Env → Heap → Prop} {c : Code} (h : AWp P G0 N c (ANoGoto Q) E H) : AWp P G0 N (.scope c) Q E H := by
  intro G hG a w hs ro hr
  refine wpIn_scope_straight (wpIn_mono (h G hG a w hs ro hr) ?_)
  rintro e a' w' ⟨E', H', q, s⟩
  cases e <;> first | exact ⟨E', H', q, s⟩ | exact q.elim
/-- Each object's cells lead into the heap. -/
def ClosedL (H : Heap) : Heap → Prop
  | [] => True
  | (_, o) :: r => (∀ r ∈ o.rows, ∀ a ∈ r, Clo H a) ∧ ClosedL H r
theorem ClosedL.spec {H : Heap} : ∀ {L : Heap}, ClosedL H L → ∀ p ∈ L, ∀ r ∈ p.2.rows, ∀ a ∈ r, Clo H a
  | (i, o) :: L, h, p, hp => by
    rcases List.mem_cons.1 hp with rfl | hp
    · exact h.1
    · exact ClosedL.spec h.2 p hp
theorem Closed.ofL {H : Heap} (h : ClosedL H H) : Closed H := fun _ _ ho => h.spec _ (mem_of_hget ho)
/-- Names of objects of a front. -/
def lo (D : Heap) (n : Nat) : Prop := ∀ p ∈ D, 900 ≤ p.1 ∧ p.1 < n
/-- No names of fronts are in a heap. -/
def clear (K : Heap) : Prop := ∀ i, 900 ≤ i → i < 1000 → K.get i = none
/-- A returned value and the heap in another writing. -/
theorem Fin.of_ent {G0 H H' : Heap} {r r' : AV} (h : Ent G0 [(0, r)] H [(0, r')] H') : Fin G0 H r H' r' := by
  intro G hG I ι w v h1 h2 h3
  obtain ⟨_, _, I', ι', k1, k2, k3⟩ := h G hG 1 ⟨#[v], []⟩ w ⟨Marks.nil _ _, rfl, I, ι, h1, h2, fun t x hx => by
    simp only [Env.get] at hx
    cases e : Nat.beq 0 t with
    | true => rw [e] at hx; cases hx; rw [← Nat.eq_of_beq_eq_true e]; exact ⟨v, rfl, h3⟩
    | false => rw [e] at hx; cases hx⟩
  obtain ⟨c, hc, hv⟩ := k3 0 r' rfl
  cases hc
  exact ⟨I', ι', k1, k2, hv⟩
/-- What stands in front in both forms, or not behind. -/
theorem Sub.front' {D D' K : Heap} (h1 : ∀ p ∈ D, (D'.get p.1).isSome = true ∨ K.get p.1 = none) (h2 : ∀ p ∈ D', D.get p.1 = some p.2) : Sub (D' ++ K) (D ++ K) := by
  intro id o ho
  rw [hget_app] at ho ⊢
  cases e : D'.get id with
  | some x =>
    rw [e] at ho
    cases ho
    rw [h2 _ (mem_of_hget e)]
  | none =>
    rw [e] at ho
    cases e2 : D.get id with
    | none => exact ho
    | some x =>
      rcases h1 _ (mem_of_hget e2) with h | h
      · simp only [e] at h; cases h
      · rw [h] at ho; cases ho
theorem Kept.front' {G0 D D' K : Heap} (h2 : ∀ p ∈ D', D.get p.1 = some p.2) (h5 : ∀ p ∈ D, (D'.get p.1).isSome = true ∨ G0.get p.1 = none) : Kept G0 (D' ++ K) (D ++ K) := by
  intro id hi
  rw [hget_app, hget_app]
  cases e : D'.get id with
  | some x => rw [h2 _ (mem_of_hget e)]
  | none =>
    cases e2 : D.get id with
    | none => rfl
    | some x =>
      rcases h5 _ (mem_of_hget e2) with h | h
      · simp only [e] at h; cases h
      · rw [h] at hi; cases hi
theorem Ent.front' {G0 : Heap} {E E' : Env} {K : Heap} (D D' : Heap) (hE : EOk E (D' ++ K) E') (h1 : ∀ p ∈ D, (D'.get p.1).isSome = true ∨ K.get p.1 = none) (h2 : ∀ p ∈ D', D.get p.1 = some p.2) (h3 : ∀ p ∈ D', ∀ r ∈ p.2.rows, ∀ a ∈ r, Clo (D' ++ K) a) (h4 : Closed K)
    (h5 : ∀ p ∈ D, (D'.get p.1).isSome = true ∨ G0.get p.1 = none) : Ent G0 E (D ++ K) E' (D' ++ K) := by
  intro G hG N a w hs
  obtain ⟨I, ι, hr, hst, he⟩ := hs.rel
  subst hG
  have hsub := Sub.front' h1 h2
  refine ⟨hs.defers, hs.size, I, ι, hr.restrict hsub (Closed.app h3 h4), hst.restrict hsub (Kept.front' h2 h5), fun t v ht => ?_⟩
  obtain ⟨k1, k2⟩ := hE.spec _ (mem_of_get ht)
  obtain ⟨c, hc, hv⟩ := he t v k1
  exact ⟨c, hc, hv.restrict hsub k2⟩
theorem Fin.front' {G0 K : Heap} {r : AV} (D D' : Heap) (hr : Clo (D' ++ K) r) (h1 : ∀ p ∈ D, (D'.get p.1).isSome = true ∨ K.get p.1 = none) (h2 : ∀ p ∈ D', D.get p.1 = some p.2) (h3 : ∀ p ∈ D', ∀ r ∈ p.2.rows, ∀ a ∈ r, Clo (D' ++ K) a) (h4 : Closed K)
    (h5 : ∀ p ∈ D, (D'.get p.1).isSome = true ∨ G0.get p.1 = none) : Fin G0 (D ++ K) r (D' ++ K) r := by
  intro G hG I ι w v k1 k2 k3
  subst hG
  have hsub := Sub.front' h1 h2
  exact ⟨I, ι, k1.restrict hsub (Closed.app h3 h4), k2.restrict hsub (Kept.front' h2 h5), k3.restrict hsub hr⟩
theorem Fin.get' {G0 H H' : Heap} {r : AV} (hH : ∀ j, H'.get j = H.get j) : Fin G0 H r H' r := Fin.of_ent (Ent.get' ⟨⟨_, rfl, rfl⟩, trivial⟩ hH)
end Go.Abs
end
section
set_option linter.unusedVariables false
set_option linter.unusedSimpArgs false
namespace Go.Abs
section
variable {P : Program}
def gone (ob : Ob) : Ob := ⟨ob.g + 1, ob.sz, ob.ty, []⟩
def away (ι : Plc) (id : Nat) : Plc := fun x => if x = id then none else ι x
end
end Go.Abs
end
section
set_option linter.unusedVariables false
set_option linter.unusedSimpArgs false
namespace Go.Abs
def isPtr (v : Value) : Prop := ∃ p, v = .pointer p
theorem liesAt_self {P : Program} {e : TypeId} {s : Nat} (hc : P.cellsOf e = s + 1) (count : Nat) (hn : 1 ≤ count) : liesAt P P.depth e count 0 e 1 = true := by
  have hd : P.depth = (2 * (P.types.size + Made.depth) + 1) + 1 := rfl
  rw [hd]
  simp only [liesAt, Bool.or_eq_true]
  left
  rw [hd]
  simp [rowAt, hc, hn, sameLayout]
theorem ref_shape {I : Nat → Prop} {ι : Plc} {H : Heap} {w : World} {v : Value} {id g : Nat} {ob : Ob} (hr : Rel I ι H w) (h : VRel w I ι H v (.ref id g 0 0)) (hH : H.get id = some ob) (hg : ob.g = g) (hne : ob.rows ≠ []) :
    ∃ b cap, v = .pointer (some ⟨b, 0, none⟩) ∧ w.shape? b = some (ob.ty, cap * ob.sz) ∧ 0 < cap ∧ 0 < ob.sz := by
  obtain ⟨b, cap, e1, e2⟩ := ref_ptr h hH hg
  have hz := ref_sz h hH hg
  obtain ⟨_, _, ⟨b', cap', cs, f1, f2, f3, f4, f5, _⟩ | ⟨f1, _⟩⟩ := (hr.obj id ob hH).cells hz
  · rw [e1] at f1; cases f1
    refine ⟨b, cap, by rw [e2]; simp, by simp [World.shape?, f2, f4], ?_, hz⟩
    have : 0 < ob.rows.length := List.length_pos_iff.2 hne
    omega
  · rw [e1] at f1; cases f1
theorem VRel.sat_inv {w : World} {I : Nat → Prop} {ι : Plc} {H : Heap} {v : Value} {p : Value → Prop} (h : VRel w I ι H v (.pv (.sat p))) : p v := by
  have := h.pv_inv
  cases this with
  | sat h1 h2 => exact h2
section
variable {P : Program} {N : Nat} {o : Oper} {E : Env} {H : Heap} {S T t t' e : TypeId} {x y : Operand} {id g n : Nat} {ob : Ob}
theorem info_size {P : Program} {t : TypeId} {n : Nat} (h : (P.info? t).map (·.size) = some n) : ∃ j, P.info? t = some j ∧ j.size = n := by
  cases hi : P.info? t with
  | none => rw [hi] at h; cases h
  | some j => rw [hi] at h; exact ⟨j, rfl, Option.some.inj h⟩
theorem opd_to_unsafe (ho : o.op = .convert S T x) (hS : P.underlying S = some (.pointer t)) (hT : P.underlying T = some .unsafePointer) (hi : (P.info? t).map (·.size) = some (n + 1)) (hx : aeval E x = some (.ref id g 0 0)) (hH : H.get id = some ob) (hg : ob.g = g) (hne : ob.rows ≠ []) : OpD P N o E H (.ref id g 0 0) H :=
  .of_run fun a w I ι hr he => by
    have hv := aeval_rel he hx
    obtain ⟨b, cap, e1, e2, e3, e4⟩ := ref_shape hr hv hH hg hne
    obtain ⟨j, h1, h2⟩ := info_size hi
    rw [e1] at hv
    have hpos : 0 < cap * ob.sz := Nat.mul_pos e3 e4
    refine ⟨_, ?_, hv⟩
    simp only [execOp, ho, e1]
    rw [Sem.run_bind, Lib.run_to_unsafe w ⟨b, 0, none⟩ hS hT h1 (by omega) e2 hpos]
    rfl
theorem opd_from_unsafe (ho : o.op = .convert S T x) (hS : P.underlying S = some .unsafePointer) (hT : P.underlying T = some (.pointer t)) (hi : (P.info? t).map (·.size) = some (n + 1)) (hx : aeval E x = some (.ref id g 0 0)) (hH : H.get id = some ob) (hg : ob.g = g) (hne : ob.rows ≠ []) (hty : ob.ty = t) (hsz : ob.sz = n + 1) : OpD P N o E H (.ref id g 0 0) H :=
  .of_run fun a w I ι hr he => by
    have hv := aeval_rel he hx
    obtain ⟨b, cap, e1, e2, e3, e4⟩ := ref_shape hr hv hH hg hne
    obtain ⟨j, h1, h2⟩ := info_size hi
    rw [e1] at hv
    have hc : P.cellsOf t = n + 1 := by simp [Program.cellsOf, h1, h2]
    refine ⟨_, ?_, hv⟩
    simp only [execOp, ho, e1]
    rw [hty] at e2
    rw [Sem.run_bind, Lib.run_from_unsafe w ⟨b, 0, none⟩ hS hT h1 e2 (liesAt_self hc _ (by rw [hc, hsz, Nat.mul_div_cancel _ (by omega)]; exact e3))]
    rfl
theorem opd_pne_same {i k : Nat} (ho : o.op = .binOp .neq t x y t') (ht : P.underlying t = some (.pointer e)) (hi : (P.info? e).map (·.size) = some (n + 1)) (hx : aeval E x = some (.ref id g i k)) (hy : aeval E y = some (.ref id g i k)) (hH : H.get id = some ob) (hg : ob.g = g) : OpD P N o E H (.pv (.bool false)) H :=
  .of_run fun a w I ι _ he => ⟨.bool false, by
    obtain ⟨b, cap, q1, e1⟩ := ref_ptr (aeval_rel he hx) hH hg
    obtain ⟨b', cap', q2, e2⟩ := ref_ptr (aeval_rel he hy) hH hg
    rw [q1] at q2; cases q2
    obtain ⟨j, h1, h2⟩ := info_size hi
    simp only [execOp, ho, e1, e2, eqGuard_at_pointer, Sem.run_bind, Sem.run_pure, Result.andThen_ok, Lib.run_neq_ptr_same w _ ht h1], .pv (.bool _)⟩
theorem ext_same (v : AV) : ExtR P Extern.AbiNoEscape.same H [v] v := by
  intro w I ι cs hl h
  obtain ⟨l⟩ := cs
  match l, hl with
  | [u], _ => exact ⟨u, rfl, h 0 u v rfl rfl⟩
/-- The pointer to the bytes of an owned slice. -/
theorem opd_sliceData (ho : o.op = .call { callee := .builtin .unsafeSliceData, args := #[x], argTypes := #[T] }) (hx : aeval E x = some (.osl id g 0 n)) (hH : H.get id = some ob) (hg : ob.g = g) (hn : 0 < n) : OpD P N o E H (.ref id g 0 0) H :=
  .of_run fun a w I ι hr he => by
    have hv := aeval_rel he hx
    have hz := osl_sz hv hH hg
    obtain ⟨hl, ⟨b, cap, oo, e1, e2, e3⟩ | ⟨_, _, _, e4⟩⟩ := osl_slice hv hH hg
    · obtain ⟨_, _, ⟨b', cap', cs, f1, f2, f3, f4, f5, _⟩ | ⟨f1, _⟩⟩ := (hr.obj id ob hH).cells hz
      · rw [e1] at f1; cases f1
        obtain rfl : oo = 0 := by rw [e3 (.inr rfl)]; simp
        refine ⟨.pointer (some ⟨b, 0, none⟩), ?_, .ref ob hH (Nat.le_of_eq hg.symm) rfl fun _ => ⟨hz, b, cap, e1, by simp⟩⟩
        have hc : cap ≠ 0 := by omega
        simp [execOp, ho, resolve, invoke, builtin, e2, Lib.run_unsafeSliceData_row w _ _ _ _ _ hc]
      · rw [e1] at f1; cases f1
    · omega
/-- .. of a slice of no bytes. -/
theorem opd_sliceData0 (ho : o.op = .call { callee := .builtin .unsafeSliceData, args := #[x], argTypes := #[T] }) (hp : P.underlying o.type = some (.pointer e)) (hx : aeval E x = some (.osl id g 0 0)) (hH : H.get id = some ob) (hg : ob.g = g) : OpD P N o E H (.pv (.sat isPtr)) H := by
  intro a w I ι _ _ hr he K Q hk
  have hv := aeval_rel he hx
  have hz := osl_sz hv hH hg
  have fin : ∀ (c : Value) (w' : World), (Builtin.unsafeSliceData_ #[T] o.type #[a.eval x]).run P w = .ok c w' → isPtr c → Rel I ι H w' → Step I ι H w I ι H w' → o.wpW P a w K Q := fun c w' hrun hc k1 k2 => by
    have hone : c.oneCell' = true := by obtain ⟨p, rfl⟩ := hc; rfl
    unfold Oper.wpW
    have : (execOp a.eval o).run P w = .ok (.value c) w' := by
      simp [execOp, ho, resolve, invoke, builtin, hrun]
    rw [this]
    exact hk c w' I ι _ H ⟨rfl, rfl⟩ (.pv (.sat hone hc)) k1 k2
  obtain ⟨hl, ⟨b, cap, oo, e1, e2, e3⟩ | ⟨_, e2, _, e4⟩⟩ := osl_slice hv hH hg
  · by_cases hc : cap = 0
    · obtain ⟨_, _, ⟨b', cap', cs, f1, f2, f3, f4, f5, _⟩ | ⟨f1, _⟩⟩ := (hr.obj id ob hH).cells hz
      · rw [e1] at f1; cases f1
        obtain ⟨k1, k2⟩ := hr.push (.view ⟨b, oo, none⟩ e)
        refine fin (.pointer (some ⟨w.heap.size, 0, none⟩)) _ ?_ ⟨_, rfl⟩ k1 k2
        rw [e2, hc]
        exact Lib.run_unsafeSliceData_zero w #[T] o.type e hp ⟨b, oo, none⟩ 0 (ob.ty, cs.size) (by simp [World.shape?, f2])
      · rw [e1] at f1; cases f1
    · refine fin (.pointer (some ⟨b, oo, none⟩)) _ ?_ ⟨_, rfl⟩ hr (Step.refl _ _ _ _)
      rw [e2]
      exact Lib.run_unsafeSliceData_row w #[T] o.type ⟨b, oo, none⟩ 0 _ (by omega)
  · refine fin (.pointer none) _ ?_ ⟨_, rfl⟩ hr (Step.refl _ _ _ _)
    rw [e2]
    exact Lib.run_unsafeSliceData_nil w #[T] o.type 0 0
theorem opd_unsafeString0 {T2 : TypeId} (ho : o.op = .call { callee := .builtin .unsafeString, args := #[x, y], argTypes := #[T, T2] }) (hx : aeval E x = some (.pv (.sat isPtr))) (hy : aeval E y = some (.pv (.int .i64 0))) : OpD P N o E H (.pv (.str ⟨#[]⟩)) H :=
  .of_run fun a w I ι hr he => by
    have h2 := (aeval_rel he hy).int_inv
    have h1 := (aeval_rel he hx).sat_inv
    · obtain ⟨p, hp⟩ := h1
      refine ⟨_, ?_, .pv (.str _)⟩
      simp [execOp, ho, resolve, invoke, builtin, hp, h2, Lib.run_unsafeString_none w T T2 o.type p]
      rfl
/-- An object is given up; its block turns. -/
theorem Rel.lost {I : Nat → Prop} {ι : Plc} {w w' : World} {b cap : Nat} (hr : Rel I ι H w) (hH : H.get id = some ob) (hz : 0 < ob.sz) (hι : ι id = some (b, cap)) (hos : w'.os = w.os) (htape : w'.tape = w.tape) (hout : w'.output = w.output) (hsize : w'.heap.size = w.heap.size)
    (hw : ∀ c, c ≠ b → w'.heap[c]? = w.heap[c]?) : Rel I (away ι id) ((id, gone ob) :: H) w' ∧ Step I ι H w I (away ι id) ((id, gone ob) :: H) w' := by
  have hown : Own ι H b := ⟨id, ob, cap, hH, hι⟩
  have hst : Step I ι H w I (away ι id) ((id, gone ob) :: H) w' := by
    refine ⟨hos, htape, hout, by omega, fun a _ hn => ?_, fun _ h => h, fun _ h => .inl h, fun c hc => ?_, fun c _ hn => hw c (fun e => hn (e ▸ hown)), fun j o hj => ?_⟩
    · unfold World.frozen?
      rw [hw a.block (fun e => hn (by rw [e]; exact hown))]
    · obtain ⟨j, o, cp, hj, hi⟩ := hc
      by_cases e : j = id
      · rw [away, if_pos e] at hi; cases hi
      · rw [away, if_neg e] at hi
        rw [get_cons_other _ _ e] at hj
        exact .inl ⟨j, o, cp, hj, hi⟩
    · by_cases e : j = id
      · subst e
        rw [hH] at hj; cases hj
        exact ⟨gone ob, get_cons_same _ _ _, Nat.le_succ _, fun h => absurd h (by simp [gone])⟩
      · exact ⟨o, by rw [get_cons_other _ _ e]; exact hj, Nat.le_refl _, fun _ => ⟨if_neg e, rfl, fun _ => Nat.le_refl _⟩⟩
  refine ⟨⟨fun c hc => by rw [hsize]; exact hr.imm c hc, fun j o hj => ?_, fun j j' o o' c d d' hj hj' hi hi' => ?_⟩, hst⟩
  · by_cases e : j = id
    · subst e
      rw [get_cons_same] at hj; cases hj
      exact .inl ⟨hz, by simp [gone], .inr ⟨if_pos rfl, rfl⟩⟩
    · rw [get_cons_other _ _ e] at hj
      exact (hr.obj j o hj).keep (if_neg e) (fun c d e1 _ => ⟨hw c (fun hc => e (hr.inj j id o ob b d cap hj hH (by rw [← hc]; exact e1) hι)), fun h => h⟩) (fun r _ a _ v hv => hv.mono hr hst)
  · have n1 : j ≠ id := fun e => by rw [away, if_pos e] at hi; cases hi
    have n2 : j' ≠ id := fun e => by rw [away, if_pos e] at hi'; cases hi'
    rw [away, if_neg n1] at hi
    rw [away, if_neg n2] at hi'
    rw [get_cons_other _ _ n1] at hj
    rw [get_cons_other _ _ n2] at hj'
    exact hr.inj j j' o o' c d d' hj hj' hi hi'
/-- The string that shares the bytes of a row: the row is given up. -/
theorem opd_unsafeString {T2 : TypeId} {l : List UInt8} {s : ByteArray} (ho : o.op = .call { callee := .builtin .unsafeString, args := #[x, y], argTypes := #[T, T2] }) (hT : P.underlying T = some (.pointer e)) (hi : (P.info? e).map (·.size) = some 1) (hx : aeval E x = some (.ref id g 0 0)) (hy : aeval E y = some (.pv (.int .i64 n)))
    (hH : H.get id = some ob) (hg : ob.g = g) (hsz : ob.sz = 1) (hty : ob.ty = e) (hrows : ob.rows = brows l) (hl : l.length = n) (hn : 0 < n) (hn2 : n ≤ 9223372036854775807) (hs : (⟨l.toArray⟩ : ByteArray) = s) : OpD P N o E H (.pv (.str s)) ((id, gone ob) :: H) := by
  subst hs hl
  intro a w I ι _ _ hr he K Q hk
  have hv := aeval_rel he hx
  obtain ⟨b, cap, e1, e2⟩ := ref_ptr hv hH hg
  have h2 := (aeval_rel he hy).int_inv
  obtain ⟨j, h3, h4⟩ := info_size hi
  have hc : P.cellsOf e = 1 := by simp [Program.cellsOf, h3, h4]
  have hlen : ob.rows.length = l.length := by rw [hrows]; simp [brows]
  obtain ⟨_, _, ⟨b', cap', cs, f1, f2, f3, f4, f5, _, f6⟩ | ⟨f1, _⟩⟩ := (hr.obj id ob hH).cells (by omega)
  · rw [e1] at f1; cases f1
    rw [hsz, Nat.mul_one] at f4
    have hcell : ∀ j x, l[j]? = some x → w.cell? ((⟨b, 0, none⟩ : Addr).add j) = some (.int .u8 x.toNat) := fun j x hj => by
      obtain ⟨v, q1, _, q3⟩ := f6 j [.pv (.int .u8 x.toNat)] (by rw [hrows, brows, List.getElem?_map, hj]; rfl) 0 _ rfl
      rw [hsz, Nat.mul_one, Nat.add_zero, q3.int_inv] at q1
      rw [Addr.add_lit, Nat.zero_add, cell_of_row w b _ cs ob.ty (0, 0) f2]
      exact q1
    have hrun := Lib.run_unsafeString_row (P := P) w T T2 o.type e hT hc b cs.size (by rw [← hty]; simp [World.shape?, f2]) l (fun h0 => by rw [h0] at hn; exact Nat.lt_irrefl _ hn) (by omega) hn2 hcell
    have hw : ∀ c, c ≠ b → (w.freeze ⟨b, 0, none⟩ l.length).heap[c]? = w.heap[c]? := fun c hcb => by
      unfold World.freeze
      split
      · rfl
      · simp only [Array.getElem?_modify]
        rw [if_neg (fun h => hcb h.symm)]
    obtain ⟨k1, k2⟩ := hr.lost (w' := w.freeze ⟨b, 0, none⟩ l.length) hH (by omega) e1 (by unfold World.freeze; split <;> rfl) (by unfold World.freeze; split <;> rfl) (by unfold World.freeze; split <;> rfl) (by unfold World.freeze; split <;> simp) hw
    unfold Oper.wpW
    have : (execOp a.eval o).run P w = .ok (.value (.string ⟨l.toArray⟩)) (w.freeze ⟨b, 0, none⟩ l.length) := by
      rw [hsz] at e2
      simp [execOp, ho, resolve, invoke, builtin, e2, h2, hrun]
    rw [this]
    exact hk _ _ I (away ι id) _ _ ⟨rfl, rfl⟩ (.pv (.str _)) k1 k2
  · rw [e1] at f1; cases f1
end
end Go.Abs
end
section
set_option linter.unusedVariables false
set_option linter.unusedSimpArgs false
namespace Go.Abs

theorem osc_slice {w : World} {I : Nat → Prop} {ι : Plc} {H : Heap} {v : Value} {id g off len c : Nat} {ob : Ob} (h : VRel w I ι H v (.osc id g off len c)) (hH : H.get id = some ob) (hg : ob.g = g) :
    0 < ob.sz ∧ len ≤ c ∧ ((∃ b oo, ι id = some (b, off + c) ∧ v = .slice (some ⟨b, oo, none⟩) len c ∧ (0 < c ∨ off = 0 → oo = off * ob.sz)) ∨ (ι id = none ∧ v = .slice none 0 0 ∧ off = 0 ∧ len = 0 ∧ c = 0)) := by
  cases h with
  | osc o' h1 h2 _ h3 =>
    rw [hH] at h1; cases h1
    exact h3 hg
theorem osl_osc {w : World} {I : Nat → Prop} {ι : Plc} {H : Heap} {v : Value} {id g off len : Nat} {ob : Ob} (hr : Rel I ι H w) (h : VRel w I ι H v (.osl id g off len)) (hH : H.get id = some ob) (hg : ob.g = g) :
    ∃ c, len ≤ c ∧ c ≤ maxLen ∧ VRel w I ι H v (.osc id g off len c) := by
  have hz := osl_sz h hH hg
  obtain ⟨h1, ⟨b, cap, oo, h2, h3, h4⟩ | ⟨h2, h3, h4, h5⟩⟩ := osl_slice h hH hg
  · obtain ⟨_, _, ⟨b', cap', cs, e1, e2, e3, e4, e5, e6, e7⟩ | ⟨e1, _⟩⟩ := (hr.obj id ob hH).cells hz
    · rw [h2] at e1; cases e1
      refine ⟨cap - off, by omega, by omega, ?_⟩
      subst h3
      refine .osc ob hH (by omega) rfl fun _ => ⟨hz, by omega, .inl ⟨b, oo, ?_, rfl, fun hh => h4 (by omega)⟩⟩
      rw [h2]; congr 2; omega
    · rw [h2] at e1; cases e1
  · subst h3 h4 h5
    exact ⟨0, Nat.le_refl _, Nat.zero_le _, .osc ob hH (by omega) rfl fun _ => ⟨hz, Nat.le_refl _, .inr ⟨h2, rfl, rfl, rfl, rfl⟩⟩⟩
theorem osc_osl {w : World} {I : Nat → Prop} {ι : Plc} {H : Heap} {v : Value} {id g off len c : Nat} {ob : Ob} (h : VRel w I ι H v (.osc id g off len c)) (hH : H.get id = some ob) (hg : ob.g = g) (hl : off + len ≤ ob.rows.length) :
    VRel w I ι H v (.osl id g off len) := by
  obtain ⟨hz, h1, ⟨b, oo, h2, h3, h4⟩ | ⟨h2, h3, h4, h5, h6⟩⟩ := osc_slice h hH hg
  · subst h3
    refine .osl ob hH (by omega) rfl fun _ => ⟨hz, hl, .inl ⟨b, off + c, oo, h2, ?_, fun hh => h4 (by omega)⟩⟩
    congr 1; omega
  · subst h3 h4 h5
    exact .osl ob hH (by omega) rfl fun _ => ⟨hz, hl, .inr ⟨h2, rfl, rfl, rfl⟩⟩

section
variable {P : Program} {G0 : Heap} {N : Nat} {Q : Exit → Env → Heap → Prop} {E : Env} {H : Heap} {code : Code}
/-- The capacity gets a name. -/
theorem awp_cap {t id g off n : Nat} {ob : Ob} (hx : E.get t = some (.osl id g off n)) (hH : H.get id = some ob) (hg : ob.g = g) (h : ∀ c, n ≤ c → c ≤ maxLen → AWp P G0 N code Q ((t, .osc id g off n c) :: E) H) : AWp P G0 N code Q E H := by
  intro G hG a w hs
  obtain ⟨I, ι, hr, hst, he⟩ := hs.rel
  obtain ⟨v, hv, hvr⟩ := he t _ hx
  obtain ⟨c, h1, h2, h3⟩ := osl_osc hr hvr hH hg
  refine h c h1 h2 G hG a w ⟨hs.defers, hs.size, I, ι, hr, hst, fun u x hu => ?_⟩
  by_cases e : t = u
  · subst e
    rw [Env.get_cons_same] at hu; cases hu
    exact ⟨v, hv, h3⟩
  · rw [Env.get_cons_other _ _ e] at hu
    exact he u x hu
/-- The capacity is forgotten. -/
theorem awp_uncap {t id g off n c : Nat} {ob : Ob} (hx : E.get t = some (.osc id g off n c)) (hH : H.get id = some ob) (hg : ob.g = g) (hl : off + n ≤ ob.rows.length) (h : AWp P G0 N code Q ((t, .osl id g off n) :: E) H) : AWp P G0 N code Q E H := by
  intro G hG a w hs
  obtain ⟨I, ι, hr, hst, he⟩ := hs.rel
  obtain ⟨v, hv, hvr⟩ := he t _ hx
  refine h G hG a w ⟨hs.defers, hs.size, I, ι, hr, hst, fun u x hu => ?_⟩
  by_cases e : t = u
  · subst e
    rw [Env.get_cons_same] at hu; cases hu
    exact ⟨v, hv, osc_osl hvr hH hg hl⟩
  · rw [Env.get_cons_other _ _ e] at hu
    exact he u x hu
end

section
variable {P : Program} {N : Nat} {o : Oper} {E : Env} {H : Heap} {T : TypeId} {x y : Operand}
theorem opd_cap_osc {e : TypeId} {id g off len c : Nat} {ob : Ob} (ho : o.op = .call { callee := .builtin .cap, args := #[x], argTypes := #[T] }) (ht : P.underlying T = some (.slice e)) (hx : aeval E x = some (.osc id g off len c)) (hH : H.get id = some ob) (hg : ob.g = g) : OpD P N o E H (.pv (.int .i64 c)) H :=
  .of_run fun a w I ι _ he => ⟨.int .i64 c, by
    obtain ⟨_, _, ⟨b, oo, _, e1, _⟩ | ⟨_, e1, _, _, e2⟩⟩ := osc_slice (aeval_rel he hx) hH hg
    · simp [execOp, ho, resolve, invoke, builtin, e1, Builtin.cap_, run_underlying ht, goInt]
    · simp [execOp, ho, resolve, invoke, builtin, e1, e2, Builtin.cap_, run_underlying ht, goInt], .pv (.int _ _)⟩
theorem opd_len_osc {e : TypeId} {id g off len c : Nat} {ob : Ob} (ho : o.op = .call { callee := .builtin .len, args := #[x], argTypes := #[T] }) (ht : P.underlying T = some (.slice e)) (hx : aeval E x = some (.osc id g off len c)) (hH : H.get id = some ob) (hg : ob.g = g) : OpD P N o E H (.pv (.int .i64 len)) H :=
  .of_run fun a w I ι _ he => ⟨.int .i64 len, by
    obtain ⟨_, _, ⟨b, oo, _, e1, _⟩ | ⟨_, e1, _, e2, _⟩⟩ := osc_slice (aeval_rel he hx) hH hg
    · simp [execOp, ho, resolve, invoke, builtin, e1, Builtin.len_, run_underlying ht, goInt]
    · simp [execOp, ho, resolve, invoke, builtin, e1, e2, Builtin.len_, run_underlying ht, goInt], .pv (.int _ _)⟩

/-- A cut up to the capacity. -/
theorem x_slice_osc {e : TypeId} {lo hi : Option Operand} {id g off len c off2 len2 c2 l h sz : Nat} {ob : Ob} (ho : o.op = .slice T x lo hi none) (hS : SliceOf P T e sz) (hx : aeval E x = some (.osc id g off len c))
    (hH : H.get id = some ob) (hg : ob.g = g) (hsz : ob.sz = sz) (hlo : bnd E lo 0 = some (l : Int)) (hhi : bnd E hi len = some (h : Int)) (h1 : l ≤ h) (h2 : h ≤ c) (ho2 : off + l = off2) (hl2 : h - l = len2) (hc2 : c - l = c2) : OpD P N o E H (.osc id g off2 len2 c2) H :=
  .of_run fun a w I ι hr he => by
    have hv := aeval_rel he hx
    obtain ⟨hz, hle, hcase⟩ := osc_slice hv hH hg
    have hT := hS.1
    have hs := hS.2.1
    have hTe : P.elem T = e := by simp [Program.elem, hT]
    have hT' : P.underlying T = some (.slice (P.elem T)) := by rw [hTe, hT]
    subst ho2 hl2 hc2 hsz
    rcases hcase with ⟨b, oo, h3, h4, h5⟩ | ⟨h3, h4, h5, h6, h7⟩
    · have hb := run_bounds (P := P) (b := true) (len := len) (cap := c) he hlo hhi h1 h2
      have hrun := run_slice_any (P := P) w T (some ⟨b, oo, none⟩) len c hT' (lo.map a.eval) (hi.map a.eval) none
      refine ⟨.slice (some ⟨b, if c = l then oo else oo + l * ob.sz, none⟩) (h - l) (c - l), ?_, .osc ob hH (by omega) rfl fun _ => ⟨hz, by omega, .inl ⟨b, _, ?_, rfl, fun hlt => ?_⟩⟩⟩
      · simp only [execOp, ho, h4]
        simp only [run_sliceAt_slice w T _ _ _ _ hT', Sem.run_bind, hrun, Option.map_none, hb, hTe, hs, sliced, Result.andThen_ok, Sem.run_pure]
        by_cases ec : c = l
        · simp [ec]
        · simp [ec, Addr.add_lit]
      · rw [h3]; congr 2; omega
      · by_cases ec : off + l = 0
        · have e0 : off = 0 := by omega
          have e1 : l = 0 := by omega
          subst e0 e1
          rw [h5 (by omega)]
          simp
        · rw [if_neg (by omega), h5 (by omega), Nat.add_mul]
    · subst h5 h6 h7
      have hh : h = 0 := by omega
      have hl : l = 0 := by omega
      subst hh hl
      have hb := run_bounds (P := P) (b := true) (len := 0) (cap := 0) he hlo hhi h1 (by simp)
      have hrun := run_slice_any (P := P) w T none 0 0 hT' (lo.map a.eval) (hi.map a.eval) none
      refine ⟨.slice none 0 0, ?_, .osc ob hH (by omega) rfl fun _ => ⟨hz, by omega, .inr ⟨h3, rfl, rfl, rfl, rfl⟩⟩⟩
      simp only [execOp, ho, h4]
      simp [run_sliceAt_slice w T _ _ _ _ hT', hrun, hb, hTe, hs, sliced]

/-- A slice of which the first rows are read. -/
def SrcN (w : World) (I : Nat → Prop) (ι : Plc) (H : Heap) (sz : Nat) (v : Value) (len : Nat) (rows : List (List AV)) : Prop :=
  (∃ a c news, v = .slice (some a) len c ∧ rows.length ≤ len ∧ news.length = rows.length * sz ∧ (∀ j u, news[j]? = some u → w.cell? (a.add j) = some u) ∧ (∀ u ∈ news, u.oneCell' = true) ∧ LRel w I ι H sz news rows) ∨
  (v = .slice none 0 0 ∧ len = 0 ∧ rows = [])

theorem LRel.take {w : World} {I : Nat → Prop} {ι : Plc} {H : Heap} {sz : Nat} {l : List Value} {rows : List (List AV)} (h : LRel w I ι H sz l rows) (hl : ∀ r ∈ rows, r.length = sz) (k : Nat) : LRel w I ι H sz (l.take (k * sz)) (rows.take k) := by
  intro i r hi j a hj
  rw [List.getElem?_take] at hi
  split at hi
  · obtain ⟨u, q1, q2, q3⟩ := h i r hi j a hj
    have hjs : j < sz := by rw [← hl r (List.mem_of_getElem? hi)]; exact (List.getElem?_eq_some_iff.1 hj).1
    refine ⟨u, ?_, q2, q3⟩
    rw [List.getElem?_take, if_pos]
    · exact q1
    · have : (i + 1) * sz ≤ k * sz := Nat.mul_le_mul_right _ (by omega)
      rw [Nat.add_mul] at this; omega
  · cases hi
theorem LRel.drop {w : World} {I : Nat → Prop} {ι : Plc} {H : Heap} {sz : Nat} {l : List Value} {rows : List (List AV)} (h : LRel w I ι H sz l rows) (k : Nat) : LRel w I ι H sz (l.drop (k * sz)) (rows.drop k) := by
  intro i r hi j a hj
  rw [List.getElem?_drop] at hi
  obtain ⟨u, q1, q2, q3⟩ := h _ r hi j a hj
  refine ⟨u, ?_, q2, q3⟩
  rw [List.getElem?_drop]
  rw [Nat.add_mul] at q1
  rw [← Nat.add_assoc]
  exact q1
theorem srcN_osc {w : World} {I : Nat → Prop} {ι : Plc} {H : Heap} {sz id g off len c : Nat} {ob : Ob} {v : Value} (hr : Rel I ι H w) (h : VRel w I ι H v (.osc id g off len c)) (hH : H.get id = some ob) (hg : ob.g = g) (hsz : ob.sz = sz) (k : Nat) (hk : k ≤ len) (hk2 : off + k ≤ ob.rows.length) :
    SrcN w I ι H sz v len ((ob.rows.drop off).take k) := by
  obtain ⟨hz, h1, ⟨b, oo, h2, h3, h4⟩ | ⟨h2, h3, h4, h5, h6⟩⟩ := osc_slice h hH hg
  · have hv : VRel w I ι H (.slice (some ⟨b, oo, none⟩) k c) (.osl id g off k) :=
      .osl ob hH (by omega) rfl fun _ => ⟨hz, hk2, .inl ⟨b, off + c, oo, h2, by congr 1; omega, fun hh => h4 (by omega)⟩⟩
    have hlen : ((ob.rows.drop off).take k).length = k := by rw [List.length_take, List.length_drop]; omega
    rcases src_osl hr hv hH hg hsz with ⟨a, c', news, s1, s2, s3, s4, s5⟩ | ⟨s1, s2⟩
    · injection s1 with q1 q2 q3
      injection q1 with q1
      subst q1
      exact .inl ⟨_, c, news, h3, by omega, s2, s3, s4, s5⟩
    · cases s1
  · subst h4 h5
    have : k = 0 := by omega
    subst this
    exact .inr ⟨h3, rfl, by simp⟩
theorem srcN_osl {w : World} {I : Nat → Prop} {ι : Plc} {H : Heap} {sz id g off len : Nat} {ob : Ob} {v : Value} (hr : Rel I ι H w) (h : VRel w I ι H v (.osl id g off len)) (hH : H.get id = some ob) (hg : ob.g = g) (hsz : ob.sz = sz) (k : Nat) (hk : k ≤ len) :
    SrcN w I ι H sz v len ((ob.rows.drop off).take k) := by
  obtain ⟨c, h1, h2, h3⟩ := osl_osc hr h hH hg
  have := (osl_slice h hH hg).1
  exact srcN_osc hr h3 hH hg hsz k hk (by omega)

/-- Rows of an object are written, or put behind its last one. -/
theorem Rel.write {I : Nat → Prop} {ι : Plc} {H H' : Heap} {w : World} {id b cap off g2 : Nat} {ob : Ob} {cs : Array Value} {news : List Value} {rows2 : List (List AV)} (hr : Rel I ι H w) (hH : H.get id = some ob) (hι : ι id = some (b, cap)) (hb : w.heap[b]? = some (.cells cs ob.ty (0, 0)))
    (hn : news.length = rows2.length * ob.sz) (hl : LRel w I ι H ob.sz news rows2) (hl2 : ∀ r ∈ rows2, r.length = ob.sz) (ho : off ≤ ob.rows.length) (hc : off + rows2.length ≤ cap) (hg2 : ob.g ≤ g2)
    (h1 : H'.get id = some ⟨g2, ob.sz, ob.ty, ob.rows.take off ++ (rows2 ++ ob.rows.drop (off + rows2.length))⟩) (h2 : ∀ j, j ≠ id → H'.get j = H.get j) :
    Rel I ι H' (w.setRow b (cs.toList.take (off * ob.sz) ++ news ++ cs.toList.drop (off * ob.sz + news.length)).toArray) ∧ Step I ι H w I ι H' (w.setRow b (cs.toList.take (off * ob.sz) ++ news ++ cs.toList.drop (off * ob.sz + news.length)).toArray) := by
  obtain ⟨p1, p2, ⟨b', cap', cs', e1, e2, e3, e4, e5, e5', e6⟩ | ⟨e1, _⟩⟩ := (hr.obj id ob hH).cells ((hr.obj id ob hH).pos hι hb)
  · rw [hι] at e1; cases e1
    rw [hb] at e2; cases e2
    have hall : LRel w I ι H ob.sz cs.toList ob.rows := fun i r hi k a hk => by
      obtain ⟨v, q1, q2, q3⟩ := e6 i r hi k a hk
      exact ⟨v, by simpa using q1, q2, q3⟩
    have hoc : off ≤ cap := by omega
    have hlt : (cs.toList.take (off * ob.sz)).length = (ob.rows.take off).length * ob.sz := by
      have : off * ob.sz ≤ cap * ob.sz := Nat.mul_le_mul_right _ hoc
      rw [List.length_take, List.length_take, Array.length_toList, e4, Nat.min_eq_left this, Nat.min_eq_left ho]
    have hnl : off * ob.sz + news.length = (off + rows2.length) * ob.sz := by rw [hn, Nat.add_mul]
    have htail : LRel w I ι H ob.sz (news ++ (cs.toList.drop (off * ob.sz + news.length) ++ [])) (rows2 ++ ob.rows.drop (off + rows2.length)) := by
      refine LRel.app hl hn ?_
      rw [hnl]
      exact hall.drop _
    rw [List.append_nil] at htail
    have hfin := LRel.app (l3 := []) (hall.take p2 off) hlt htail
    rw [List.append_nil] at hfin
    have hsize : (cs.toList.take (off * ob.sz) ++ news ++ cs.toList.drop (off * ob.sz + news.length)).toArray.size = cap * ob.sz := by
      have : (off + rows2.length) * ob.sz ≤ cap * ob.sz := Nat.mul_le_mul_right _ hc
      simp only [List.size_toArray, List.length_append, List.length_take, List.length_drop, Array.length_toList, e4]
      omega
    refine Rel.update (ob' := ⟨g2, ob.sz, ob.ty, ob.rows.take off ++ (rows2 ++ ob.rows.drop (off + rows2.length))⟩) hr hH hι hb hg2 rfl rfl (fun _ => ?_) hsize ?_ (fun r hr' => ?_) (fun i r hi k a hk => ?_) h1 h2
    · simp only [List.length_append, List.length_take, List.length_drop]; omega
    · simp only [List.length_append, List.length_take, List.length_drop]; omega
    · rcases List.mem_append.1 hr' with h | h
      · exact p2 r (List.mem_of_mem_take h)
      · rcases List.mem_append.1 h with h | h
        · exact hl2 r h
        · exact p2 r (List.mem_of_mem_drop h)
    · obtain ⟨u, q1, q2, q3⟩ := hfin i r hi k a hk
      refine ⟨u, ?_, q2, q3⟩
      rw [List.getElem?_toArray, List.append_assoc]
      exact q1
  · rw [hι] at e1; cases e1

theorem write_nil {off n : Nat} {rows : List (List AV)} (h : n = 0) : rows.take off ++ ([] ++ rows.drop (off + n)) = rows := by subst h; simp

/-- copy between slices. -/
theorem opd_copy {D S e : TypeId} {id g off len len2 n sz : Nat} {ob : Ob} {rows2 : List (List AV)} {H2 : Heap} (ho : o.op = .call { callee := .builtin .copy, args := #[x, y], argTypes := #[D, S] }) (hS : SliceOf P D e sz)
    (hd : ∀ (a : Act) (w : World) (I : Nat → Prop) (ι : Plc), Rel I ι H w → ERel w I ι H E a → ∃ c, VRel w I ι H (a.eval x) (.osc id g off len c)) (hH : H.get id = some ob) (hg : ob.g = g) (hsz : ob.sz = sz) (hoff : off ≤ ob.rows.length)
    (hsrc : ∀ (a : Act) (w : World) (I : Nat → Prop) (ι : Plc), Rel I ι H w → ERel w I ι H E a → SrcN w I ι H sz (a.eval y) len2 rows2) (hrl2 : ∀ r ∈ rows2, r.length = sz) (hn : rows2.length = n) (hmin : min len2 len = n)
    (hH2 : ∀ j, H2.get j = (H.set id ⟨g, sz, ob.ty, ob.rows.take off ++ (rows2 ++ ob.rows.drop (off + n))⟩).get j) : OpD P N o E H (.pv (.int .i64 n)) H2 := by
  intro a w I ι _ _ hr he K Q hk
  obtain ⟨c, hv⟩ := hd a w I ι hr he
  obtain ⟨hz, h1, hcase⟩ := osc_slice hv hH hg
  have hmin' : Nat.min len2 len = n := hmin
  have hs := hS.2.1
  have hD := hS.1
  subst hg hsz
  have hpure : n = 0 → (∀ j, H2.get j = H.get j) := fun h0 j => by
    rw [hH2 j]
    have hr0 : rows2 = [] := List.eq_nil_of_length_eq_zero (by omega)
    subst hr0
    rw [write_nil h0]
    by_cases e : j = id
    · subst e; rw [Heap.get_set_same, hH]
    · exact Heap.get_set_other _ _ e
  have hfirst : ∀ news : List Value, ∀ ad c', a.eval y = .slice (some ad) len2 c' → news.length = n * ob.sz → (∀ j u, news[j]? = some u → w.cell? (ad.add j) = some u) → (Builtin.firstCells ob.sz n (a.eval y)).run P w = .ok news.toArray w := fun news ad c' e1 e2 e3 => by
    rw [e1]; exact run_firstCells_some (P := P) w ob.sz n ad len2 c' news e2 e3
  rcases hcase with ⟨b, oo, c1, c2, c3⟩ | ⟨c1, c2, c3, c4, c5⟩
  · by_cases hn0 : n = 0
    · obtain ⟨k2, k3⟩ := hr.congr (hpure hn0)
      have hrun : (execOp a.eval o).run P w = .ok (.value (.int .i64 ((0 : Nat) : Int))) w := by
        unfold execOp
        have hfc : (Builtin.firstCells ob.sz n (a.eval y)).run P w = .ok #[] w := by
          rcases hsrc a w I ι hr he with ⟨ad, c', news, s1, s2, s3, s4, s5, s6⟩ | ⟨s1, s2, s3⟩
          · have := hfirst news ad c' s1 (by rw [s3, hn]) s4
            have hnn : news = [] := List.eq_nil_of_length_eq_zero (by rw [s3, hn, hn0]; simp)
            rw [this, hnn]
          · rw [s1]; exact run_firstCells_none (P := P) (w := w) ob.sz n 0 0
        have hlen : (Builtin.lenOf (a.eval y)).run P w = .ok len2 w := by
          rcases hsrc a w I ι hr he with ⟨ad, c', news, s1, s2, s3, s4, s5, s6⟩ | ⟨s1, s2, s3⟩
          · rw [s1]; rfl
          · rw [s1, s2]; rfl
        simp only [ho, resolve, invoke, builtin, Sem.run_bind, Sem.run_pure, Result.andThen_ok, List.map_toArray, List.map_cons, List.map_nil, c2, Builtin.copy_, run_underlying hD, hs]
        simp only [List.getElem?_toArray, List.getElem?_cons_zero, List.getElem?_cons_succ, run_underlying hD, Sem.run_bind, Sem.run_pure, Result.andThen_ok, hs, hlen, hmin', hfc]
        simp [storeCells, goInt, hn0]
      unfold Oper.wpW
      rw [hrun]
      subst hn0
      exact hk _ _ I ι _ _ ⟨rfl, rfl⟩ (.pv (.int _ _)) k2 k3
    · obtain ⟨p1, p2, ⟨b', cap', cs, e1, e2, e3, e4, e5, e5', e6⟩ | ⟨e1, _⟩⟩ := (hr.obj id ob hH).cells hz
      · rw [c1] at e1; cases e1
        have hoo := c3 (by omega)
        subst hoo
        rcases hsrc a w I ι hr he with ⟨ad, c', news, s1, s2, s3, s4, s5, s6⟩ | ⟨s1, s2, s3⟩
        · have hnl : news.length = n * ob.sz := by rw [s3, hn]
          have hfc := hfirst news ad c' s1 hnl s4
          have hfit : off * ob.sz + 0 + news.length ≤ cs.size := by
            rw [e4, hnl, Nat.add_zero, ← Nat.add_mul]; exact Nat.mul_le_mul_right _ (by omega)
          have hst := run_storeCells_at P b (off * ob.sz) ob.ty news 0 cs w e2 hfit s5
          simp only [Nat.add_zero] at hst
          obtain ⟨k2, k3⟩ := Rel.write (H' := H2) (off := off) (g2 := ob.g) hr hH c1 e2 s3 s6 hrl2 hoff (by omega) (Nat.le_refl _) (by rw [hH2, Heap.get_set_same, hn]) (fun j hj => by rw [hH2, Heap.get_set_other _ _ hj])
          unfold Oper.wpW execOp
          simp only [ho, resolve, invoke, builtin, Sem.run_bind, Sem.run_pure, Result.andThen_ok, List.map_toArray, List.map_cons, List.map_nil, c2, Builtin.copy_, run_underlying hD, hs]
          have hlen : (Builtin.lenOf (a.eval y)).run P w = .ok len2 w := by rw [s1]; rfl
          simp only [List.getElem?_toArray, List.getElem?_cons_zero, List.getElem?_cons_succ, run_underlying hD, Sem.run_bind, Sem.run_pure, Result.andThen_ok, hs, hlen, hmin', hfc, hst]
          exact hk _ _ I ι _ _ ⟨rfl, rfl⟩ (.pv (.int _ _)) k2 k3
        · omega
      · rw [c1] at e1; cases e1
  · have hn0 : n = 0 := by omega
    obtain ⟨k2, k3⟩ := hr.congr (hpure hn0)
    have hrun : (execOp a.eval o).run P w = .ok (.value (.int .i64 ((0 : Nat) : Int))) w := by
      unfold execOp
      have hfc : (Builtin.firstCells ob.sz n (a.eval y)).run P w = .ok #[] w := by
        rcases hsrc a w I ι hr he with ⟨ad, c', news, s1, s2, s3, s4, s5, s6⟩ | ⟨s1, s2, s3⟩
        · have := hfirst news ad c' s1 (by rw [s3, hn]) s4
          have hnn : news = [] := List.eq_nil_of_length_eq_zero (by rw [s3, hn, hn0]; simp)
          rw [this, hnn]
        · rw [s1]; exact run_firstCells_none (P := P) (w := w) ob.sz n 0 0
      have hlen : (Builtin.lenOf (a.eval y)).run P w = .ok len2 w := by
        rcases hsrc a w I ι hr he with ⟨ad, c', news, s1, s2, s3, s4, s5, s6⟩ | ⟨s1, s2, s3⟩
        · rw [s1]; rfl
        · rw [s1, s2]; rfl
      rw [c4] at hmin'
      simp only [ho, resolve, invoke, builtin, Sem.run_bind, Sem.run_pure, Result.andThen_ok, List.map_toArray, List.map_cons, List.map_nil, c2, Builtin.copy_, run_underlying hD, hs]
      simp only [List.getElem?_toArray, List.getElem?_cons_zero, List.getElem?_cons_succ, run_underlying hD, Sem.run_bind, Sem.run_pure, Result.andThen_ok, hs, hlen, hmin', hfc]
      simp [storeCells, goInt, hn0]
    unfold Oper.wpW
    rw [hrun]
    subst hn0
    exact hk _ _ I ι _ _ ⟨rfl, rfl⟩ (.pv (.int _ _)) k2 k3
end
end Go.Abs
end
section
set_option linter.unusedVariables false
set_option linter.unusedSimpArgs false
namespace Go.Abs
section
variable {P : Program} {N : Nat} {o : Oper} {E : Env} {H : Heap} {T : TypeId} {x y : Operand}

theorem run_append_at (t ty e : TypeId) (i : TypeInfo) (ht : P.underlying t = some (.slice e)) (hi : P.info? e = some i) {w : World}
    (g off sLen sCap : Nat) (cur : Array Value) (hg : w.heap[g]? = some (.cells cur e (0, 0)))
    (a : Addr) (m c : Nat) (news : List Value) (hl : news.length = m * i.size) (hnews : ∀ j u, news[j]? = some u → w.cell? (a.add j) = some u) (h1 : ∀ u ∈ news, u.oneCell' = true)
    (hroom : sLen + m ≤ sCap) (hfit : off + sLen * i.size + news.length ≤ cur.size) :
    (Builtin.append_ #[t, t] ty #[.slice (some ⟨g, off, none⟩) sLen sCap, .slice (some a) m c]).run P w =
      .ok (.slice (some ⟨g, off, none⟩) (sLen + m) sCap) (w.setRow g (cur.toList.take (off + sLen * i.size) ++ news ++ cur.toList.drop (off + sLen * i.size + news.length)).toArray) := by
  have hf := run_firstCells_some (P := P) w i.size m a m c news hl hnews
  have hst := run_storeCells_at P g (off + sLen * i.size) e news 0 cur w hg (by simpa using hfit) h1
  simp only [Nat.add_zero] at hst
  have hadd : (⟨g, off, none⟩ : Addr).add (sLen * i.size) = ⟨g, off + sLen * i.size, none⟩ := Addr.add_lit _ _ _
  simp [Builtin.append_, run_underlying ht, sizeOf, typeInfo, hi, Builtin.lenOf, hroom, hf, hadd, hst]

/-- append within the capacity: what is there is written over. -/
theorem x_append_room {e : TypeId} {id g off n c m k sz bytes : Nat} {ob : Ob} {rows2 rows' : List (List AV)} (ho : o.op = .call { callee := .builtin .append, args := #[x, y], argTypes := #[T, T] }) (hS : SliceOf P T e sz) (hinf : EI P e sz bytes)
    (hx : aeval E x = some (.osc id g off n c)) (hH : H.get id = some ob) (hg : ob.g = g) (hosz : ob.sz = sz) (hty : ob.ty = e) (hon : off + n ≤ ob.rows.length)
    (hsrc : ∀ (a : Act) (w : World) (I : Nat → Prop) (ι : Plc), Rel I ι H w → ERel w I ι H E a → SrcN w I ι H sz (a.eval y) m rows2) (hrl2 : ∀ r ∈ rows2, r.length = sz) (hm : rows2.length = m) (hroom : n + m ≤ c) (hk : n + m = k)
    (hrows : ob.rows.take (off + n) ++ (rows2 ++ ob.rows.drop (off + n + m)) = rows') : OpD P N o E H (.osc id g off k c) ((id, ⟨g, sz, e, rows'⟩) :: H) := by
  intro a w I ι _ _ hr he K Q hkk
  obtain ⟨⟨i, z, hi, hz, hsize, hby, hzs, hsz0⟩, _⟩ := hinf
  subst hg hosz hty hk hrows
  have hv := aeval_rel he hx
  obtain ⟨hzp, h1, hcase⟩ := osc_slice hv hH rfl
  have hT := hS.1
  have hH2 : ∀ j, Heap.get ((id, (⟨ob.g, ob.sz, ob.ty, ob.rows.take (off + n) ++ (rows2 ++ ob.rows.drop (off + n + m))⟩ : Ob)) :: H) j = (H.set id ⟨ob.g, ob.sz, ob.ty, ob.rows.take (off + n) ++ (rows2 ++ ob.rows.drop (off + n + m))⟩).get j := set_cons _ _ _
  have hfin : ∀ (v' : Value) (w' : World), (Builtin.append_ #[T, T] o.type #[a.eval x, a.eval y]).run P w = .ok v' w' → VRel w' I ι ((id, ⟨ob.g, ob.sz, ob.ty, ob.rows.take (off + n) ++ (rows2 ++ ob.rows.drop (off + n + m))⟩) :: H) v' (.osc id ob.g off (n + m) c) →
      Rel I ι ((id, ⟨ob.g, ob.sz, ob.ty, ob.rows.take (off + n) ++ (rows2 ++ ob.rows.drop (off + n + m))⟩) :: H) w' → Step I ι H w I ι ((id, ⟨ob.g, ob.sz, ob.ty, ob.rows.take (off + n) ++ (rows2 ++ ob.rows.drop (off + n + m))⟩) :: H) w' → o.wpW P a w K Q := by
    intro v' w' hrun k1 k2 k3
    unfold Oper.wpW execOp
    simp only [ho, resolve, invoke, builtin, Sem.run_bind, Sem.run_pure, Result.andThen_ok, List.map_toArray, List.map_cons, List.map_nil, hrun]
    exact hkk v' w' I ι _ _ ⟨rfl, rfl⟩ k1 k2 k3
  have hsame : rows2 = [] → m = 0 → ∀ j, Heap.get ((id, (⟨ob.g, ob.sz, ob.ty, ob.rows.take (off + n) ++ (rows2 ++ ob.rows.drop (off + n + m))⟩ : Ob)) :: H) j = H.get j := fun h2 h3 j => by
    subst h2
    rw [write_nil h3]
    by_cases e : j = id
    · subst e; rw [get_cons_same, hH]
    · exact get_cons_other _ _ e
  rcases hsrc a w I ι hr he with ⟨ad, c', news, s1, s2, s3, s4, s5, s6⟩ | ⟨s1, s2, s3⟩
  · rcases hcase with ⟨b, oo, c1, c2, c3⟩ | ⟨c1, c2, c3, c4, c5⟩
    · obtain ⟨p1, p2, ⟨b', cap', cs, e1, e2, e3, e4, e5, e5', e6⟩ | ⟨e1, _⟩⟩ := (hr.obj id ob hH).cells hzp
      · rw [c1] at e1; cases e1
        by_cases hc0 : 0 < c ∨ off = 0
        · have hoo := c3 hc0
          subst hoo
          have hpos : off * ob.sz + n * ob.sz = (off + n) * ob.sz := by rw [Nat.add_mul]
          have hnl : news.length = m * ob.sz := by rw [s3, hm]
          have hfit : off * ob.sz + n * i.size + news.length ≤ cs.size := by
            rw [hsize, hpos, hnl, e4, ← Nat.add_mul]; exact Nat.mul_le_mul_right _ (by omega)
          have hrun := run_append_at (P := P) T o.type ob.ty i hT hi b (off * ob.sz) n c cs e2 ad m c' news (by rw [hsize]; exact hnl) s4 s5 hroom hfit
          rw [hsize, hpos] at hrun
          obtain ⟨k2, k3⟩ := Rel.write (H' := (id, ⟨ob.g, ob.sz, ob.ty, ob.rows.take (off + n) ++ (rows2 ++ ob.rows.drop (off + n + m))⟩) :: H) (off := off + n) (g2 := ob.g) hr hH c1 e2 s3 s6 hrl2 hon (by omega) (Nat.le_refl _) (by rw [get_cons_same, hm]) (fun j hj => get_cons_other _ _ hj)
          refine hfin _ _ (by rw [c2, s1]; exact hrun) ?_ k2 k3
          exact .osc _ (get_cons_same _ _ _) (Nat.le_refl _) rfl fun _ => ⟨hzp, hroom, .inl ⟨b, _, c1, rfl, fun _ => rfl⟩⟩
        · have hn0 : n = 0 := by omega
          have hm0 : m = 0 := by omega
          have hr0 : rows2 = [] := List.eq_nil_of_length_eq_zero (by omega)
          have hnews : news = [] := List.eq_nil_of_length_eq_zero (by rw [s3, hr0]; simp)
          obtain ⟨k2, k3⟩ := hr.congr (hsame hr0 hm0)
          have hf := run_firstCells_some (P := P) w i.size m ad m c' news (by rw [hnews, hm0]; simp) s4
          refine hfin (.slice (some ⟨b, oo, none⟩) (n + m) c) w ?_ ?_ k2 k3
          · rw [c2, s1]
            simp [Builtin.append_, run_underlying hT, sizeOf, typeInfo, hi, Builtin.lenOf, hroom, hf, hnews, storeCells]
          · exact .osc _ (get_cons_same _ _ _) (Nat.le_refl _) rfl fun _ => ⟨hzp, hroom, .inl ⟨b, oo, c1, rfl, fun hh => absurd hh hc0⟩⟩
      · rw [c1] at e1; cases e1
    · have hm0 : m = 0 := by omega
      have hr0 : rows2 = [] := List.eq_nil_of_length_eq_zero (by omega)
      have hnews : news = [] := List.eq_nil_of_length_eq_zero (by rw [s3, hr0]; simp)
      obtain ⟨k2, k3⟩ := hr.congr (hsame hr0 hm0)
      have hf := run_firstCells_some (P := P) w i.size m ad m c' news (by rw [hnews, hm0]; simp) s4
      refine hfin (.slice none 0 0) w ?_ ?_ k2 k3
      · rw [c2, s1, hm0]
        rw [hm0] at hf
        simp [Builtin.append_, run_underlying hT, sizeOf, typeInfo, hi, Builtin.lenOf, hf]
      · exact .osc _ (get_cons_same _ _ _) (Nat.le_refl _) rfl fun _ => ⟨hzp, hroom, .inr ⟨c1, rfl, c3, by omega, c5⟩⟩
  · obtain ⟨k2, k3⟩ := hr.congr (hsame s3 s2)
    rcases hcase with ⟨b, oo, c1, c2, c3⟩ | ⟨c1, c2, c3, c4, c5⟩
    · refine hfin (.slice (some ⟨b, oo, none⟩) n c) w ?_ ?_ k2 k3
      · rw [c2, s1]; exact run_append_nilnil (P := P) (ty := o.type) (w := w) hT hi _ n c h1
      · rw [s2, Nat.add_zero]
        exact .osc _ (get_cons_same _ _ _) (Nat.le_refl _) rfl fun _ => ⟨hzp, h1, .inl ⟨b, oo, c1, rfl, c3⟩⟩
    · refine hfin (.slice none 0 0) w ?_ ?_ k2 k3
      · rw [c2, s1]; exact run_append_nilnil (P := P) (ty := o.type) (w := w) hT hi _ 0 0 (Nat.le_refl _)
      · exact .osc _ (get_cons_same _ _ _) (Nat.le_refl _) rfl fun _ => ⟨hzp, hroom, .inr ⟨c1, rfl, c3, by omega, c5⟩⟩

/-- append beyond the capacity: a new object. -/
theorem x_append_beyond {e : TypeId} {id g n c m k sz bytes id2 : Nat} {ob : Ob} {rows2 rows' : List (List AV)} (ho : o.op = .call { callee := .builtin .append, args := #[x, y], argTypes := #[T, T] }) (hS : SliceOf P T e sz) (hinf : EI P e sz bytes)
    (hx : aeval E x = some (.osc id g 0 n c)) (hH : H.get id = some ob) (hg : ob.g = g) (hosz : ob.sz = sz) (hon : n ≤ ob.rows.length)
    (hsrc : ∀ (a : Act) (w : World) (I : Nat → Prop) (ι : Plc), Rel I ι H w → ERel w I ι H E a → SrcN w I ι H sz (a.eval y) m rows2) (hrl2 : ∀ r ∈ rows2, r.length = sz) (hm : rows2.length = m) (hroom : c < n + m) (hk : n + m = k) (hbytes : (n + m) * bytes ≤ 140737488355328) (hid : H.get id2 = none)
    (hrows : ob.rows.take n ++ rows2 = rows') : OpD P N o E H (.osl id2 0 0 k) ((id2, ⟨0, sz, e, rows'⟩) :: H) := by
  intro a w I ι _ _ hr he K Q hkk
  have hmax := small_of hinf.2 hbytes
  obtain ⟨⟨i, z, hi, hz, hsize, hby, hzs, hsz0⟩, _⟩ := hinf
  subst hg hosz hk hrows
  have hml : n + m ≤ maxLen := by simp only [maxLen]; omega
  have hv := aeval_rel he hx
  obtain ⟨hzp, h1, hcase⟩ := osc_slice hv hH rfl
  have hT := hS.1
  have p2 := ((hr.obj id ob hH).cells hzp).2.1
  have hrl : ∀ r ∈ ob.rows.take n ++ rows2, r.length = ob.sz := fun r hr' => by
    rcases List.mem_append.1 hr' with h | h
    · exact p2 r (List.mem_of_mem_take h)
    · exact hrl2 r h
  have g1 : Heap.get ((id2, (⟨0, ob.sz, e, ob.rows.take n ++ rows2⟩ : Ob)) :: H) id2 = some ⟨0, ob.sz, e, ob.rows.take n ++ rows2⟩ := get_cons_same _ _ _
  have g2 : ∀ j, j ≠ id2 → Heap.get ((id2, (⟨0, ob.sz, e, ob.rows.take n ++ rows2⟩ : Ob)) :: H) j = H.get j := fun j hj => get_cons_other _ _ hj
  have hrln : (ob.rows.take n ++ rows2).length = n + m := by rw [List.length_append, List.length_take, hm]; omega
  have hge := grownCap_ge w (n + m) c e
  have hcm := grownCap_le_maxLen w (n + m) c e hml
  have hfin : ∀ (olds news : List Value), olds.length = n * ob.sz → LRel w I ι H ob.sz olds (ob.rows.take n) → news.length = m * ob.sz → LRel w I ι H ob.sz news rows2 →
      (Builtin.append_ #[T, T] o.type #[a.eval x, a.eval y]).run P w = .ok (.slice (some ⟨w.heap.size, 0, none⟩) (n + m) (grownCap w (n + m) c e)) (w.drew.alloc (.cells (olds.toArray ++ news.toArray ++ Builtin.zeroCells z.cells (grownCap w (n + m) c e - (n + m))) e)) → o.wpW P a w K Q := by
    intro olds news q1 q2 q3 q4 hrun
    obtain ⟨k2, k3⟩ := Rel.place (H' := (id2, ⟨0, ob.sz, e, ob.rows.take n ++ rows2⟩) :: H) (id := id2) (cap := grownCap w (n + m) c e) (ob' := ⟨0, ob.sz, e, ob.rows.take n ++ rows2⟩)
      (cs' := olds.toArray ++ news.toArray ++ Builtin.zeroCells z.cells (grownCap w (n + m) c e - (n + m)))
      (w' := w.drew.alloc (.cells (olds.toArray ++ news.toArray ++ Builtin.zeroCells z.cells (grownCap w (n + m) c e - (n + m))) e)) hr rfl rfl rfl rfl
      (fun o' ho' => by rw [hid] at ho'; cases ho') hzp (by
        simp only [Array.size_append, List.size_toArray, size_zeroCells, hzs, q1, q3, ← Nat.add_mul]
        congr 1
        omega) (by rw [hrln]; exact hge) hcm hrl (fun i' r hi' k' a' hk' => by
          obtain ⟨u, t1, t2, t3⟩ := LRel.app (l3 := (Builtin.zeroCells z.cells (grownCap w (n + m) c e - (n + m))).toList) q2 (by rw [q1, List.length_take, Nat.min_eq_left hon]) q4 i' r hi' k' a' hk'
          refine ⟨u, ?_, t2, t3⟩
          rw [← Array.getElem?_toList]
          simpa [List.append_assoc] using t1) g1 g2
    unfold Oper.wpW execOp
    simp only [ho, resolve, invoke, builtin, Sem.run_bind, Sem.run_pure, Result.andThen_ok, List.map_toArray, List.map_cons, List.map_nil, hrun]
    exact hkk _ _ I _ _ _ ⟨rfl, rfl⟩ (.osl _ g1 (Nat.le_refl _) rfl fun _ => ⟨hzp, by rw [hrln]; omega, .inl ⟨w.heap.size, _, 0, by simp; rfl, by simp, fun _ => by simp⟩⟩) k2 k3
  rcases hsrc a w I ι hr he with ⟨ad, c', news, s1, s2, s3, s4, s5, s6⟩ | ⟨s1, s2, s3⟩
  · have hnl : news.length = m * ob.sz := by rw [s3, hm]
    rcases hcase with ⟨b, oo, c1, c2, c3⟩ | ⟨c1, c2, c3, c4, c5⟩
    · have hoo : oo = 0 := by rw [c3 (.inr rfl)]; simp
      subst hoo
      have hsn := srcN_osc hr (show VRel w I ι H (.slice (some ⟨b, 0, none⟩) n c) (.osc id ob.g 0 n c) by rw [← c2]; exact hv) hH rfl rfl n (Nat.le_refl _) (by omega)
      rw [List.drop_zero] at hsn
      rcases hsn with ⟨ad0, c0, olds, t1, t2, t3, t4, t5, t6⟩ | ⟨t1, _⟩
      · injection t1 with q1 q2 q3
        injection q1 with q1
        subst q1
        have hol : olds.length = n * ob.sz := by rw [t3, List.length_take, Nat.min_eq_left hon]
        have hrun := run_append_grow (P := P) w T o.type e i z hT hi hz ⟨b, 0, none⟩ n c olds (by rw [hsize]; exact hol) t4 ad m c' news (by rw [hsize]; exact hnl) s4 (by omega) (by omega) (growslice_fits (by omega) (by rw [hby]; exact hbytes))
        exact hfin olds news hol t6 hnl s6 (by rw [c2, s1]; exact hrun)
      · cases t1
    · subst c4 c5
      have hrun := run_append_nil (P := P) w T o.type e i z hT hi hz ad m c' news (by rw [hsize]; exact hnl) s4 (by omega) (by omega) (by rw [hby]; rw [Nat.zero_add] at hbytes; omega)
      refine hfin [] news (by simp) (by intro i r hi'; simp at hi') hnl s6 ?_
      rw [c2, s1, hrun]
      simp
  · omega

theorem run_append_grow_zeros {w : World} (t tn ty e : TypeId) (i : TypeInfo) (z : Value) (k kn : IntKind) (ht : P.underlying t = some (.slice e)) (htn : P.underlying tn = some (.int kn)) (hi : P.info? e = some i) (hz : i.zero = some z)
    (b : Option Addr) (sLen sCap : Nat) (olds : List Value) (hf : ∀ w : World, (∀ a : Addr, w.cell? a = w.cell? a) → True) (hfo : (Builtin.firstCells i.size sLen (.slice b sLen sCap)).run P w.drew = .ok olds.toArray w.drew)
    (n : Nat) (h0 : 0 < n) (hs : 0 < i.size) (hg : sCap < sLen + n) (h63 : ((sLen + n : Nat) : Int) ≤ 9223372036854775807) (hfit : Builtin.nextslicecap (sLen + n) sCap * i.bytes ≤ 281474976710656) (h48 : n * i.bytes ≤ 281474976710656) :
    (Builtin.append_ #[t, tn] ty #[.slice b sLen sCap, .int k n]).run P w =
      .ok (.slice (some ⟨w.heap.size, 0, none⟩) (sLen + n) (grownCap w (sLen + n) sCap e))
        (w.drew.alloc (.cells (olds.toArray ++ Builtin.zeroCells z.cells n ++ Builtin.zeroCells z.cells (grownCap w (sLen + n) sCap e - (sLen + n))) e)) := by
  have hn : ¬ (sLen + n ≤ sCap) := by omega
  have hw : IntKind.i64.wrap (n : Int) = n := by rw [IntKind.wrap_i64]; omega
  have h63' : ¬ (9223372036854775807 < ((sLen : Int) + (n : Int))) := by omega
  have h48' : ¬ (281474976710656 < Builtin.nextslicecap (sLen + n) sCap * i.bytes) := by omega
  have h48i : ¬ (281474976710656 < (n : Int) * (i.bytes : Int)) := by
    rw [← Int.natCast_mul]
    omega
  have hneg : ¬ ((n : Int) < 0) := by omega
  have hn0 : n ≠ 0 := by omega
  have hns : ¬ (n * i.size = 0) := Nat.mul_ne_zero hn0 (by omega)
  simp [Builtin.append_, run_underlying ht, run_underlying htn, sizeOf, typeInfo, zeroValue, hi, hz, asInt, asIntOf, hw, hn, hn0, hneg, hns, h63', h48', h48i, Question.forced, hfo, newRow, grownCap]

theorem zeros_rel {w : World} {I : Nat → Prop} {ι : Plc} {H : Heap} {z : Value} {sz : Nat} {row : List AV} (hcr : CRel w I ι H z.cells row) (hrow : row.length = sz) (hzs : z.cells.size = sz) (hsz : 0 < sz) (n : Nat) :
    (Builtin.zeroCells z.cells n).toList.length = n * sz ∧ (∀ u ∈ (Builtin.zeroCells z.cells n).toList, u.oneCell' = true) ∧ LRel w I ι H sz (Builtin.zeroCells z.cells n).toList (List.replicate n row) := by
  have hget : ∀ j, j < n * sz → ∃ hk : j % sz < z.cells.size, (Builtin.zeroCells z.cells n).toList[j]? = some (z.cells[j % sz]) := by
    intro j hj
    have hk : j % sz < z.cells.size := by rw [hzs]; exact Nat.mod_lt _ hsz
    refine ⟨hk, ?_⟩
    rw [Array.getElem?_toList]
    simp only [Builtin.zeroCells, Array.getElem?_map]
    rw [Array.getElem?_range, hzs, if_pos hj]
    simp only [Option.map_some]
    rw [getElem!_pos z.cells (j % sz) hk]
  have hzl : (Builtin.zeroCells z.cells n).toList.length = n * sz := by rw [Array.length_toList, size_zeroCells, hzs]
  refine ⟨hzl, ?_, ?_⟩
  · intro u hu
    obtain ⟨j, hj⟩ := List.mem_iff_getElem?.1 hu
    have hjl : j < n * sz := by
      have := (List.getElem?_eq_some_iff.1 hj).1
      rw [hzl] at this; exact this
    obtain ⟨hk, e⟩ := hget j hjl
    rw [e] at hj; cases hj
    have hkr : j % sz < row.length := by rw [hrow]; exact Nat.mod_lt _ hsz
    obtain ⟨u, q1, q2, _⟩ := hcr.2 _ _ (List.getElem?_eq_getElem hkr)
    rw [Array.getElem?_eq_getElem hk] at q1
    cases q1
    exact q2
  · intro i r hi k av hk
    rw [List.getElem?_replicate] at hi
    split at hi
    · cases hi
      rename_i hlt
      have hks : k < sz := by rw [← hrow]; exact (List.getElem?_eq_some_iff.1 hk).1
      have hfit : i * sz + k < n * sz := by
        have : (i + 1) * sz ≤ n * sz := Nat.mul_le_mul_right _ hlt
        rw [Nat.add_mul] at this; omega
      obtain ⟨hk2, e⟩ := hget _ hfit
      obtain ⟨u, q1, q2, q3⟩ := hcr.2 k av hk
      refine ⟨u, ?_, q2, q3⟩
      rw [e]
      rw [Array.getElem?_eq_getElem (by rw [hzs]; exact hks)] at q1
      cases q1
      congr 2
      exact idx_mod hks
    · cases hi

/-- append(s, make(S, n)...) beyond the capacity: a new object. -/
theorem x_append_zeros {tn e : TypeId} {id g n c m k sz bytes id2 : Nat} {kk kn : IntKind} {q : Int} {ob : Ob} {row : List AV} {rows' : List (List AV)} (ho : o.op = .call { callee := .builtin .append, args := #[x, y], argTypes := #[T, tn] }) (hS : SliceOf P T e sz) (htn : P.underlying tn = some (.int kn)) (hinf : EI P e sz bytes) (hZ : ZeroOf P e row) (hrow : row.length = sz)
    (hx : aeval E x = some (.osc id g 0 n c)) (hH : H.get id = some ob) (hg : ob.g = g) (hosz : ob.sz = sz) (hon : n ≤ ob.rows.length)
    (hy : aeval E y = some (.pv (.int kk q))) (hq : q = (m : Int)) (hm0 : 0 < m) (hroom : c < n + m) (hk : n + m = k) (hbytes : (n + m) * bytes ≤ 140737488355328) (hid : H.get id2 = none)
    (hrows : ob.rows.take n ++ List.replicate m row = rows') : OpD P N o E H (.osl id2 0 0 k) ((id2, ⟨0, sz, e, rows'⟩) :: H) := by
  intro a w I ι _ _ hr he K Q hkk
  have hmax := small_of hinf.2 hbytes
  obtain ⟨⟨i, z, hi, hz, hsize, hby, hzs, hsz0⟩, _⟩ := hinf
  obtain ⟨z', zv, z1, z2, z3⟩ := hZ
  have ezz : z' = z := by
    have := z1 w
    simp [zeroValue, typeInfo, hi, hz] at this
    exact this.symm
  subst ezz hg hosz hk hrows hq
  have hml : n + m ≤ maxLen := by simp only [maxLen]; omega
  have hv := aeval_rel he hx
  have hvy := (aeval_rel he hy).int_inv
  obtain ⟨hzp, h1, hcase⟩ := osc_slice hv hH rfl
  have hT := hS.1
  have p2 := ((hr.obj id ob hH).cells hzp).2.1
  have hcr := CRel.of_cells (ZV.rel (w := w) (I := I) (ι := ι) (H := H) z2) z3
  obtain ⟨zl, _, zr⟩ := zeros_rel hcr hrow hzs hzp m
  have hrl : ∀ r ∈ ob.rows.take n ++ List.replicate m row, r.length = ob.sz := fun r hr' => by
    rcases List.mem_append.1 hr' with h | h
    · exact p2 r (List.mem_of_mem_take h)
    · rw [(List.mem_replicate.1 h).2]; exact hrow
  have g1 : Heap.get ((id2, (⟨0, ob.sz, e, ob.rows.take n ++ List.replicate m row⟩ : Ob)) :: H) id2 = some ⟨0, ob.sz, e, ob.rows.take n ++ List.replicate m row⟩ := get_cons_same _ _ _
  have g2 : ∀ j, j ≠ id2 → Heap.get ((id2, (⟨0, ob.sz, e, ob.rows.take n ++ List.replicate m row⟩ : Ob)) :: H) j = H.get j := fun j hj => get_cons_other _ _ hj
  have hrln : (ob.rows.take n ++ List.replicate m row).length = n + m := by rw [List.length_append, List.length_take, List.length_replicate]; omega
  have hge := grownCap_ge w (n + m) c e
  have hcm := grownCap_le_maxLen w (n + m) c e hml
  have hfin : ∀ (olds : List Value), olds.length = n * ob.sz → LRel w I ι H ob.sz olds (ob.rows.take n) →
      (Builtin.append_ #[T, tn] o.type #[a.eval x, a.eval y]).run P w = .ok (.slice (some ⟨w.heap.size, 0, none⟩) (n + m) (grownCap w (n + m) c e)) (w.drew.alloc (.cells (olds.toArray ++ Builtin.zeroCells z'.cells m ++ Builtin.zeroCells z'.cells (grownCap w (n + m) c e - (n + m))) e)) → o.wpW P a w K Q := by
    intro olds q1 q2 hrun
    obtain ⟨k2, k3⟩ := Rel.place (H' := (id2, ⟨0, ob.sz, e, ob.rows.take n ++ List.replicate m row⟩) :: H) (id := id2) (cap := grownCap w (n + m) c e) (ob' := ⟨0, ob.sz, e, ob.rows.take n ++ List.replicate m row⟩)
      (cs' := olds.toArray ++ Builtin.zeroCells z'.cells m ++ Builtin.zeroCells z'.cells (grownCap w (n + m) c e - (n + m)))
      (w' := w.drew.alloc (.cells (olds.toArray ++ Builtin.zeroCells z'.cells m ++ Builtin.zeroCells z'.cells (grownCap w (n + m) c e - (n + m))) e)) hr rfl rfl rfl rfl
      (fun o' ho' => by rw [hid] at ho'; cases ho') hzp (by
        simp only [Array.size_append, List.size_toArray, size_zeroCells, hzs, q1, ← Nat.add_mul]
        congr 1
        omega) (by rw [hrln]; exact hge) hcm hrl (fun i' r hi' k' a' hk' => by
          obtain ⟨u, t1, t2, t3⟩ := LRel.app (l3 := (Builtin.zeroCells z'.cells (grownCap w (n + m) c e - (n + m))).toList) q2 (by rw [q1, List.length_take, Nat.min_eq_left hon]) zr i' r hi' k' a' hk'
          refine ⟨u, ?_, t2, t3⟩
          rw [← Array.getElem?_toList]
          simpa [List.append_assoc] using t1) g1 g2
    unfold Oper.wpW execOp
    simp only [ho, resolve, invoke, builtin, Sem.run_bind, Sem.run_pure, Result.andThen_ok, List.map_toArray, List.map_cons, List.map_nil, hrun]
    exact hkk _ _ I _ _ _ ⟨rfl, rfl⟩ (.osl _ g1 (Nat.le_refl _) rfl fun _ => ⟨hzp, by rw [hrln]; omega, .inl ⟨w.heap.size, _, 0, by simp; rfl, by simp, fun _ => by simp⟩⟩) k2 k3
  have hfit : Builtin.nextslicecap (n + m) c * i.bytes ≤ 281474976710656 := growslice_fits (by omega) (by rw [hby]; exact hbytes)
  have hm48 : m * i.bytes ≤ 281474976710656 := by
    have : m * i.bytes ≤ (n + m) * i.bytes := Nat.mul_le_mul_right _ (by omega)
    rw [hby] at this ⊢; omega
  rcases hcase with ⟨b, oo, c1, c2, c3⟩ | ⟨c1, c2, c3, c4, c5⟩
  · have hoo : oo = 0 := by rw [c3 (.inr rfl)]; simp
    subst hoo
    have hsn := srcN_osc hr (show VRel w I ι H (.slice (some ⟨b, 0, none⟩) n c) (.osc id ob.g 0 n c) by rw [← c2]; exact hv) hH rfl rfl n (Nat.le_refl _) (by omega)
    rw [List.drop_zero] at hsn
    rcases hsn with ⟨ad0, c0, olds, t1, t2, t3, t4, t5, t6⟩ | ⟨t1, _⟩
    · injection t1 with q1 q2 q3
      injection q1 with q1
      subst q1
      have hol : olds.length = n * ob.sz := by rw [t3, List.length_take, Nat.min_eq_left hon]
      have hfo := run_firstCells_some (P := P) w.drew i.size n ⟨b, 0, none⟩ n c olds (by rw [hsize]; exact hol) (by simpa using t4)
      have hrun := run_append_grow_zeros (P := P) (w := w) T tn o.type e i z' kk kn hT htn hi hz (some ⟨b, 0, none⟩) n c olds (fun _ _ => trivial) hfo m hm0 (by rw [hsize]; exact hzp) (by omega) (by omega) hfit hm48
      exact hfin olds hol t6 (by rw [c2, hvy]; exact hrun)
    · cases t1
  · subst c4 c5
    have hfo := run_firstCells_none (P := P) (w := w.drew) i.size 0 0 0
    have hrun := run_append_grow_zeros (P := P) (w := w) T tn o.type e i z' kk kn hT htn hi hz none 0 0 [] (fun _ _ => trivial) hfo m hm0 (by rw [hsize]; exact hzp) (by omega) (by omega) hfit hm48
    exact hfin [] (by simp) (by intro i r hi'; simp at hi') (by rw [c2, hvy]; exact hrun)

/-- An entry of the model that looks at what its arguments lead to. -/
def ExtRR (P : Program) (e : Array Value → Sem Value) (H : Heap) (vs : List AV) (r : AV) : Prop :=
  ∀ (w : World) (I : Nat → Prop) (ι : Plc) (cs : Array Value), Rel I ι H w → cs.size = vs.length → (∀ (i : Nat) (v : Value) (a : AV), cs[i]? = some v → vs[i]? = some a → VRel w I ι H v a) → ∃ c, (e cs).run P w = .ok c w ∧ VRel w I ι H c r
theorem opd_extr {f : Operand} {args : Array Operand} {at_ : Array TypeId} {F : FuncId} {fn : Func} {e : Array Value → Sem Value} {vs : List AV} {r : AV} (ho : o.op = .call { callee := .value f, args := args, argTypes := at_ }) (hf : aeval E f = some (.pv (.fn F))) (hF : P.funcs[F]? = some fn) (hname : (fn.name == "runtime.NumGoroutine") = false)
    (hb : fn.body.isNone = true) (hn : Extern.findNext fn = none) (he : Extern.find fn = some e) (hv : aargs E args.toList = some vs) (h : ExtRR P e H vs r) : OpD P N o E H r H :=
  .of_run fun a w I ι hr hE => by
    have hfv := (aeval_rel hE hf).fn_inv
    obtain ⟨h1, h2⟩ := mapM_aeval hE (aargs_mapM hv)
    obtain ⟨c, hc, hcr⟩ := h w I ι (args.map a.eval) hr (by simpa using h1) (fun i v b hv hb => h2 i v b (by simpa using hv) hb)
    refine ⟨c, ?_, hcr⟩
    unfold execOp
    simp only [ho, resolve, hfv, Deferred.ofValue, Sem.run_bind, Sem.run_pure, Result.andThen_ok, invoke, Array.empty_append, Array.append_empty, run_callFunc_extern hF hname hb hn he, hc]
/-- Two objects of one's own do not overlap. -/
theorem ext_overlaps {tS tR e : TypeId} {sz id1 g1 off1 n1 id2 g2 off2 n2 c2 : Nat} {o1 o2 : Ob} (hS : SliceOf P tS e sz) (h1 : H.get id1 = some o1) (hg1 : o1.g = g1) (h2 : H.get id2 = some o2) (hg2 : o2.g = g2) (hne : Nat.beq id1 id2 = false) (hp1 : 0 < n1) (hpos : 0 < n2 + c2) :
    ExtRR P (Extern.SlicesOverlaps.overlaps #[tS, tS] #[tR]) H [.osl id1 g1 off1 n1, .osc id2 g2 off2 n2 c2] (.pv (.bool false)) := by
  intro w I ι cs hr hl h
  obtain ⟨u, v, rfl, k1, k2⟩ := two_vals hl h
  refine ⟨.bool false, ?_, .pv (.bool false)⟩
  have hid : id1 ≠ id2 := fun e => by subst e; rw [beq_self] at hne; cases hne
  obtain ⟨_, hc1⟩ := osl_slice k1 h1 hg1
  obtain ⟨z2, l2, hc2⟩ := osc_slice k2 h2 hg2
  have z1 := osl_sz k1 h1 hg1
  rcases hc1 with ⟨b1, cap1, oo1, a1, a2, a3⟩ | ⟨a1, a2, _, _⟩
  · rcases hc2 with ⟨b2, oo2, d1, d2, d3⟩ | ⟨d1, d2, d3, d4, d5⟩
    · have hbb : b1 ≠ b2 := fun e => hid (hr.inj id1 id2 o1 o2 b1 cap1 (off2 + c2) h1 h2 a1 (by rw [e]; exact d1))
      obtain ⟨_, _, ⟨b', cap', cs1, e1, e2, e3, e4, _⟩ | ⟨e1, _⟩⟩ := (hr.obj id1 o1 h1).cells z1
      · rw [a1] at e1; cases e1
        obtain ⟨_, _, ⟨b'', cap'', cs2, f1, f2, f3, f4, _⟩ | ⟨f1, _⟩⟩ := (hr.obj id2 o2 h2).cells z2
        · rw [d1] at f1; cases f1
          rw [a2, d2]
          refine Lib.run_overlaps_apart (P := P) w tS tR e hS.1 sz hS.2.1 ⟨b1, oo1, none⟩ ⟨b2, oo2, none⟩ n1 _ n2 c2 hbb o1.ty o2.ty cs1.size cs2.size ?_ ?_ ?_ ?_ ?_
          · simp [World.shape?, e2]
          · simp [World.shape?, f2]
          · rw [f4]
            have : 0 < (off2 + c2) * o2.sz := Nat.mul_pos (by omega) z2
            omega
          · simp [World.frozen?, e2]
          · simp [World.frozen?, e2]
        · rw [d1] at f1; cases f1
      · rw [a1] at e1; cases e1
    · omega
  · omega

theorem opd_clear {e : TypeId} {id g off len c sz : Nat} {ob : Ob} {row : List AV} {rows' : List (List AV)} (ho : o.op = .call { callee := .builtin .clear, args := #[x], argTypes := #[T] }) (hS : SliceOf P T e sz) (hZ : ZeroOf P e row) (hrow : row.length = sz)
    (hx : aeval E x = some (.osc id g off len c)) (hH : H.get id = some ob) (hg : ob.g = g) (hosz : ob.sz = sz) (hoff : off ≤ ob.rows.length) (hrows : ob.rows.take off ++ (List.replicate len row ++ ob.rows.drop (off + len)) = rows') :
    OpD P N o E H .any ((id, ⟨g, sz, ob.ty, rows'⟩) :: H) := by
  intro a w I ι _ _ hr he K Q hkk
  obtain ⟨z, zv, z1, z2, z3⟩ := hZ
  subst hg hosz hrows
  have hv := aeval_rel he hx
  obtain ⟨hzp, h1, hcase⟩ := osc_slice hv hH rfl
  have hT := hS.1
  have hcr := CRel.of_cells (ZV.rel (w := w) (I := I) (ι := ι) (H := H) z2) z3
  have hzs : z.cells.size = ob.sz := by rw [← hrow]; exact hcr.1
  have hnone : len = 0 → (execOp a.eval o).run P w = .ok (.value (.tuple #[])) w → o.wpW P a w K Q := by
    intro h0 hrun
    obtain ⟨k2, k3⟩ := hr.congr (H' := (id, ⟨ob.g, ob.sz, ob.ty, ob.rows.take off ++ (List.replicate len row ++ ob.rows.drop (off + len))⟩) :: H) (fun j => by
      subst h0
      rw [List.replicate_zero, write_nil rfl]
      by_cases e : j = id
      · subst e; rw [get_cons_same, hH]
      · exact get_cons_other _ _ e)
    unfold Oper.wpW
    rw [hrun]
    exact hkk _ _ I ι _ _ ⟨rfl, rfl⟩ (.any _) k2 k3
  rcases hcase with ⟨b, oo, c1, c2, c3⟩ | ⟨c1, c2, c3, c4, c5⟩
  · by_cases h0 : len = 0
    · refine hnone h0 ?_
      unfold execOp
      simp only [ho, resolve, invoke, builtin, Sem.run_bind, Sem.run_pure, Result.andThen_ok, List.map_toArray, List.map_cons, List.map_nil, c2, h0, Builtin.clear_]
      simp [run_underlying hT]
    · obtain ⟨p1, p2, ⟨b', cap', cs, e1, e2, e3, e4, e5, e5', e6⟩ | ⟨e1, _⟩⟩ := (hr.obj id ob hH).cells hzp
      · rw [c1] at e1; cases e1
        have hoo := c3 (by omega)
        subst hoo
        have hzl : (Builtin.zeroCells z.cells len).toList.length = (List.replicate len row).length * ob.sz := by
          rw [Array.length_toList, size_zeroCells, hzs, List.length_replicate]
        have hget : ∀ j, j < len * ob.sz → ∃ hk : j % ob.sz < z.cells.size, (Builtin.zeroCells z.cells len).toList[j]? = some (z.cells[j % ob.sz]) := by
          intro j hj
          have hk : j % ob.sz < z.cells.size := by rw [hzs]; exact Nat.mod_lt _ hzp
          refine ⟨hk, ?_⟩
          rw [Array.getElem?_toList]
          simp only [Builtin.zeroCells, Array.getElem?_map]
          rw [Array.getElem?_range, hzs, if_pos hj]
          simp only [Option.map_some]
          rw [getElem!_pos z.cells (j % ob.sz) hk]
        have hone : ∀ u ∈ (Builtin.zeroCells z.cells len).toList, u.oneCell' = true := by
          intro u hu
          obtain ⟨j, hj⟩ := List.mem_iff_getElem?.1 hu
          have hjl : j < len * ob.sz := by
            have := (List.getElem?_eq_some_iff.1 hj).1
            rw [hzl, List.length_replicate] at this; exact this
          obtain ⟨hk, e⟩ := hget j hjl
          rw [e] at hj; cases hj
          have hkr : j % ob.sz < row.length := by rw [hrow]; exact Nat.mod_lt _ hzp
          obtain ⟨u, q1, q2, _⟩ := hcr.2 _ _ (List.getElem?_eq_getElem hkr)
          rw [Array.getElem?_eq_getElem hk] at q1
          cases q1
          exact q2
        have hlr : LRel w I ι H ob.sz (Builtin.zeroCells z.cells len).toList (List.replicate len row) := by
          intro i r hi k av hk
          rw [List.getElem?_replicate] at hi
          split at hi
          · cases hi
            rename_i hlt
            have hks : k < ob.sz := by rw [← hrow]; exact (List.getElem?_eq_some_iff.1 hk).1
            have hfit : i * ob.sz + k < len * ob.sz := by
              have : (i + 1) * ob.sz ≤ len * ob.sz := Nat.mul_le_mul_right _ hlt
              rw [Nat.add_mul] at this; omega
            obtain ⟨hk2, e⟩ := hget _ hfit
            obtain ⟨u, q1, q2, q3⟩ := hcr.2 k av hk
            refine ⟨u, ?_, q2, q3⟩
            rw [e]
            rw [Array.getElem?_eq_getElem (by rw [hzs]; exact hks)] at q1
            cases q1
            congr 2
            exact idx_mod hks
          · cases hi
        have hfit : off * ob.sz + 0 + (Builtin.zeroCells z.cells len).toList.length ≤ cs.size := by
          rw [e4, hzl, List.length_replicate, Nat.add_zero, ← Nat.add_mul]; exact Nat.mul_le_mul_right _ (by omega)
        have hst := run_storeCells_at P b (off * ob.sz) ob.ty (Builtin.zeroCells z.cells len).toList 0 cs w e2 hfit hone
        simp only [Nat.add_zero] at hst
        obtain ⟨k2, k3⟩ := Rel.write (H' := (id, ⟨ob.g, ob.sz, ob.ty, ob.rows.take off ++ (List.replicate len row ++ ob.rows.drop (off + len))⟩) :: H) (off := off) (g2 := ob.g) hr hH c1 e2 hzl hlr (fun r hr' => by rw [(List.mem_replicate.1 hr').2]; exact hrow) hoff (by rw [List.length_replicate]; omega) (Nat.le_refl _) (by rw [get_cons_same, List.length_replicate]) (fun j hj => get_cons_other _ _ hj)
        unfold Oper.wpW execOp
        simp only [ho, resolve, invoke, builtin, Sem.run_bind, Sem.run_pure, Result.andThen_ok, List.map_toArray, List.map_cons, List.map_nil, c2, Builtin.clear_]
        obtain ⟨n', hn'⟩ : ∃ n', len = n' + 1 := ⟨len - 1, by omega⟩
        subst hn'
        simp only [List.getElem?_toArray, List.getElem?_cons_zero, run_underlying hT, Sem.run_bind, Sem.run_pure, Result.andThen_ok, z1, hst]
        exact hkk _ _ I ι _ _ ⟨rfl, rfl⟩ (.any _) k2 k3
      · rw [c1] at e1; cases e1
  · refine hnone c4 ?_
    unfold execOp
    simp only [ho, resolve, invoke, builtin, Sem.run_bind, Sem.run_pure, Result.andThen_ok, List.map_toArray, List.map_cons, List.map_nil, c2, Builtin.clear_]
    simp [run_underlying hT]

/-- A cut with a bound, of which nothing is used. -/
theorem x_slice_chk {e : TypeId} {lo hi mx : Operand} {id g off len c l h m sz : Nat} {ob : Ob} (ho : o.op = .slice T x (some lo) (some hi) (some mx)) (hS : SliceOf P T e sz) (hx : aeval E x = some (.osc id g off len c))
    (hH : H.get id = some ob) (hg : ob.g = g) (hlo : aeval E lo = some (.pv (.int .i64 l))) (hhi : aeval E hi = some (.pv (.int .i64 h))) (hmx : aeval E mx = some (.pv (.int .i64 m))) (h1 : l ≤ h) (h2 : h ≤ m) (h3 : m ≤ c) : OpD P N o E H .any H :=
  .of_run fun a w I ι hr he => by
    have hv := aeval_rel he hx
    obtain ⟨hz, hle, hcase⟩ := osc_slice hv hH hg
    have hT := hS.1
    have hs := hS.2.1
    have hTe : P.elem T = e := by simp [Program.elem, hT]
    have hT' : P.underlying T = some (.slice (P.elem T)) := by rw [hTe, hT]
    have e0 := (aeval_rel he hlo).int_inv
    have e1 := (aeval_rel he hhi).int_inv
    have e2 := (aeval_rel he hmx).int_inv
    have hb : (Instr.sliceBounds true len c (some (.int .i64 l)) (some (.int .i64 h)) (some (.int .i64 m))).run P w = .ok (l, h, m) w := by
      have hsb : ∀ (n y : Nat) (c : BoundsCode), n ≤ y → (Instr.sliceBound (.int .i64 n) y c).run P w = .ok n w := fun n y c hn => by
        have := run_sliceBound (P := P) w .i64 n y c (by omega) (by omega)
        simpa using this
      simp [Instr.sliceBounds, hsb _ _ _ h3, hsb _ _ _ h2, hsb _ _ _ h1]
    rcases hcase with ⟨b, oo, c1, c2, c3⟩ | ⟨c1, c2, c3, c4, c5⟩
    · have hrun := run_slice_any (P := P) w T (some ⟨b, oo, none⟩) len c hT' (some (.int .i64 l)) (some (.int .i64 h)) (some (.int .i64 m))
      obtain ⟨v, hval⟩ : ∃ v, (execOp a.eval o).run P w = .ok (.value v) w := by
        simp only [execOp, ho, c2, Option.map_some, e0, e1, e2]
        simp only [run_sliceAt_slice w T _ _ _ _ hT', Sem.run_bind, hrun, hb, hTe, hs, sliced, Result.andThen_ok, Sem.run_pure]
        exact ⟨_, rfl⟩
      exact ⟨v, hval, .any _⟩
    · have hl0 : l = 0 := by omega
      have hh0 : h = 0 := by omega
      have hm0 : m = 0 := by omega
      subst c4 c5 hl0 hh0 hm0
      have hrun := run_slice_any (P := P) w T none 0 0 hT' (some (.int .i64 ((0 : Nat) : Int))) (some (.int .i64 ((0 : Nat) : Int))) (some (.int .i64 ((0 : Nat) : Int)))
      obtain ⟨v, hval⟩ : ∃ v, (execOp a.eval o).run P w = .ok (.value v) w := by
        simp only [execOp, ho, c2, Option.map_some, e0, e1, e2]
        simp only [run_sliceAt_slice w T _ _ _ _ hT', Sem.run_bind, hrun, hb, hTe, hs, sliced, Result.andThen_ok, Sem.run_pure]
        exact ⟨_, rfl⟩
      exact ⟨v, hval, .any _⟩
end
end Go.Abs
end
section
set_option linter.unusedVariables false
set_option linter.unusedSimpArgs false
namespace Go.Abs
section
variable {P : Program} {N : Nat} {o : Oper} {E : Env} {H : Heap} {T t t' : TypeId} {x y : Operand}
theorem run_eql_sl {e : TypeId} (w : World) (h : P.underlying t = some (.slice e)) (a : Option Addr) (n c n' c' : Nat) : (binOp .eql t (.slice a n c) (.slice none n' c')).run P w = .ok (.bool a.isNone) w := by
  simp only [binOp]
  cases a <;> simp [Op.equal, Op.maxDepth, Lib.run_equalIn_slice_nil w 9999 t e _ n c n' c' h]
/-- An empty slice that is read: it may be nil, or not. -/
theorem opr_sl_nil {e : TypeId} {rows : List (List PV)} (ho : o.op = .binOp .eql t x (.const (.slice none 0 0)) t') (ht : P.underlying t = some (.slice e)) (hx : aeval E x = some (.pv (.sl rows))) : OpR P N o E H (fun r H' => H' = H ∧ ∃ b, r = .pv (.bool b) ∧ (b = true → rows = [])) := by
  intro a w I ι _ _ hr he K Q hk
  have hv := (aeval_rel he hx).pv_inv
  have e2 : a.eval (.const (.slice none 0 0)) = .slice none 0 0 := rfl
  obtain ⟨b, n, c, e1, h1⟩ : ∃ (b : Option Addr) (n c : Nat), a.eval x = .slice b n c ∧ (b.isNone = true → rows = []) := by
    generalize a.eval x = v at hv
    cases hv with
    | nilsl => exact ⟨none, 0, 0, rfl, fun _ => rfl⟩
    | empsl a => exact ⟨some a, 0, 0, rfl, fun h => by cases h⟩
    | sl b off cap sz _ cs h1 h2 h3 h4 h5 h6 => exact ⟨_, _, cap, rfl, fun h => by cases h⟩
  unfold Oper.wpW
  have hrun : (execOp a.eval o).run P w = .ok (.value (.bool b.isNone)) w := by
    simp only [execOp, ho, e1, e2, eqGuard_at_slice, Sem.run_bind, Sem.run_pure, Result.andThen_ok, run_eql_sl _ ht]
  rw [hrun]
  exact hk _ _ I ι _ _ ⟨rfl, _, rfl, h1⟩ (.pv (.bool _)) hr (Step.refl _ _ _ _)

/-! ### where a copy comes from, and where it goes -/
def SrcOk (E : Env) (H : Heap) (sz : Nat) (y : Operand) (len : Nat) (rows : List (List AV)) : Prop :=
  ∀ (a : Act) (w : World) (I : Nat → Prop) (ι : Plc), Rel I ι H w → ERel w I ι H E a → SrcN w I ι H sz (a.eval y) len rows
def DstOk (E : Env) (H : Heap) (x : Operand) (id g off len : Nat) : Prop :=
  ∀ (a : Act) (w : World) (I : Nat → Prop) (ι : Plc), Rel I ι H w → ERel w I ι H E a → ∃ c, VRel w I ι H (a.eval x) (.osc id g off len c)
theorem src_of_osl {sz id g off len k : Nat} {ob : Ob} {rows : List (List AV)} (hy : aeval E y = some (.osl id g off len)) (hH : H.get id = some ob) (hg : ob.g = g) (hsz : ob.sz = sz) (hk : k ≤ len) (hr : (ob.rows.drop off).take k = rows) : SrcOk E H sz y len rows := by
  subst hr
  exact fun a w I ι hr he => srcN_osl hr (aeval_rel he hy) hH hg hsz k hk
theorem src_of_osc {sz id g off len c k : Nat} {ob : Ob} {rows : List (List AV)} (hy : aeval E y = some (.osc id g off len c)) (hH : H.get id = some ob) (hg : ob.g = g) (hsz : ob.sz = sz) (hk : k ≤ len) (hk2 : off + k ≤ ob.rows.length) (hr : (ob.rows.drop off).take k = rows) : SrcOk E H sz y len rows := by
  subst hr
  exact fun a w I ι hr he => srcN_osc hr (aeval_rel he hy) hH hg hsz k hk hk2
theorem dst_of_osl {id g off len : Nat} {ob : Ob} (hx : aeval E x = some (.osl id g off len)) (hH : H.get id = some ob) (hg : ob.g = g) : DstOk E H x id g off len := fun a w I ι hr he =>
  let ⟨c, _, _, h⟩ := osl_osc hr (aeval_rel he hx) hH hg
  ⟨c, h⟩
theorem dst_of_osc {id g off len c : Nat} (hx : aeval E x = some (.osc id g off len c)) : DstOk E H x id g off len := fun a w I ι hr he => ⟨c, aeval_rel he hx⟩
theorem x_copy {D S e : TypeId} {id g off len len2 n sz : Nat} {ob : Ob} {rows2 rows' : List (List AV)} (ho : o.op = .call { callee := .builtin .copy, args := #[x, y], argTypes := #[D, S] }) (hS : SliceOf P D e sz)
    (hd : DstOk E H x id g off len) (hH : H.get id = some ob) (hg : ob.g = g) (hsz : ob.sz = sz) (hoff : off ≤ ob.rows.length)
    (hsrc : SrcOk E H sz y len2 rows2) (hrl2 : ∀ r ∈ rows2, r.length = sz) (hn : rows2.length = n) (hmin : min len2 len = n)
    (hrows : ob.rows.take off ++ (rows2 ++ ob.rows.drop (off + n)) = rows') : OpD P N o E H (.pv (.int .i64 n)) ((id, ⟨g, sz, ob.ty, rows'⟩) :: H) := by
  subst hrows
  exact opd_copy ho hS hd hH hg hsz hoff hsrc hrl2 hn hmin (fun j => set_cons _ _ _ j)
end

/-! ### the end of an owned slice -/
def goneK (ob : Ob) (k : Nat) : Ob := ⟨k, ob.sz, ob.ty, []⟩
theorem Step.deadK {w : World} {I : Nat → Prop} {ι : Plc} {H : Heap} {id k : Nat} {ob : Ob} (hH : H.get id = some ob) (hk : ob.g < k) : Step I ι H w (ImmPlus I ι id) (away ι id) ((id, goneK ob k) :: H) w where
  os := rfl
  tape := rfl
  output := rfl
  size := Nat.le_refl _
  froz := fun _ _ _ => rfl
  imm := fun _ h => .inl h
  immNew := fun b hb => by
    rcases hb with hb | ⟨cap, hb⟩
    · exact .inl hb
    · exact .inr (.inl ⟨id, ob, cap, hH, hb⟩)
  own := fun b hb => by
    obtain ⟨j, o, cap, hj, hi⟩ := hb
    by_cases e : j = id
    · rw [away, if_pos e] at hi; cases hi
    · rw [away, if_neg e] at hi
      rw [get_cons_other _ _ e] at hj
      exact .inl ⟨j, o, cap, hj, hi⟩
  keep := fun _ _ _ => rfl
  objs := fun j o hj => by
    by_cases e : j = id
    · subst e
      rw [hH] at hj; cases hj
      exact ⟨goneK ob k, get_cons_same _ _ _, Nat.le_of_lt hk, fun h => absurd h (by simp only [goneK]; omega)⟩
    · exact ⟨o, by rw [get_cons_other _ _ e]; exact hj, Nat.le_refl _, fun _ => ⟨if_neg e, rfl, fun _ => Nat.le_refl _⟩⟩
theorem Rel.deadK {w : World} {I : Nat → Prop} {ι : Plc} {H : Heap} {id k : Nat} {ob : Ob} (hr : Rel I ι H w) (hH : H.get id = some ob) (hk : ob.g < k) (hsz : 0 < ob.sz) : Rel (ImmPlus I ι id) (away ι id) ((id, goneK ob k) :: H) w := by
  have hst := Step.deadK (w := w) (I := I) (ι := ι) hH hk
  refine ⟨fun b hb => ?_, fun j o hj => ?_, fun j j' o o' b c c' hj hj' hi hi' => ?_⟩
  · rcases hb with hb | ⟨cap, hb⟩
    · exact hr.imm b hb
    · exact hr.lt ⟨id, ob, cap, hH, hb⟩
  · by_cases e : j = id
    · subst e
      rw [get_cons_same] at hj; cases hj
      exact .inl ⟨hsz, by simp [goneK], .inr ⟨if_pos rfl, rfl⟩⟩
    · rw [get_cons_other _ _ e] at hj
      refine (hr.obj j o hj).keep (if_neg e) (fun b cap e1 _ => ⟨rfl, fun h => ?_⟩) (fun r _ a _ v hv => hv.mono hr hst)
      rintro (hb | ⟨cap', hb⟩)
      · exact h hb
      · exact e (hr.inj j id o ob b cap cap' hj hH e1 hb)
  · have n1 : j ≠ id := fun e => by rw [away, if_pos e] at hi; cases hi
    have n2 : j' ≠ id := fun e => by rw [away, if_pos e] at hi'; cases hi'
    rw [away, if_neg n1] at hi
    rw [away, if_neg n2] at hi'
    rw [get_cons_other _ _ n1] at hj
    rw [get_cons_other _ _ n2] at hj'
    exact hr.inj j j' o o' b c c' hj hj' hi hi'
/-- An owned slice is returned for good. -/
theorem Fin.deadS {G0 H : Heap} {id k g off n sz ty : Nat} {ob : Ob} {qs : List (List PV)} (ps : List (List PV)) (hH : H.get id = some ob) (hg : ob.g = g) (hk : g < k) (hsz : 0 < ob.sz) (hs : ob.sz = sz) (ht : ob.ty = ty) (hps : ob.rows = ps.map (·.map .pv)) (hq : (ps.take (off + n)).drop off = qs) :
    Fin G0 H (.osl id g off n) ((id, ⟨k, sz, ty, []⟩) :: H) (.pv (.sl qs)) := by
  intro G hG I ι w v h1 h2 h3
  subst hg hq hs ht
  exact ⟨_, _, h1.deadK hH hk hsz, h2.trans (Step.deadK hH hk), .pv (freeze_prep h1 hH hps h3)⟩
/-- An owned slice ends; the result is another one. -/
theorem Fin.deadO {G0 H : Heap} {r : AV} {id k sz ty : Nat} {ob : Ob} (hH : H.get id = some ob) (hk : ob.g < k) (hsz : 0 < ob.sz) (hs : ob.sz = sz) (ht : ob.ty = ty) : Fin G0 H r ((id, ⟨k, sz, ty, []⟩) :: H) r := by
  intro G hG I ι w v h1 h2 h3
  subst hs ht
  exact ⟨_, _, h1.deadK hH hk hsz, h2.trans (Step.deadK hH hk), h3.mono h1 (Step.deadK hH hk)⟩
/-- An owned slice under another generation. -/
theorem Fin.bump {G0 H : Heap} {id k g off n sz ty : Nat} {ob : Ob} {rows : List (List AV)} (hH : H.get id = some ob) (hg : ob.g = g) (hk : g < k) (hs : ob.sz = sz) (ht : ob.ty = ty) (hr : ob.rows = rows) : Fin G0 H (.osl id g off n) ((id, ⟨k, sz, ty, rows⟩) :: H) (.osl id k off n) := by
  intro G hG I ι w v h1 h2 h3
  subst hg hs ht hr
  obtain ⟨k2, k3⟩ := Rel.tick (H' := (id, ⟨k, ob.sz, ob.ty, ob.rows⟩) :: H) (ob' := ⟨k, ob.sz, ob.ty, ob.rows⟩) h1 hH hk rfl rfl rfl (get_cons_same _ _ _) (fun j hj => get_cons_other _ _ hj)
  refine ⟨I, ι, k2, h2.trans k3, ?_⟩
  obtain ⟨q1, q2⟩ := osl_slice h3 hH rfl
  have hz := osl_sz h3 hH rfl
  have hone : v.oneCell' = true := by
    rcases q2 with ⟨b, cap, oo, _, e, _⟩ | ⟨_, e, _⟩ <;> subst e <;> rfl
  exact .osl _ (get_cons_same _ _ _) (Nat.le_refl _) hone fun _ => ⟨hz, q1, q2⟩
end Go.Abs
end
section
set_option linter.unusedVariables false
set_option linter.unusedSimpArgs false
namespace Go.Abs
section
variable {P : Program} {G0 : Heap} {N : Nat} {Q : Exit → Env → Heap → Prop} {E : Env} {H : Heap} {code : Code}
/-- A nil slice as an object of its own, whose capacity is 0. -/
theorem awp_nilc {t id sz : Nat} {ty : TypeId} (hx : E.get t = some (.pv .nils)) (hid : H.get id = none) (hsz : Nat.blt 0 sz = true) (h : AWp P G0 N code Q ((t, .osc id 0 0 0 0) :: E) ((id, ⟨0, sz, ty, []⟩) :: H)) : AWp P G0 N code Q E H := by
  intro G hG a w hs
  obtain ⟨I, ι, hr, hst, he⟩ := hs.rel
  obtain ⟨v, hv, hvr⟩ := he t _ hx
  have hz : 0 < sz := by simpa [Nat.blt_eq] using hsz
  obtain ⟨k1, k2⟩ := Rel.adopt (sz := sz) (ty := ty) hr hid hz
  have hvn : v = .slice none 0 0 := by
    have := hvr.pv_inv
    cases this; rfl
  subst hvn
  refine h G hG a w ⟨hs.defers, hs.size, I, _, k1, hst.trans k2, fun u x hu => ?_⟩
  by_cases e : t = u
  · subst e
    rw [Env.get_cons_same] at hu; cases hu
    exact ⟨_, hv, .osc ⟨0, sz, ty, []⟩ (get_cons_same _ _ _) (Nat.le_refl _) rfl fun _ => ⟨hz, Nat.le_refl _, .inr ⟨by simp, rfl, rfl, rfl, rfl⟩⟩⟩
  · rw [Env.get_cons_other _ _ e] at hu
    obtain ⟨c, h1, h2⟩ := he u x hu
    exact ⟨c, h1, h2.mono hr k2⟩
end
section
variable {P : Program} {N : Nat} {o : Oper} {E : Env} {H : Heap} {T : TypeId} {x y : Operand} {Q : AV → Heap → Prop}
/-- A call whose first argument is nil. -/
theorem opr_call_nil {F : FuncId} {f y : Operand} {at_ : Array TypeId} {v : AV} (ho : o.op = .call { callee := .value f, args := #[.const (.slice none 0 0), y], argTypes := at_ }) (hf : aeval E f = some (.pv (.fn F)))
    (hc : ∀ (args : Array Value) (w : World), (callFunc F args).run P w = .ok (.enter F args) w) (hv : aeval E y = some v) (h : ACalls P F [.pv .nils, v] H Q) : OpR P N o E H Q := by
  intro a w I ι _ _ hr he K QQ hk
  have hfv := (aeval_rel he hf).fn_inv
  unfold Oper.wpW execOp
  simp only [ho, resolve, hfv, Deferred.ofValue, Sem.run_bind, Sem.run_pure, Result.andThen_ok, invoke, hc, Oper.uponW_enter]
  refine (h I ι w _ hr (by simp) (fun i u b hu hb => ?_)).mono ?_
  · match i with
    | 0 => simp [Act.eval] at hu hb; subst hu hb; exact .pv .nils
    | 1 => simp at hu hb; subst hu hb; exact aeval_rel he hv
    | i + 2 => simp at hb
  · rintro e w' ⟨r, H', I', ι', v, rfl, hq, k1, k2, k3⟩
    exact hk v w' I' ι' r H' hq k1 k2 k3
end
/-- An object loses its last rows; what led to it leads nowhere. -/
theorem Rel.cut {I : Nat → Prop} {ι : Plc} {H H' : Heap} {w : World} {id k n : Nat} {ob : Ob} (hr : Rel I ι H w) (hH : H.get id = some ob) (hg : ob.g < k) (hz : 0 < ob.sz)
    (h1 : H'.get id = some ⟨k, ob.sz, ob.ty, ob.rows.take n⟩) (h2 : ∀ j, j ≠ id → H'.get j = H.get j) : Rel I ι H' w ∧ Step I ι H w I ι H' w := by
  have hst : Step I ι H w I ι H' w := by
    refine ⟨rfl, rfl, rfl, Nat.le_refl _, fun a _ _ => rfl, fun _ h => h, fun _ h => .inl h, ?_, fun _ _ _ => rfl, ?_⟩
    · rintro x ⟨j, o, c, hj, hc⟩
      by_cases e : j = id
      · subst e; exact .inl ⟨j, ob, c, hH, hc⟩
      · exact .inl ⟨j, o, c, (h2 j e).symm.trans hj, hc⟩
    · intro j o hj
      by_cases e : j = id
      · subst e
        rw [hH] at hj; cases hj
        exact ⟨_, h1, Nat.le_of_lt hg, fun e => absurd e (by simp only; omega)⟩
      · exact ⟨o, (h2 j e).trans hj, Nat.le_refl _, fun _ => ⟨rfl, rfl, fun _ => Nat.le_refl _⟩⟩
  refine ⟨⟨hr.imm, ?_, ?_⟩, hst⟩
  · intro j o hj
    by_cases e : j = id
    · subst e
      rw [h1] at hj; cases hj
      obtain ⟨p1, p2, ⟨b, cap, cs, e1, e2, e3, e4, e5, e5', e6⟩ | ⟨e1, e2⟩⟩ := (hr.obj j ob hH).cells hz
      · refine .inl ⟨p1, fun r hr' => p2 r (List.mem_of_mem_take hr'), .inl ⟨b, cap, cs, e1, e2, e3, e4, ?_, e5', fun i r hi q a hq => ?_⟩⟩
        · simp only [List.length_take]; omega
        · simp only [List.getElem?_take] at hi
          split at hi
          · obtain ⟨v, q1, q2, q3⟩ := e6 i r hi q a hq
            exact ⟨v, q1, q2, q3.mono hr hst⟩
          · cases hi
      · exact .inl ⟨p1, fun r hr' => p2 r (List.mem_of_mem_take hr'), .inr ⟨e1, by simp only [e2, List.take_nil]⟩⟩
    · rw [h2 j e] at hj
      exact (hr.obj j o hj).keep rfl (fun x c _ _ => ⟨rfl, fun h => h⟩) (fun r _ a _ v hv => hv.mono hr hst)
  · intro j j' o o' x c c' hj hj' hc hc'
    have key : ∀ j o, H'.get j = some o → ∃ o, H.get j = some o := by
      intro j o hj
      by_cases e : j = id
      · exact ⟨ob, e ▸ hH⟩
      · exact ⟨o, (h2 j e).symm.trans hj⟩
    obtain ⟨q, hq⟩ := key j o hj
    obtain ⟨q', hq'⟩ := key j' o' hj'
    exact hr.inj j j' q q' x c c' hq hq' hc hc'
end Go.Abs
end
section
set_option linter.unusedVariables false
set_option linter.unusedSimpArgs false
namespace Go.Abs
theorem nils_inv {w : World} {I : Nat → Prop} {ι : Plc} {H : Heap} {v : Value} (h : VRel w I ι H v (.pv .nils)) : v = .slice none 0 0 := by
  have := h.pv_inv
  cases this; rfl
section
variable {P : Program} {N : Nat} {o : Oper} {E : Env} {H : Heap} {S T t t' e : TypeId} {x y : Operand} {id g n : Nat} {ob : Ob}
theorem opd_cap_nils (ho : o.op = .call { callee := .builtin .cap, args := #[x], argTypes := #[T] }) (ht : P.underlying T = some (.slice e)) (hx : aeval E x = some (.pv .nils)) : OpD P N o E H (.pv (.int .i64 0)) H :=
  .of_run fun a w I ι _ he => ⟨.int .i64 0, by
    have e1 := nils_inv (aeval_rel he hx)
    simp [execOp, ho, resolve, invoke, builtin, e1, Builtin.cap_, run_underlying ht, goInt], .pv (.int _ _)⟩
theorem opd_len_nils (ho : o.op = .call { callee := .builtin .len, args := #[x], argTypes := #[T] }) (ht : P.underlying T = some (.slice e)) (hx : aeval E x = some (.pv .nils)) : OpD P N o E H (.pv (.int .i64 0)) H :=
  .of_run fun a w I ι _ he => ⟨.int .i64 0, by
    have e1 := nils_inv (aeval_rel he hx)
    simp [execOp, ho, resolve, invoke, builtin, e1, Builtin.len_, run_underlying ht, goInt], .pv (.int _ _)⟩
theorem src_of_nils {sz : Nat} (hy : aeval E y = some (.pv .nils)) : SrcOk E H sz y 0 [] := fun a w I ι hr he => .inr ⟨nils_inv (aeval_rel he hy), rfl, rfl⟩
/-- A slice that is cut: its object loses the rest. -/
theorem x_slice_cut {lo hi : Option Operand} {len h sz k : Nat} {rows' : List (List AV)} (ho : o.op = .slice T x lo hi none) (hS : SliceOf P T e sz) (hx : aeval E x = some (.osl id g 0 len))
    (hH : H.get id = some ob) (hg : ob.g = g) (hsz : ob.sz = sz) (hlo : bnd E lo 0 = some ((0 : Nat) : Int)) (hhi : bnd E hi len = some (h : Int)) (h2 : h ≤ len) (hk : g + 1 = k) (hrows : ob.rows.take h = rows') : OpD P N o E H (.osl id k 0 h) ((id, ⟨k, sz, ob.ty, rows'⟩) :: H) := by
  subst hk hrows hsz
  intro a w I ι h1 h1' hr he K Q hkk
  refine opd_slice_osl ho hS.1 hS.2.1 hx hH hg rfl hlo hhi (Nat.zero_le _) h2 rfl (Nat.sub_zero h) a w I ι h1 h1' hr he K Q ?_
  rintro c w' I' ι' r H' ⟨rfl, rfl⟩ hv hr' hst
  have hz := osl_sz hv hH hg
  obtain ⟨q1, q2⟩ := osl_slice hv hH hg
  obtain ⟨k2, k3⟩ := Rel.cut (k := g + 1) (n := h) (H' := (id, ⟨g + 1, ob.sz, ob.ty, ob.rows.take h⟩) :: H') hr' hH (by omega) hz (get_cons_same _ _ _) (fun j hj => get_cons_other _ _ hj)
  have hone : c.oneCell' = true := by
    rcases q2 with ⟨b, cap, oo, _, e, _⟩ | ⟨_, e, _⟩ <;> subst e <;> rfl
  exact hkk c w' I' ι' _ _ ⟨rfl, rfl⟩ (.osl _ (get_cons_same _ _ _) (Nat.le_refl _) hone fun _ => ⟨hz, by simp only [List.length_take]; omega, q2⟩) k2 (hst.trans k3)
theorem digits_one : ∀ (n t : Nat) (acc : Array Value), (∀ v ∈ acc.toList, v.oneCell' = true) → ∀ v ∈ (Extern.BytealgMakeNoZero.digits n t acc).toList, v.oneCell' = true
  | 0, _, _, h => h
  | n + 1, t, acc, h => by
    rw [Extern.BytealgMakeNoZero.digits]
    refine digits_one n _ _ fun v hv => ?_
    rw [Array.toList_push, List.mem_append, List.mem_singleton] at hv
    rcases hv with hv | rfl
    · exact h v hv
    · rfl
theorem run_noZero (w : World) (ps : Array TypeId) (t e : TypeId) (ht : P.underlying t = some (.slice e)) (n : Nat) (hn : n ≤ 281474976710656) :
    ∃ cs : Array Value, (Extern.BytealgMakeNoZero.makeNoZero ps #[t] #[.int .i64 n]).run P w = .ok (.slice (some ⟨w.heap.size, 0, none⟩) n cs.size) (w.drew.drew.alloc (.cells cs e)) ∧ n ≤ cs.size ∧ (n ≤ maxLen → cs.size ≤ maxLen) ∧ ∀ v ∈ cs.toList, v.oneCell' = true := by
  have hdef : Extern.BytealgMakeNoZero.makeNoZero ps #[t] #[.int .i64 n] =
      (do
        let .slice elem ← underlying t | stuck "bytealg.MakeNoZero: slice type expected"
        if (n : Int) < 0 || (n : Int) > 2 ^ 48 then runtimePanic (.error "makeslice: len out of range")
        let cap ← choose (.appendCap (n : Int).toNat 0 elem)
        askRoom cap
        let bytes ← choose (.extern "internal/bytealg.MakeNoZero.bytes" 0)
        let a ← newRow elem (Extern.BytealgMakeNoZero.digits cap bytes #[])
        pure (.slice (some a) (n : Int).toNat cap)) := rfl
  refine ⟨Extern.BytealgMakeNoZero.digits (grownCap w n 0 e) ((Question.extern "internal/bytealg.MakeNoZero.bytes" 0).cut (w.tape (w.drawn + 1) (.extern "internal/bytealg.MakeNoZero.bytes" 0))) #[], ?_, ?_, ?_, ?_⟩
  · rw [hdef]
    have h1 : ¬ (n : Int) < 0 := by omega
    have h2 : ¬ (281474976710656 : Int) < (n : Int) := by omega
    simp [run_underlying ht, h1, h2, Question.forced, newRow, Lib.size_digits, grownCap]
  · rw [Lib.size_digits]
    simpa using grownCap_ge w n 0 e
  · intro hm
    rw [Lib.size_digits]
    simpa using grownCap_le_maxLen w n 0 e hm
  · exact digits_one _ _ _ (by simp)
/-- New bytes, whatever they are. -/
theorem opd_noZero {f : Operand} {at_ : Array TypeId} {F : FuncId} {fn : Func} {ps : Array TypeId} {m : Int} (ho : o.op = .call { callee := .value f, args := #[x], argTypes := at_ }) (hf : aeval E f = some (.pv (.fn F))) (hF : P.funcs[F]? = some fn) (hname : (fn.name == "runtime.NumGoroutine") = false)
    (hb : fn.body.isNone = true) (hn : Extern.findNext fn = none) (he : Extern.find fn = some (Extern.BytealgMakeNoZero.makeNoZero ps #[t])) (ht : P.underlying t = some (.slice e)) (hx : aeval E x = some (.pv (.int .i64 m))) (hm : m = (n : Int)) (hml : n ≤ 140737488355328) (hid : H.get id = none) :
    OpD P N o E H (.osl id 0 0 n) ((id, ⟨0, 1, e, List.replicate n [.any]⟩) :: H) := by
  subst hm
  intro a w I ι _ _ hr hE K Q hk
  have hfv := (aeval_rel hE hf).fn_inv
  have hxv := (aeval_rel hE hx).int_inv
  obtain ⟨cs, e1, e2, e3, e4⟩ := run_noZero (P := P) w ps t e ht n (by omega)
  have hrd := Rel.drawn (w' := w.drew.drew) hr rfl rfl rfl rfl
  obtain ⟨d1, d2⟩ := hrd
  obtain ⟨k1, k2⟩ := Rel.place (H' := (id, ⟨0, 1, e, List.replicate n [.any]⟩) :: H) (id := id) (cap := cs.size) (ob' := ⟨0, 1, e, List.replicate n [.any]⟩) (cs' := cs) (w' := w.drew.drew.alloc (.cells cs e)) d1 rfl rfl rfl rfl
    (fun o' ho' => by rw [hid] at ho'; cases ho') Nat.zero_lt_one (by simp) (by simpa using e2) (e3 (Nat.le_trans hml (by decide))) (fun r hr' => by obtain ⟨_, rfl⟩ := List.mem_replicate.1 hr'; rfl) (fun i r hi k b hk' => by
      rw [List.getElem?_replicate] at hi
      split at hi
      · cases hi
        cases k with
        | zero =>
          cases hk'
          have hlt : i * 1 + 0 < cs.size := by omega
          exact ⟨cs[i * 1 + 0], Array.getElem?_eq_getElem hlt, e4 _ (Array.getElem_mem_toList hlt), .any _⟩
        | succ k => simp at hk'
      · cases hi) (get_cons_same _ _ _) (fun j hj => get_cons_other _ _ hj)
  unfold Oper.wpW
  have hrun : (execOp a.eval o).run P w = .ok (.value (.slice (some ⟨w.heap.size, 0, none⟩) n cs.size)) (w.drew.drew.alloc (.cells cs e)) := by
    unfold execOp
    simp only [ho, resolve, hfv, Deferred.ofValue, Sem.run_bind, Sem.run_pure, Result.andThen_ok, invoke, Array.empty_append, Array.append_empty, run_callFunc_extern hF hname hb hn he]
    simp [hxv, e1]
  rw [hrun]
  exact hk _ _ I _ _ _ ⟨rfl, rfl⟩ (.osl ⟨0, 1, e, List.replicate n [.any]⟩ (get_cons_same _ _ _) (Nat.le_refl _) rfl fun _ => ⟨Nat.zero_lt_one, by simp, .inl ⟨w.heap.size, cs.size, 0, by simp, by simp, fun _ => by simp⟩⟩) k1 (d2.trans k2)
/-- s[i:j:j] of a slice that never changes. -/
theorem x_slice3 {lo hi mx : Operand} {rows rows' : List (List PV)} {l h sz : Nat} (ho : o.op = .slice T x (some lo) (some hi) (some mx)) (hS : SliceOf P T e sz) (hx : aeval E x = some (.pv (.sl rows))) (hrows : ∀ r ∈ rows, r.length = sz)
    (hlo : aeval E lo = some (.pv (.int .i64 l))) (hhi : aeval E hi = some (.pv (.int .i64 h))) (hmx : aeval E mx = some (.pv (.int .i64 h))) (h1 : l ≤ h) (h2 : h ≤ rows.length) (hne : rows ≠ []) (hr : (rows.take h).drop l = rows') : OpD P N o E H (.pv (.sl rows')) H := by
  subst hr
  exact .of_run fun a w I ι _ he => by
    have hv := (aeval_rel he hx).pv_inv
    have e0 := (aeval_rel he hlo).int_inv
    have e1 := (aeval_rel he hhi).int_inv
    have e2 := (aeval_rel he hmx).int_inv
    generalize hc : a.eval x = c at hv
    have hT := hS.1
    have hs := hS.2.1
    have hTe : P.elem T = e := by simp [Program.elem, hT]
    have hT' : P.underlying T = some (.slice (P.elem T)) := by rw [hTe, hT]
    cases hv with
    | nilsl => exact absurd rfl hne
    | empsl a0 => exact absurd rfl hne
    | sl b off cap sz' _ cs hI hsz hlen hcap hcc hpp =>
      have hsz' : sz' = sz := by
        obtain ⟨r, rs, e⟩ := List.exists_cons_of_ne_nil hne
        have hm : r ∈ rows := by rw [e]; simp
        rw [← hlen r hm, hrows r hm]
      subst hsz'
      have hb : (Instr.sliceBounds true rows.length cap (some (.int .i64 l)) (some (.int .i64 h)) (some (.int .i64 h))).run P w = .ok (l, h, h) w := by
        have hsb : ∀ (n y : Nat) (c : BoundsCode), n ≤ y → (Instr.sliceBound (.int .i64 n) y c).run P w = .ok n w := fun n y c hn => by
          have := run_sliceBound (P := P) w .i64 n y c (by omega) (by omega)
          simpa using this
        simp [Instr.sliceBounds, hsb _ _ _ h1, hsb _ _ _ (Nat.le_refl h), hsb h cap _ (by omega)]
      have htl : (rows.take h).length = h := by rw [List.length_take]; omega
      have hget : ∀ (i : Nat) (r : List PV), (rows.take h)[i]? = some r → rows[i]? = some r := fun i r hr => by
        rw [List.getElem?_take] at hr
        split at hr
        · exact hr
        · cases hr
      have hcut := PRep.cut (w := w) (I := I) (b := b) (off := off) (cap := h) (l := l) (h := h) (rows := rows.take h) (cs := cs) hI hsz (fun r hr => hlen r (List.mem_of_mem_take hr)) (by rw [htl]; exact Nat.le_refl _)
        (fun i r hr k p hk => hcc i r (hget i r hr) k p hk) (fun i r hr k p hk => hpp i r (hget i r hr) k p hk) h1 (by rw [htl]; exact Nat.le_refl _)
      rw [List.take_take, Nat.min_self] at hcut
      refine ⟨_, ?_, .pv hcut⟩
      simp only [execOp, ho, hc]
      have := run_slice_any (P := P) w T (some ⟨b, off, none⟩) rows.length cap hT' (some (.int .i64 l)) (some (.int .i64 h)) (some (.int .i64 h))
      simp only [Option.map_some, run_sliceAt_slice w T _ _ _ _ hT', e0, e1, e2, Sem.run_bind, this, hb, hTe, hs, sliced, Result.andThen_ok, Sem.run_pure]
      by_cases ec : h = l <;> simp [ec]
end
end Go.Abs
end
