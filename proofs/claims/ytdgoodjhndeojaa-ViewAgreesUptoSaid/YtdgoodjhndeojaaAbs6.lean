/-
  THE ABSTRACT LOGIC: what may be forgotten of a state; slices that are handed on for reading; returns; calls.
  Conditions: each rule's own premises.
-/
import Derived.Test.YtdgoodjhndeojaaAbs5
set_option linter.unusedVariables false
set_option linter.unusedSimpArgs false
namespace Go.Abs

/-- All objects that a value names are in the heap. -/
inductive Clo (H : Heap) : AV → Prop
  | any : Clo H .any
  | pv (p : PV) : Clo H (.pv p)
  | pad (rows : List (List PV)) (i k : Nat) : Clo H (.pad rows i k)
  | ref {id g i k : Nat} (h : (H.get id).isSome = true) : Clo H (.ref id g i k)
  | osl {id g off len : Nat} (h : (H.get id).isSome = true) : Clo H (.osl id g off len)
  | clo {f : FuncId} {caps : List AV} (h : ∀ a ∈ caps, Clo H a) : Clo H (.clo f caps)
  | agg {cs : List AV} (h : ∀ a ∈ cs, Clo H a) : Clo H (.agg cs)
  | tup {cs : List AV} (h : ∀ a ∈ cs, Clo H a) : Clo H (.tup cs)
  | mp {id g : Nat} (h : (H.get id).isSome = true) : Clo H (.mp id g)
  | it {id g : Nat} (h : (H.get id).isSome = true) : Clo H (.it id g)

@[simp] theorem clo_any (H : Heap) : Clo H .any = True := eq_true .any
@[simp] theorem clo_pv (H : Heap) (p : PV) : Clo H (.pv p) = True := eq_true (.pv p)
@[simp] theorem clo_pad (H : Heap) (rows : List (List PV)) (i k : Nat) : Clo H (.pad rows i k) = True := eq_true (.pad rows i k)
@[simp] theorem clo_ref (H : Heap) (id g i k : Nat) : Clo H (.ref id g i k) = ((H.get id).isSome = true) := propext ⟨fun h => by cases h; assumption, .ref⟩
@[simp] theorem clo_osl (H : Heap) (id g i k : Nat) : Clo H (.osl id g i k) = ((H.get id).isSome = true) := propext ⟨fun h => by cases h; assumption, .osl⟩
@[simp] theorem clo_mp (H : Heap) (id g : Nat) : Clo H (.mp id g) = ((H.get id).isSome = true) := propext ⟨fun h => by cases h; assumption, .mp⟩
@[simp] theorem clo_it (H : Heap) (id g : Nat) : Clo H (.it id g) = ((H.get id).isSome = true) := propext ⟨fun h => by cases h; assumption, .it⟩
@[simp] theorem clo_clo (H : Heap) (f : FuncId) (l : List AV) : Clo H (.clo f l) = ∀ a ∈ l, Clo H a := propext ⟨fun h => by cases h; assumption, .clo⟩
@[simp] theorem clo_agg (H : Heap) (l : List AV) : Clo H (.agg l) = ∀ a ∈ l, Clo H a := propext ⟨fun h => by cases h; assumption, .agg⟩
@[simp] theorem clo_tup (H : Heap) (l : List AV) : Clo H (.tup l) = ∀ a ∈ l, Clo H a := propext ⟨fun h => by cases h; assumption, .tup⟩

def Sub (H' H : Heap) : Prop := ∀ id o, H'.get id = some o → H.get id = some o
def Closed (H : Heap) : Prop := ∀ id o, H.get id = some o → ∀ r ∈ o.rows, ∀ a ∈ r, Clo H a

theorem VRel.restrict {w : World} {I : Nat → Prop} {ι : Plc} {H H' : Heap} (hs : Sub H' H) {v : Value} {a : AV} (h : VRel w I ι H v a) : Clo H' a → VRel w I ι H' v a := by
  induction h with
  | any v => exact fun _ => .any v
  | pv h => exact fun _ => .pv h
  | ref o h1 h2 h3 h4 =>
    intro hc
    cases hc with
    | ref hc =>
      obtain ⟨o', ho'⟩ := Option.isSome_iff_exists.1 hc
      have := hs _ _ ho'
      rw [h1] at this; cases this
      exact .ref o ho' h2 h3 h4
  | pad b off cap sz h1 h2 h3 cs h4 h5 h6 => exact fun _ => .pad b off cap sz h1 h2 h3 cs h4 h5 h6
  | osl o h1 h2 h3 h4 =>
    intro hc
    cases hc with
    | osl hc =>
      obtain ⟨o', ho'⟩ := Option.isSome_iff_exists.1 hc
      have := hs _ _ ho'
      rw [h1] at this; cases this
      exact .osl o ho' h2 h3 h4
  | clo hl h ih =>
    intro hc
    cases hc with | clo hc => exact .clo hl fun i v a hv ha => ih i v a hv ha (hc a (List.mem_of_getElem? ha))
  | agg hl h1 h ih =>
    intro hc
    cases hc with | agg hc => exact .agg hl h1 fun i v a hv ha => ih i v a hv ha (hc a (List.mem_of_getElem? ha))
  | tup hl h ih =>
    intro hc
    cases hc with | tup hc => exact .tup hl fun i v a hv ha => ih i v a hv ha (hc a (List.mem_of_getElem? ha))
  | mp o h1 h2 h3 h4 =>
    intro hc
    cases hc with
    | mp hc =>
      obtain ⟨o', ho'⟩ := Option.isSome_iff_exists.1 hc
      have := hs _ _ ho'
      rw [h1] at this; cases this
      exact .mp o ho' h2 h3 h4
  | it o h1 h2 h3 h4 =>
    intro hc
    cases hc with
    | it hc =>
      obtain ⟨o', ho'⟩ := Option.isSome_iff_exists.1 hc
      have := hs _ _ ho'
      rw [h1] at this; cases this
      exact .it o ho' h2 h3 h4

theorem Own.sub {ι : Plc} {H H' : Heap} (hs : Sub H' H) {b : Nat} (h : Own ι H' b) : Own ι H b :=
  let ⟨id, o, c, h1, h2⟩ := h; ⟨id, o, c, hs id o h1, h2⟩

theorem Rel.restrict {I : Nat → Prop} {ι : Plc} {H H' : Heap} {w : World} (hr : Rel I ι H w) (hs : Sub H' H) (hc : Closed H') : Rel I ι H' w where
  imm := hr.imm
  obj := fun id o ho => (hr.obj id o (hs id o ho)).keep rfl (fun _ _ _ _ => ⟨rfl, fun h => h⟩) (fun r hr' a ha v hv => hv.restrict hs (hc id o ho r hr' a ha))
  inj := fun id id' o o' b c c' h h' => hr.inj id id' o o' b c c' (hs id o h) (hs id' o' h')

def Kept (H0 H' H : Heap) : Prop := ∀ id, (H0.get id).isSome = true → H'.get id = H.get id

theorem Step.restrict {I0 I : Nat → Prop} {ι0 ι : Plc} {H0 H H' : Heap} {w0 w : World} (h : Step I0 ι0 H0 w0 I ι H w) (hs : Sub H' H) (hk : Kept H0 H' H) : Step I0 ι0 H0 w0 I ι H' w where
  os := h.os
  tape := h.tape
  output := h.output
  size := h.size
  froz := h.froz
  imm := h.imm
  immNew := h.immNew
  own := fun b hb => h.own b (hb.sub hs)
  keep := h.keep
  objs := fun id o ho => by
    obtain ⟨o', h1, h2⟩ := h.objs id o ho
    exact ⟨o', (hk id (by simp [ho])).trans h1, h2⟩

/-! ### a state that is looked at by its slots alone -/
def EOk (E : Env) (H' : Heap) : Env → Prop
  | [] => True
  | (t, v) :: r => (∃ v0, E.get t = some v0 ∧ v0 = v) ∧ Clo H' v ∧ EOk E H' r
def HOk (H H' : Heap) : Heap → Prop
  | [] => True
  | (id, o) :: r => (∃ o0, H.get id = some o0 ∧ o0 = o) ∧ (∀ r ∈ o.rows, ∀ a ∈ r, Clo H' a) ∧ HOk H H' r
def KOk (H' H : Heap) : Heap → Prop
  | [] => True
  | (id, _) :: r => H'.get id = H.get id ∧ KOk H' H r

theorem mem_of_get {E : Env} {t : Nat} {v : AV} (h : E.get t = some v) : (t, v) ∈ E := by
  induction E with
  | nil => cases h
  | cons x r ih =>
    obtain ⟨i, u⟩ := x
    cases e : Nat.beq i t with
    | true =>
      have : i = t := Nat.eq_of_beq_eq_true e
      subst this
      simp [Env.get, e] at h
      simp [h]
    | false => simp [Env.get, e] at h; exact List.mem_cons_of_mem _ (ih h)
theorem mem_of_hget {H : Heap} {t : Nat} {o : Ob} (h : H.get t = some o) : (t, o) ∈ H := by
  induction H with
  | nil => cases h
  | cons x r ih =>
    obtain ⟨i, u⟩ := x
    cases e : Nat.beq i t with
    | true =>
      have : i = t := Nat.eq_of_beq_eq_true e
      subst this
      simp [Heap.get, e] at h
      simp [h]
    | false => simp [Heap.get, e] at h; exact List.mem_cons_of_mem _ (ih h)
theorem EOk.spec {E : Env} {H' : Heap} {E' : Env} (h : EOk E H' E') : ∀ p ∈ E', E.get p.1 = some p.2 ∧ Clo H' p.2 := by
  induction E' with
  | nil => simp
  | cons x r ih =>
    obtain ⟨t, v⟩ := x
    obtain ⟨⟨v0, h1, h2⟩, h3, h4⟩ := h
    subst h2
    intro p hp
    rcases List.mem_cons.1 hp with e | e
    · subst e; exact ⟨h1, h3⟩
    · exact ih h4 p e
theorem HOk.spec {H H' : Heap} {L : Heap} (h : HOk H H' L) : ∀ p ∈ L, H.get p.1 = some p.2 ∧ ∀ r ∈ p.2.rows, ∀ a ∈ r, Clo H' a := by
  induction L with
  | nil => simp
  | cons x r ih =>
    obtain ⟨t, v⟩ := x
    obtain ⟨⟨v0, h1, h2⟩, h3, h4⟩ := h
    subst h2
    intro p hp
    rcases List.mem_cons.1 hp with e | e
    · subst e; exact ⟨h1, h3⟩
    · exact ih h4 p e
theorem KOk.spec {H' H : Heap} {L : Heap} (h : KOk H' H L) : ∀ p ∈ L, H'.get p.1 = H.get p.1 := by
  induction L with
  | nil => simp
  | cons x r ih =>
    obtain ⟨t, v⟩ := x
    intro p hp
    rcases List.mem_cons.1 hp with e | e
    · subst e; exact h.1
    · exact ih h.2 p e
theorem HOk.sub {H H' : Heap} (h : HOk H H' H') : Sub H' H := fun id o ho => (h.spec _ (mem_of_hget ho)).1
theorem HOk.closed {H H' : Heap} (h : HOk H H' H') : Closed H' := fun id o ho => (h.spec _ (mem_of_hget ho)).2
theorem KOk.kept {H0 H' H : Heap} (h : KOk H' H H0) : Kept H0 H' H := fun id hi => by
  obtain ⟨o, ho⟩ := Option.isSome_iff_exists.1 hi
  exact h.spec _ (mem_of_hget ho)

theorem Ent.wk {G0 : Heap} {E E' : Env} {H H' : Heap} (hE : EOk E H' E') (hH : HOk H H' H') (hk : KOk H' H G0) : Ent G0 E H E' H' := by
  intro G hG N a w hs
  obtain ⟨I, ι, hr, hst, he⟩ := hs.rel
  subst hG
  refine ⟨hs.defers, hs.size, I, ι, hr.restrict hH.sub hH.closed, hst.restrict hH.sub hk.kept, fun t v ht => ?_⟩
  obtain ⟨h1, h2⟩ := hE.spec _ (mem_of_get ht)
  obtain ⟨c, hc, hv⟩ := he t v h1
  exact ⟨c, hc, hv.restrict hH.sub h2⟩
theorem Ent.refl {G0 : Heap} {E : Env} {H : Heap} : Ent G0 E H E H := fun _ _ _ _ _ h => h
theorem Ent.trans {G0 : Heap} {E E' E'' : Env} {H H' H'' : Heap} (h : Ent G0 E H E' H') (h' : Ent G0 E' H' E'' H'') : Ent G0 E H E'' H'' := fun G hG N a w hs => h' G hG N a w (h G hG N a w hs)
/-- The world's heap alone stays: only slots are forgotten. -/
theorem Ent.env {G0 : Heap} {E E' : Env} {H : Heap} (hE : ∀ p ∈ E', E.get p.1 = some p.2) : Ent G0 E H E' H := by
  intro G hG N a w hs
  obtain ⟨I, ι, hr, hst, he⟩ := hs.rel
  exact ⟨hs.defers, hs.size, I, ι, hr, hst, fun t v ht => he t v (hE _ (mem_of_get ht))⟩

/-! ### freezing: an owned slice becomes a slice that is only read -/
/-- The value 'a' as it reads when the object 'id' has been frozen with the rows 'ps'. -/
inductive Fz (H' : Heap) (id g : Nat) (ps : List (List PV)) : AV → AV → Prop
  | same {a : AV} (h : Clo H' a) : Fz H' id g ps a a
  | osl {off len : Nat} {qs : List (List PV)} (hq : (ps.take (off + len)).drop off = qs) : Fz H' id g ps (.osl id g off len) (.pv (.sl qs))
  | agg {cs cs' : List AV} (hl : cs.length = cs'.length) (h : ∀ (i : Nat) (a a' : AV), cs[i]? = some a → cs'[i]? = some a' → Fz H' id g ps a a') : Fz H' id g ps (.agg cs) (.agg cs')
  | tup {cs cs' : List AV} (hl : cs.length = cs'.length) (h : ∀ (i : Nat) (a a' : AV), cs[i]? = some a → cs'[i]? = some a' → Fz H' id g ps a a') : Fz H' id g ps (.tup cs) (.tup cs')

def ImmPlus (I : Nat → Prop) (ι : Plc) (id : Nat) : Nat → Prop := fun b => I b ∨ ∃ cap, ι id = some (b, cap)

theorem freeze_prep {w : World} {I : Nat → Prop} {ι : Plc} {H : Heap} {id : Nat} {ob : Ob} {ps : List (List PV)} (hr : Rel I ι H w) (hH : H.get id = some ob) (hps : ob.rows = ps.map (·.map .pv)) {v : Value} {off len : Nat} (hv : VRel w I ι H v (.osl id ob.g off len)) :
    PRep w (ImmPlus I ι id) v (.sl ((ps.take (off + len)).drop off)) := by
  obtain ⟨hle, ⟨b, cap, oo, h1, h2, h3⟩ | ⟨h1, h2, h3, h4⟩⟩ := osl_slice hv hH rfl
  · obtain ⟨p1, p2, ⟨b', cap', cs, e1, e2, e3, e4, e5, e5', e6⟩ | ⟨e1, _⟩⟩ := (hr.obj id ob hH).cells (osl_sz hv hH rfl)
    · rw [h1] at e1; cases e1
      have hlen : ps.length = ob.rows.length := by rw [hps]; simp
      have hcut := PRep.cut (w := w) (I := ImmPlus I ι id) (b := b) (off := 0) (cap := cap) (sz := ob.sz) (rows := ps) (l := off) (h := off + len) (cs := fun i k => (cs[i * ob.sz + k]?).getD undef)
        (.inr ⟨cap, h1⟩) p1 (fun r hr' => by
          have : r.map AV.pv ∈ ob.rows := by rw [hps]; exact List.mem_map_of_mem hr'
          have := p2 _ this
          simpa using this) (by omega)
        (fun i r hi k p hk => by
          obtain ⟨u, q1, q2, q3⟩ := e6 i (r.map .pv) (by rw [hps]; simp [hi]) k (.pv p) (by simp [hk])
          rw [Nat.zero_add, cell_of_row w b _ cs ob.ty (0, 0) e2, q1]
          rfl)
        (fun i r hi k p hk => by
          obtain ⟨u, q1, q2, q3⟩ := e6 i (r.map .pv) (by rw [hps]; simp [hi]) k (.pv p) (by simp [hk])
          rw [q1]
          exact q3.pv_inv.mono (fun _ _ => rfl) (fun _ h => .inl h)) (by omega) (by omega)
      rw [h2]
      by_cases ec : cap = off
      · have hl0 : len = 0 := by omega
        subst hl0
        have : (ps.take (off + 0)).drop off = [] := List.eq_nil_of_length_eq_zero (by simp)
        rw [this]
        exact .sl b oo (cap - off) ob.sz [] (fun _ _ => undef) (.inr ⟨cap, h1⟩) p1 (by simp) (by simp) (by simp) (by simp)
      · rw [if_neg ec, Addr.add_lit] at hcut
        rw [h3 (by omega)]
        simpa using hcut
    · rw [h1] at e1; cases e1
  · subst h3 h4
    rw [h2]
    simpa using PRep.nilsl

theorem VRel.freeze {w : World} {I : Nat → Prop} {ι : Plc} {H H' : Heap} {id : Nat} {ob : Ob} {ps : List (List PV)} (hr : Rel I ι H w) (hs : Sub H' H) (hH : H.get id = some ob) (hps : ob.rows = ps.map (·.map .pv)) {a a' : AV} (hf : Fz H' id ob.g ps a a') :
    ∀ {v : Value}, VRel w I ι H v a → VRel w (ImmPlus I ι id) ι H' v a' := by
  induction hf with
  | same h => exact fun hv => (hv.restrict hs h).mono' (fun _ _ => rfl) (fun _ h => .inl h) (fun _ o h => ⟨o, h, Nat.le_refl _, fun _ => ⟨rfl, rfl, fun _ => Nat.le_refl _⟩⟩)
  | osl hq =>
    intro v hv
    subst hq
    exact .pv (freeze_prep hr hH hps hv)
  | agg hl h ih =>
    intro v hv
    cases hv with
    | agg h1 h2 h3 =>
      refine .agg (h1.trans hl) h2 fun i u a' hu ha' => ?_
      have hi := (List.getElem?_eq_some_iff.1 ha').1
      exact ih i _ a' (List.getElem?_eq_getElem (by omega)) ha' (h3 i u _ hu (List.getElem?_eq_getElem (by omega)))
  | tup hl h ih =>
    intro v hv
    cases hv with
    | tup h1 h3 =>
      refine .tup (h1.trans hl) fun i u a' hu ha' => ?_
      have hi := (List.getElem?_eq_some_iff.1 ha').1
      exact ih i _ a' (List.getElem?_eq_getElem (by omega)) ha' (h3 i u _ hu (List.getElem?_eq_getElem (by omega)))

theorem Rel.freeze {w : World} {I : Nat → Prop} {ι : Plc} {H H' : Heap} {id : Nat} {ob : Ob} (hr : Rel I ι H w) (hs : Sub H' H) (hc : Closed H') (hH : H.get id = some ob) (hno : H'.get id = none) : Rel (ImmPlus I ι id) ι H' w := by
  have hr' := hr.restrict hs hc
  refine ⟨fun b hb => ?_, fun j o hj => ?_, hr'.inj⟩
  · rcases hb with hb | ⟨cap, hb⟩
    · exact hr.imm b hb
    · exact hr.lt ⟨id, ob, cap, hH, hb⟩
  · refine (hr'.obj j o hj).keep rfl (fun b' cap' e1 _ => ⟨rfl, fun e3 => ?_⟩) (fun r _ a _ v hv => hv.mono' (fun _ _ => rfl) (fun _ h => .inl h) (fun _ o h => ⟨o, h, Nat.le_refl _, fun _ => ⟨rfl, rfl, fun _ => Nat.le_refl _⟩⟩))
    rintro (h | ⟨cap, h⟩)
    · exact e3 h
    · have : j = id := hr.inj j id o ob b' cap' cap (hs j o hj) hH e1 h
      rw [this, hno] at hj
      cases hj

theorem Step.freeze {I0 I : Nat → Prop} {ι0 ι : Plc} {H0 H H' : Heap} {w0 w : World} {id : Nat} {ob : Ob} (h : Step I0 ι0 H0 w0 I ι H w) (hs : Sub H' H) (hk : Kept H0 H' H) (hH : H.get id = some ob) : Step I0 ι0 H0 w0 (ImmPlus I ι id) ι H' w :=
  let h' := h.restrict hs hk
  { h' with
    imm := fun b hb => .inl (h.imm b hb)
    immNew := fun b hb => by
      rcases hb with hb | ⟨cap, hb⟩
      · exact h.immNew b hb
      · rcases h.own b ⟨id, ob, cap, hH, hb⟩ with h1 | h1
        · exact .inr (.inl h1)
        · exact .inr (.inr h1) }

/-- A result and the heap behind it, as they are handed on. -/
def Fin (G0 : Heap) (H : Heap) (r : AV) (H' : Heap) (r' : AV) : Prop :=
  ∀ (G : Entry), G.H = G0 → ∀ (I : Nat → Prop) (ι : Plc) (w : World) (v : Value), Rel I ι H w → Step G.I G.ι G.H G.w I ι H w → VRel w I ι H v r →
    ∃ I' ι', Rel I' ι' H' w ∧ Step G.I G.ι G.H G.w I' ι' H' w ∧ VRel w I' ι' H' v r'
theorem Fin.wk {G0 H H' : Heap} {r : AV} (hr : Clo H' r) (hH : HOk H H' H') (hk : KOk H' H G0) : Fin G0 H r H' r := by
  intro G hG I ι w v h1 h2 h3
  subst hG
  exact ⟨I, ι, h1.restrict hH.sub hH.closed, h2.restrict hH.sub hk.kept, h3.restrict hH.sub hr⟩
theorem Fin.trans {G0 H H' H'' : Heap} {r r' r'' : AV} (h : Fin G0 H r H' r') (h' : Fin G0 H' r' H'' r'') : Fin G0 H r H'' r'' := by
  intro G hG I ι w v h1 h2 h3
  obtain ⟨I', ι', a1, a2, a3⟩ := h G hG I ι w v h1 h2 h3
  exact h' G hG I' ι' w v a1 a2 a3
/-- The result's slice is frozen. -/
theorem Fin.fz {G0 H H' : Heap} {r r' : AV} {id : Nat} {ob : Ob} (ps : List (List PV)) (hH : H.get id = some ob) (hps : ob.rows = ps.map (·.map .pv)) (hf : Fz H' id ob.g ps r r') (hno : H'.get id = none) (hHO : HOk H H' H') (hk : KOk H' H G0) : Fin G0 H r H' r' := by
  intro G hG I ι w v h1 h2 h3
  subst hG
  exact ⟨_, ι, h1.freeze hHO.sub hHO.closed hH hno, h2.freeze hHO.sub hk.kept hH, VRel.freeze h1 hHO.sub hH hps hf h3⟩
/-- A slot's slice is frozen. -/
theorem Ent.fz {G0 : Heap} {E E' : Env} {H H' : Heap} {id : Nat} {ob : Ob} (ps : List (List PV)) (hH : H.get id = some ob) (hps : ob.rows = ps.map (·.map .pv)) (hE : ∀ p ∈ E', ∃ v0, E.get p.1 = some v0 ∧ Fz H' id ob.g ps v0 p.2) (hno : H'.get id = none)
    (hHO : HOk H H' H') (hk : KOk H' H G0) : Ent G0 E H E' H' := by
  intro G hG N a w hs
  obtain ⟨I, ι, hr, hst, he⟩ := hs.rel
  subst hG
  refine ⟨hs.defers, hs.size, _, ι, hr.freeze hHO.sub hHO.closed hH hno, hst.freeze hHO.sub hk.kept hH, fun t v ht => ?_⟩
  obtain ⟨v0, h1, h2⟩ := hE _ (mem_of_get ht)
  obtain ⟨c, hc, hv⟩ := he t v0 h1
  exact ⟨c, hc, VRel.freeze hr hHO.sub hH hps h2 hv⟩

/-! ### returns -/
def entryEnv (args : List AV) : Env := args.zipIdx.map fun (v, i) => (i, v)

/-- A result variable, read. -/
def rread (tmps : Array Value) : ResultVar → Sem Value
  | .tmp t => pure (tmps.getD t undef)
  | .cell a t => do loadVar t (← asAddr (tmps.getD a undef))
theorem results_rread (fn : Func) (tmps : Array Value) : results fn tmps = (do let vs ← fn.results.mapM (rread tmps); pure (if h : vs.size = 1 then vs[0] else .tuple vs)) := by
  unfold results
  congr 1
/-- What a function's result variables hold. -/
def RVal (P : Program) (E : Env) (H : Heap) (x : ResultVar) (r : AV) : Prop :=
  ∀ (a : Act) (w : World) (I : Nat → Prop) (ι : Plc), Rel I ι H w → ERel w I ι H E a →
    ∃ v, (rread a.tmps x).run P w = .ok v w ∧ VRel w I ι H v r
theorem rval_tmp {P : Program} {E : Env} {H : Heap} {t : Tmp} {r : AV} (h : E.get t = some r) : RVal P E H (.tmp t) r := fun a w I ι _ he => by
  obtain ⟨c, hc, hv⟩ := he t r h
  exact ⟨c, by simp [rread, hc], hv⟩
theorem rval_cell {P : Program} {E : Env} {H : Heap} {t : Tmp} {T : TypeId} {n id g i k : Nat} {ob : Ob} {r cs : List AV} (hx : E.get t = some (.ref id g i k)) (ha : ∀ w, (isAgg T).run P w = .ok true w) (hs : ∀ w, (sizeOf T).run P w = .ok n w) (hH : H.get id = some ob) (hg : ob.g = g)
    (hi : ob.rows[i]? = some r) (hk : (r.drop k).take n = cs) (hl : cs.length = n) : RVal P E H (.cell t T) (.agg cs) := fun a w I ι hr he => by
  obtain ⟨c, hc, hv⟩ := he t _ hx
  obtain ⟨v, h1, h2⟩ := loadn (P := P) (T := T) (ref_cells hr hv hH hg hi) ha hs hk hl
  obtain ⟨b, cap, _, e⟩ := ref_ptr hv hH hg
  subst e
  refine ⟨v, ?_, h2⟩
  simpa [rread, hc, asAddr, Instr.loadAt, Instr.sureAddr] using h1
theorem rval_cell1 {P : Program} {E : Env} {H : Heap} {t : Tmp} {T : TypeId} {id g i k : Nat} {ob : Ob} {r : List AV} {v : AV} (hx : E.get t = some (.ref id g i k)) (ha : ∀ w, (isAgg T).run P w = .ok false w) (hH : H.get id = some ob) (hg : ob.g = g)
    (hi : ob.rows[i]? = some r) (hk : r[k]? = some v) : RVal P E H (.cell t T) v := fun a w I ι hr he => by
  obtain ⟨c, hc, hv⟩ := he t _ hx
  obtain ⟨u, h1, h2⟩ := load1 (P := P) (T := T) (a := v) (ref_cells hr hv hH hg hi) ha (by simpa using hk)
  obtain ⟨b, cap, _, e⟩ := ref_ptr hv hH hg
  subst e
  refine ⟨u, ?_, h2⟩
  simpa [rread, hc, asAddr, Instr.loadAt, Instr.sureAddr] using h1

/-- The end of a body. -/
def ARet (P : Program) (fn : Func) (G0 : Heap) (Q : AV → Heap → Prop) (e : Exit) (E : Env) (H : Heap) : Prop :=
  (e = .normal ∨ e = .ret) ∧ ∃ r, (∀ (a : Act) (w : World) (I : Nat → Prop) (ι : Plc), Rel I ι H w → ERel w I ι H E a → ∃ v, (results fn a.tmps).run P w = .ok v w ∧ VRel w I ι H v r) ∧ ∃ r' H', Fin G0 H r H' r' ∧ Q r' H'

section
variable {P : Program} {fn : Func} {G0 H : Heap} {Q : AV → Heap → Prop} {e : Exit} {E : Env}
theorem aret0 (he : e = .normal ∨ e = .ret) (hf : fn.results = #[]) {r' : AV} {H' : Heap} (hfin : Fin G0 H (.tup []) H' r') (hq : Q r' H') : ARet P fn G0 Q e E H :=
  ⟨he, .tup [], fun a w I ι _ _ => ⟨.tuple #[], by simp [results, hf], .tup rfl (by simp)⟩, r', H', hfin, hq⟩
theorem aret1 (he : e = .normal ∨ e = .ret) {x : ResultVar} {r r' : AV} {H' : Heap} (hf : fn.results = #[x]) (hx : RVal P E H x r) (hfin : Fin G0 H r H' r') (hq : Q r' H') : ARet P fn G0 Q e E H :=
  ⟨he, r, fun a w I ι hr hE => by
    obtain ⟨v, h1, h2⟩ := hx a w I ι hr hE
    exact ⟨v, by rw [results_rread, hf]; simp [h1], h2⟩, r', H', hfin, hq⟩
theorem aret2 (he : e = .normal ∨ e = .ret) {x y : ResultVar} {r s r' : AV} {H' : Heap} (hf : fn.results = #[x, y]) (hx : RVal P E H x r) (hy : RVal P E H y s) (hfin : Fin G0 H (.tup [r, s]) H' r') (hq : Q r' H') : ARet P fn G0 Q e E H :=
  ⟨he, .tup [r, s], fun a w I ι hr hE => by
    obtain ⟨v, h1, h2⟩ := hx a w I ι hr hE
    obtain ⟨u, h3, h4⟩ := hy a w I ι hr hE
    refine ⟨.tuple #[v, u], by rw [results_rread, hf]; simp [h1, h3], .tup rfl ?_⟩
    · intro i c b hc hb
      match i with
      | 0 => simp at hc hb; subst hc hb; exact h2
      | 1 => simp at hc hb; subst hc hb; exact h4
      | i + 2 => simp at hc, r', H', hfin, hq⟩
theorem aret3 (he : e = .normal ∨ e = .ret) {x y z : ResultVar} {r s t r' : AV} {H' : Heap} (hf : fn.results = #[x, y, z]) (hx : RVal P E H x r) (hy : RVal P E H y s) (hz : RVal P E H z t) (hfin : Fin G0 H (.tup [r, s, t]) H' r') (hq : Q r' H') : ARet P fn G0 Q e E H :=
  ⟨he, .tup [r, s, t], fun a w I ι hr hE => by
    obtain ⟨v, h1, h2⟩ := hx a w I ι hr hE
    obtain ⟨u, h3, h4⟩ := hy a w I ι hr hE
    obtain ⟨q, h5, h6⟩ := hz a w I ι hr hE
    refine ⟨.tuple #[v, u, q], by rw [results_rread, hf]; simp [h1, h3, h5], .tup rfl ?_⟩
    · intro i c b hc hb
      match i with
      | 0 => simp at hc hb; subst hc hb; exact h2
      | 1 => simp at hc hb; subst hc hb; exact h4
      | 2 => simp at hc hb; subst hc hb; exact h6
      | i + 3 => simp at hc, r', H', hfin, hq⟩
end

theorem entryEnv_get {args : List AV} {t : Nat} {v : AV} (h : (entryEnv args).get t = some v) : args[t]? = some v := by
  have hm := mem_of_get h
  simp only [entryEnv, List.mem_map, Prod.mk.injEq, Prod.exists] at hm
  obtain ⟨a, i, h1, h2, h3⟩ := hm
  subst h2 h3
  rw [List.mem_zipIdx_iff_getElem?] at h1
  exact h1

/-- THE BODY's PROOF IS THE CALL's. -/
theorem ACalls.body {P : Program} {f : FuncId} {fn : Func} {c : Code} {args : List AV} {H : Heap} {Q : AV → Heap → Prop} {N : Nat} (hf : P.funcs[f]? = some fn) (hb : fn.body = some c) (hN : fn.ntmps = N) (hlen : args.length ≤ N)
    (h : AWp P H N c (ARet P fn H Q) (entryEnv args) H) : ACalls P f args H Q := by
  intro I ι w vs hr hl hv
  refine calls_of_wp hf hb ?_
  have hst : St ⟨I, ι, H, w⟩ N (entryEnv args) H { tmps := vs ++ Array.replicate (fn.ntmps - vs.size) undef, defers := [] } w := by
    refine ⟨rfl, ?_, I, ι, hr, Step.refl _ _ _ _, fun t a ht => ?_⟩
    · simp; omega
    · have ha := entryEnv_get ht
      have hlt : t < vs.size := by rw [hl]; exact (List.getElem?_eq_some_iff.1 ha).1
      have hu : vs[t]? = some vs[t] := Array.getElem?_eq_getElem hlt
      exact ⟨vs[t], by rw [Array.getElem?_append_left hlt]; exact hu, hv t _ a hu ha⟩
  refine wp_mono (h ⟨I, ι, H, w⟩ rfl _ w hst) ?_
  rintro e a' w' ⟨E', H', ⟨he, r, hres, r', H'', hfin, hq⟩, hs⟩
  obtain ⟨I', ι', hr', hst', hE'⟩ := hs.rel
  obtain ⟨v, h1, h2⟩ := hres a' w' I' ι' hr' hE'
  obtain ⟨I2, ι2, k1, k2, k3⟩ := hfin ⟨I, ι, H, w⟩ rfl I' ι' w' v hr' hst' h2
  rcases he with rfl | rfl
  · exact ⟨hs.defers, v, h1, r', H'', I2, ι2, v, rfl, hq, k3, k1, k2⟩
  · exact ⟨hs.defers, v, h1, r', H'', I2, ι2, v, rfl, hq, k3, k1, k2⟩

/-! ### calls -/
section
variable {P : Program} {N : Nat} {o : Oper} {E : Env} {H : Heap} {Q : AV → Heap → Prop}
theorem mapM_aeval {w : World} {I : Nat → Prop} {ι : Plc} {a : Act} (he : ERel w I ι H E a) : ∀ {l : List Operand} {vs : List AV}, l.mapM (aeval E) = some vs → l.length = vs.length ∧ ∀ (i : Nat) (v : Value) (b : AV), (l.map a.eval)[i]? = some v → vs[i]? = some b → VRel w I ι H v b := by
  intro l
  induction l with
  | nil => intro vs h; simp at h; subst h; simp
  | cons x l ih =>
    intro vs h
    simp only [List.mapM_cons, Option.pure_def, Option.bind_eq_bind, Option.bind_eq_some_iff, Option.some.injEq] at h
    obtain ⟨v0, h0, vs0, h1, rfl⟩ := h
    obtain ⟨l1, l2⟩ := ih h1
    refine ⟨by simp [l1], ?_⟩
    intro i v b hv hb
    cases i with
    | zero => simp at hv hb; subst hv hb; exact aeval_rel he h0
    | succ i => simp at hv hb; exact l2 i v b (by simpa using hv) hb

/-- The argument list of a call. -/
def aargs (E : Env) : List Operand → Option (List AV)
  | [] => some []
  | x :: r => match aeval E x, aargs E r with
    | some v, some vs => some (v :: vs)
    | _, _ => none
theorem aargs_mapM {l : List Operand} {vs : List AV} (h : aargs E l = some vs) : l.mapM (aeval E) = some vs := by
  induction l generalizing vs with
  | nil => simpa [aargs] using h
  | cons x r ih =>
    unfold aargs at h
    split at h
    · rename_i v us e1 e2
      cases h
      simp [List.mapM_cons, e1, ih e2]
    · cases h

theorem opr_call {F : FuncId} {f : Operand} {args : Array Operand} {at_ : Array TypeId} {vs : List AV} (ho : o.op = .call { callee := .value f, args := args, argTypes := at_ }) (hf : aeval E f = some (.pv (.fn F)))
    (hc : ∀ (args : Array Value) (w : World), (callFunc F args).run P w = .ok (.enter F args) w) (hv : aargs E args.toList = some vs) (h : ACalls P F vs H Q) : OpR P N o E H Q := by
  intro a w I ι _ _ hr he K QQ hk
  have hfv := (aeval_rel he hf).fn_inv
  obtain ⟨h1, h2⟩ := mapM_aeval he (aargs_mapM hv)
  unfold Oper.wp execOp
  simp only [ho, resolve, hfv, Deferred.ofValue, Sem.run_bind, Sem.run_pure, Result.andThen_ok, invoke, hc, Oper.upon_enter]
  refine (h I ι w _ hr (by simpa using h1) (fun i v b hv hb => h2 i v b (by simpa using hv) hb)).mono ?_
  rintro e w' ⟨r, H', I', ι', v, rfl, hq, k1, k2, k3⟩
  exact hk v w' I' ι' r H' hq k1 k2 k3
theorem opr_call_clo {F : FuncId} {f : Operand} {args : Array Operand} {at_ : Array TypeId} {vs caps : List AV} (ho : o.op = .call { callee := .value f, args := args, argTypes := at_ }) (hf : aeval E f = some (.clo F caps))
    (hc : ∀ (args : Array Value) (w : World), (callFunc F args).run P w = .ok (.enter F args) w) (hv : aargs E args.toList = some vs) (h : ACalls P F (vs ++ caps) H Q) : OpR P N o E H Q := by
  intro a w I ι _ _ hr he K QQ hk
  have hfv := aeval_rel he hf
  generalize hfc : a.eval f = fc at hfv
  obtain ⟨h1, h2⟩ := mapM_aeval he (aargs_mapM hv)
  cases hfv with
  | @clo _ us _ hl hh =>
    unfold Oper.wp execOp
    simp only [ho, resolve, hfc, Deferred.ofValue, Sem.run_bind, Sem.run_pure, Result.andThen_ok, invoke, hc, Oper.upon_enter, Array.empty_append]
    have h1' : args.size = vs.length := by simpa using h1
    refine (h I ι w _ hr (by simp [hl, h1']) (fun i v b hv hb => ?_)).mono ?_
    · by_cases hi : i < args.size
      · rw [Array.getElem?_append_left (by simpa using hi)] at hv
        rw [List.getElem?_append_left (by omega)] at hb
        exact h2 i v b (by simpa using hv) hb
      · rw [Array.getElem?_append_right (by simp; omega)] at hv
        rw [List.getElem?_append_right (by omega)] at hb
        simp only [Array.size_map] at hv
        rw [h1'] at hv
        exact hh _ v b hv hb
    · rintro e w' ⟨r, H', I', ι', v, rfl, hq, k1, k2, k3⟩
      exact hk v w' I' ι' r H' hq k1 k2 k3
end

/-! ### the frame: a call that is handed nothing of the heap leaves the heap -/
/-- Values that name no object. -/
theorem ACalls.frame0 {P : Program} {f : FuncId} {args : List AV} {Q : AV → Heap → Prop} (h : ACalls P f args [] Q) (hp : ∀ a ∈ args, Clo [] a) (hq : ∀ r H', Q r H' → H' = []) (H : Heap) : ACalls P f args H (fun r H' => Q r [] ∧ H' = H) := by
  intro I ι w vs hr hl hv
  have hs : Sub [] H := fun _ _ h => by cases h
  have hc : Closed [] := fun _ _ h => by cases h
  refine (h I ι w vs (hr.restrict hs hc) hl (fun i v a h1 h2 => (hv i v a h1 h2).restrict hs (hp a (List.mem_of_getElem? h2)))).mono ?_
  rintro e w' ⟨r, H', I', ι', v, rfl, q, k1, k2, k3⟩
  have := hq r H' q
  subst this
  have hno : ∀ b, ¬ Own ι [] b := fun b ⟨_, _, _, hx, _⟩ => by cases hx
  have hno' : ∀ b, ¬ Own ι' [] b := fun b ⟨_, _, _, hx, _⟩ => by cases hx
  have hst : Step I ι H w I' ι H w' := by
    refine ⟨k3.os, k3.tape, k3.output, k3.size, k3.froz, k3.imm, fun b hb => ?_, fun b hb => .inl hb, fun b hb _ => k3.keep b hb (hno b), fun id o ho => ⟨o, ho, Nat.le_refl _, fun _ => ⟨rfl, rfl, fun _ => Nat.le_refl _⟩⟩⟩
    rcases k3.immNew b hb with h1 | h1 | h1
    · exact .inl h1
    · exact absurd h1 (hno b)
    · exact .inr (.inr h1)
  have hrel : Rel I' ι H w' := by
    refine ⟨k2.imm, fun id o ho => ?_, hr.inj⟩
    refine (hr.obj id o ho).keep rfl (fun b' cap' e1 hlt => ⟨k3.keep b' hlt (hno b'), fun e3 hi => ?_⟩) (fun r _ a _ v hv => hv.mono hr hst)
    rcases k3.immNew b' hi with h1 | h1 | h1
    · exact e3 h1
    · exact hno b' h1
    · omega
  refine ⟨r, H, I', ι, v, rfl, ⟨q, rfl⟩, ?_, hrel, hst⟩
  exact k1.mono' (fun _ _ => rfl) (fun _ h => h) (fun _ _ h => by cases h)
end Go.Abs
