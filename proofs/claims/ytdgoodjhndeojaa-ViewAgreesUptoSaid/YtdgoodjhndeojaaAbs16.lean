/-
  THE ABSTRACT LOGIC, 16: an object begins anew (nil in the place of a slice; a new variable in the place of an old one); the frame of a call; names of objects changed. Conditions: none.
-/
import Derived.Test.YtdgoodjhndeojaaAbs13
set_option linter.unusedVariables false
set_option linter.unusedSimpArgs false
namespace Go.Abs
section
variable {I : Nat → Prop} {ι : Plc} {H : Heap} {w : World} {id sz ty : Nat} {ob : Ob}
/-- An object has no block any more. -/
theorem Rel.renew (hr : Rel I ι H w) (hH : H.get id = some ob) (hsz : 0 < sz) :
    Rel I (fun j => if j = id then none else ι j) ((id, ⟨ob.g + 1, sz, ty, []⟩) :: H) w ∧ Step I ι H w I (fun j => if j = id then none else ι j) ((id, ⟨ob.g + 1, sz, ty, []⟩) :: H) w := by
  have h1 : Heap.get ((id, ⟨ob.g + 1, sz, ty, []⟩) :: H) id = some ⟨ob.g + 1, sz, ty, []⟩ := by simp [Heap.get, beq_self]
  have h2 : ∀ j, j ≠ id → Heap.get ((id, ⟨ob.g + 1, sz, ty, []⟩) :: H) j = H.get j := fun j e => by simp [Heap.get, beq_ne (Ne.symm e)]
  have hst : Step I ι H w I (fun j => if j = id then none else ι j) ((id, ⟨ob.g + 1, sz, ty, []⟩) :: H) w := by
    refine ⟨rfl, rfl, rfl, Nat.le_refl _, fun a _ => rfl, fun _ h => h, fun _ h => .inl h, ?_, fun _ _ _ => rfl, ?_⟩
    · rintro x ⟨j, o, c, hj, hc⟩
      by_cases e : j = id
      · simp [e] at hc
      · simp only [e, if_false] at hc; exact .inl ⟨j, o, c, (h2 j e).symm.trans hj, hc⟩
    · intro j o hj
      by_cases e : j = id
      · subst e; rw [hH] at hj; cases hj
        exact ⟨_, h1, Nat.le_succ _, fun e => absurd e (Nat.succ_ne_self _)⟩
      · exact ⟨o, (h2 j e).trans hj, Nat.le_refl _, fun _ => ⟨by simp [e], rfl, fun _ => Nat.le_refl _⟩⟩
  refine ⟨⟨hr.imm, ?_, ?_⟩, hst⟩
  · intro j o hj
    by_cases e : j = id
    · subst e
      rw [h1] at hj; cases hj
      exact .inl ⟨hsz, by simp, .inr ⟨by simp, rfl⟩⟩
    · rw [h2 j e] at hj
      exact (hr.obj j o hj).keep (by simp [e]) (fun x c _ _ => ⟨rfl, fun h => h⟩) (fun r _ a _ v hv => hv.mono hr hst)
  · intro j j' o o' x c c' hj hj' hc hc'
    by_cases e : j = id
    · simp [e] at hc
    · by_cases e' : j' = id
      · simp [e'] at hc'
      · simp only [e, if_false] at hc
        simp only [e', if_false] at hc'
        exact hr.inj j j' o o' x c c' ((h2 j e).symm.trans hj) ((h2 j' e').symm.trans hj') hc hc'
end
section
variable {P : Program} {N : Nat} {o : Oper} {E : Env} {H : Heap} {T : TypeId} {x y : Operand}
/-- nil is stored in the place of an owned slice, which begins anew. -/
theorem opd_store_nil {r r' : List AV} {id g i k q gq sz ty : Nat} {ob oq : Ob} {rows' : List (List AV)} (ho : o.op = .store T x (.const (.slice none 0 0))) (hs : ∀ w, (sizeOf T).run P w = .ok 1 w) (hx : aeval E x = some (.ref id g i k))
    (hH : H.get id = some ob) (hg : ob.g = g) (hq : H.get q = some oq) (hgq : oq.g + 1 = gq) (hsz : Nat.blt 0 sz = true) (hne : Nat.beq q id = false) (hi : ob.rows[i]? = some r) (hk : k < r.length) (hr' : r.set k (.osl q gq 0 0) = r') (hrows : ob.rows.set i r' = rows') :
    OpD P N o E H .any ((id, ⟨g, ob.sz, ob.ty, rows'⟩) :: (q, ⟨gq, sz, ty, []⟩) :: H) := by
  subst hg hrows hgq
  intro a w I ι _ _ hr he K Q hkk
  have hne' : id ≠ q := fun e => by subst e; rw [beq_self] at hne; cases hne
  obtain ⟨a1, a2⟩ := Rel.renew (sz := sz) (ty := ty) hr hq (by simpa [Nat.blt_eq] using hsz)
  have hH' : Heap.get ((q, ⟨oq.g + 1, sz, ty, []⟩) :: H) id = some ob := by rw [get_cons_other _ _ hne']; exact hH
  refine store_wp (v := .osl q (oq.g + 1) 0 0) (cells := [.osl q (oq.g + 1) 0 0]) (r' := r') (H2 := Heap.set ((q, ⟨oq.g + 1, sz, ty, []⟩) :: H) id { ob with rows := ob.rows.set i r' }) ho a1 ((aeval_rel he hx).mono hr a2)
    (.osl ⟨oq.g + 1, sz, ty, []⟩ (get_cons_same _ _ _) (Nat.le_refl _) rfl fun _ => ⟨by simpa [Nat.blt_eq] using hsz, by simp, .inr ⟨by simp, rfl, rfl, rfl⟩⟩) rfl hs rfl hH' rfl hi (by omega) ?_ rfl K Q (fun c w' k1 k2 => ?_)
  · rw [← hr', List.set_eq_take_append_cons_drop, if_pos hk]
    rfl
  · have he : ∀ j, Heap.get ((id, ⟨ob.g, ob.sz, ob.ty, ob.rows.set i r'⟩) :: (q, ⟨oq.g + 1, sz, ty, []⟩) :: H) j = (Heap.set ((q, ⟨oq.g + 1, sz, ty, []⟩) :: H) id { ob with rows := ob.rows.set i r' }).get j := fun j => set_cons _ _ _ j
    have hsub : Sub ((id, ⟨ob.g, ob.sz, ob.ty, ob.rows.set i r'⟩) :: (q, ⟨oq.g + 1, sz, ty, []⟩) :: H) (Heap.set ((q, ⟨oq.g + 1, sz, ty, []⟩) :: H) id { ob with rows := ob.rows.set i r' }) := fun j o hj => (he j).symm.trans hj
    have hst := a2.trans k2
    refine hkk c w' I (fun j => if j = q then none else ι j) .any _ ⟨rfl, rfl⟩ (.any _) ?_ ?_
    · refine ⟨k1.imm, fun j o hj => ?_, fun j j' o o' b c c' hj hj' => k1.inj j j' o o' b c c' ((he j).symm.trans hj) ((he j').symm.trans hj')⟩
      exact (k1.obj j o ((he j).symm.trans hj)).keep rfl (fun _ _ _ _ => ⟨rfl, fun h => h⟩) (fun r _ a _ v hv => hv.mono' (fun _ _ => rfl) (fun _ h => h) (fun id o ho => ⟨o, (he id).trans ho, Nat.le_refl _, fun _ => ⟨rfl, rfl, fun _ => Nat.le_refl _⟩⟩))
    · refine ⟨hst.os, hst.tape, hst.output, hst.size, hst.froz, hst.imm, hst.immNew, fun b ⟨j, o, c, hj, hc⟩ => hst.own b ⟨j, o, c, (he j).symm.trans hj, hc⟩, hst.keep, fun j o hj => ?_⟩
      obtain ⟨o', e1, e2⟩ := hst.objs j o hj
      exact ⟨o', (he j).trans e1, e2⟩
/-- A new variable in the place of an old one. -/
theorem opd_box_again {v : AV} {cells : List AV} {id n g : Nat} {ob : Ob} (ho : o.op = .box T x) (hx : aeval E x = some v) (hc : acl v = some cells) (hn : cells.length = n + 1) (hid : H.get id = some ob) (hg : ob.g + 1 = g) :
    OpD P N o E H (.ref id g 0 0) ((id, ⟨g, n + 1, T, [cells]⟩) :: H) := by
  subst hg
  intro a w I ι _ _ hr he K Q hk
  obtain ⟨h1, h2, h3⟩ := cells_rel (aeval_rel he hx) hc
  generalize hcv : a.eval x = c at h1 h2 h3
  have hp := Rel.place (H' := (id, ⟨ob.g + 1, cells.length, T, [cells]⟩) :: H) (id := id) (cap := 1) (ob' := ⟨ob.g + 1, cells.length, T, [cells]⟩) (cs' := c.cells) (w' := w.alloc (.cells c.cells T)) hr rfl rfl rfl rfl
    (fun o ho => by rw [hid] at ho; cases ho; exact Nat.lt_succ_self _) (by show 0 < cells.length; omega) (by simp [h1]) (by simp) (by simp [maxLen]) (by simp) (fun i r hi k a hk => by
      cases i with
      | zero => simp at hi; subst hi; simpa using h3 k a hk
      | succ i => simp at hi) (get_cons_same _ _ _) (fun j hj => get_cons_other _ _ hj)
  have hv : VRel (w.alloc (.cells c.cells T)) I (fun j => if j = id then some (w.heap.size, 1) else ι j) ((id, ⟨ob.g + 1, cells.length, T, [cells]⟩) :: H) (.pointer (some ⟨w.heap.size, 0, none⟩)) (.ref id (ob.g + 1) 0 0) :=
    .ref ⟨ob.g + 1, cells.length, T, [cells]⟩ (get_cons_same _ _ _) (Nat.le_refl _) rfl fun _ => ⟨by show 0 < cells.length; omega, w.heap.size, 1, by simp, by simp⟩
  obtain ⟨r1, r2⟩ := hp
  rw [hn] at hv r1 r2
  unfold Oper.wp execOp
  simp only [ho, Instr.box, newVar, newRow, Sem.run_bind, run_newObj, Sem.run_pure, Result.andThen_ok, hcv]
  exact hk _ _ I _ _ _ ⟨rfl, rfl⟩ hv r1 r2
end

/-! ### the frame -/
def subL (H : Heap) : Heap → Prop
  | [] => True
  | (id, o) :: r => H.get id = some o ∧ subL H r
theorem subL.sub {H : Heap} : ∀ {L : Heap}, subL H L → Sub L H
  | [], _, id, o, h => by cases h
  | (i, o') :: r, h, id, o, ho => by
    simp only [Heap.get] at ho
    cases e : Nat.beq i id with
    | true => rw [e] at ho; cases ho; rw [← Nat.eq_of_beq_eq_true e]; exact h.1
    | false => rw [e] at ho; exact h.2.sub id o ho
theorem hget_app (D H : Heap) (k : Nat) : Heap.get (D ++ H) k = match D.get k with | some v => some v | none => H.get k := get_app D H k
/-- A call of which the heap is a part of a greater one. -/
theorem ACalls.frame {P : Program} {f : FuncId} {args : List AV} {H0 H1 H : Heap} {r0 : AV} (h : ACalls P f args H0 (fun r H' => r = r0 ∧ H' = H1)) (hs : Sub H0 H) (hc : Closed H0) (ha : ∀ a ∈ args, Clo H0 a)
    (hk : ∀ id, (H1.get id).isSome = true → (H0.get id).isSome = true ∨ H.get id = none) : ACalls P f args H (fun r H' => r = r0 ∧ H' = H1 ++ H) := by
  intro I ι w vs hr hl hv
  refine (h I ι w vs (hr.restrict hs hc) hl (fun i v a h1 h2 => (hv i v a h1 h2).restrict hs (ha a (List.mem_of_getElem? h2)))).mono ?_
  rintro e w' ⟨r, H', I', ι', v, rfl, ⟨rfl, rfl⟩, k1, k2, k3⟩
  obtain ⟨ι2, hι2⟩ : ∃ ι2 : Plc, ι2 = (fun j => if (H'.get j).isSome = true then ι' j else ι j) := ⟨_, rfl⟩
  have i1 : ∀ j o, H'.get j = some o → ι2 j = ι' j := fun j o hj => by rw [hι2]; simp [hj]
  have i2 : ∀ j, H'.get j = none → ι2 j = ι j := fun j hj => by rw [hι2]; simp [hj]
  have g1 : ∀ j o, H'.get j = some o → Heap.get (H' ++ H) j = some o := fun j o hj => by rw [hget_app, hj]
  have g2 : ∀ j, H'.get j = none → Heap.get (H' ++ H) j = H.get j := fun j hj => by rw [hget_app, hj]
  -- an object of the frame is none of the call's
  have hfr : ∀ j o, H.get j = some o → H'.get j = none → H0.get j = none := fun j o hj hn => by
    cases e : H0.get j with
    | none => rfl
    | some o0 =>
      obtain ⟨o', e1, _⟩ := k3.objs j o0 e
      rw [hn] at e1; cases e1
  have hno : ∀ j o b c, H.get j = some o → H'.get j = none → ι j = some (b, c) → ¬ Own ι H0 b := fun j o b c hj hn hb ⟨j', o', c', hj', hb'⟩ => by
    have := hr.inj j j' o o' b c c' hj (hs _ _ hj') hb hb'
    subst this
    rw [hfr j o hj hn] at hj'; cases hj'
  have hst : Step I ι H w I' ι2 (H' ++ H) w' := by
    refine ⟨k3.os, k3.tape, k3.output, k3.size, k3.froz, k3.imm, fun b hb => ?_, ?_, ?_, ?_⟩
    · rcases k3.immNew b hb with h1 | h1 | h1
      · exact .inl h1
      · exact .inr (.inl (h1.sub hs))
      · exact .inr (.inr h1)
    · rintro b ⟨j, o, c, hj, hc⟩
      cases e : H'.get j with
      | some o' =>
        rw [i1 j o' e] at hc
        rcases k3.own b ⟨j, o', c, e, hc⟩ with h1 | h1
        · exact .inl (h1.sub hs)
        · exact .inr h1
      | none =>
        rw [i2 j e] at hc
        rw [g2 j e] at hj
        exact .inl ⟨j, o, c, hj, hc⟩
    · intro b hb hn
      exact k3.keep b hb (fun h => hn (h.sub hs))
    · intro j o hj
      cases e : H'.get j with
      | some o' =>
        rcases hk j (by rw [e]; rfl) with h1 | h1
        · obtain ⟨o0, e0⟩ := Option.isSome_iff_exists.1 h1
          have := hs _ _ e0
          rw [hj] at this; cases this
          obtain ⟨o2, q1, q2, q3⟩ := k3.objs j o e0
          exact ⟨o2, g1 j o2 q1, q2, fun e => by rw [i1 j o2 q1]; exact q3 e⟩
        · rw [hj] at h1; cases h1
      | none => exact ⟨o, (g2 j e).trans hj, Nat.le_refl _, fun _ => ⟨i2 j e, rfl, fun _ => Nat.le_refl _⟩⟩
  have hv' : ∀ {v : Value} {a : AV}, VRel w' I' ι' H' v a → VRel w' I' ι2 (H' ++ H) v a := fun hva =>
    hva.mono' (fun _ _ => rfl) (fun _ h => h) (fun id o ho => ⟨o, g1 id o ho, Nat.le_refl _, fun _ => ⟨i1 id o ho, rfl, fun _ => Nat.le_refl _⟩⟩)
  refine ⟨r, H' ++ H, I', ι2, v, rfl, ⟨rfl, rfl⟩, hv' k1, ⟨k2.imm, fun j o hj => ?_, fun j j' o o' b c c' hj hj' hc hc' => ?_⟩, hst⟩
  · cases e : H'.get j with
    | some o' =>
      rw [g1 j o' e] at hj
      obtain rfl : o' = o := Option.some.inj hj
      exact (k2.obj j o' e).keep (i1 j o' e) (fun _ _ _ _ => ⟨rfl, fun h => h⟩) (fun r _ a _ v hv => hv' hv)
    | none =>
      rw [g2 j e] at hj
      refine (hr.obj j o hj).keep (i2 j e) (fun b' cap' e1 hlt => ⟨k3.keep b' hlt (hno j o b' cap' hj e e1), fun e3 hi => ?_⟩) (fun r _ a _ v hv => hv.mono hr hst)
      rcases k3.immNew b' hi with h1 | h1 | h1
      · exact e3 h1
      · exact hno j o b' cap' hj e e1 h1
      · omega
  · cases e : H'.get j with
    | some q =>
      rw [i1 j q e] at hc
      cases e' : H'.get j' with
      | some q' =>
        rw [i1 j' q' e'] at hc'
        exact k2.inj j j' q q' b c c' e e' hc hc'
      | none =>
        rw [i2 j' e'] at hc'
        rw [g2 j' e'] at hj'
        have hlt := hr.lt ⟨j', o', c', hj', hc'⟩
        rcases k3.own b ⟨j, q, c, e, hc⟩ with h1 | h1
        · exact absurd h1 (hno j' o' b c' hj' e' hc')
        · omega
    | none =>
      rw [i2 j e] at hc
      rw [g2 j e] at hj
      cases e' : H'.get j' with
      | some q' =>
        rw [i1 j' q' e'] at hc'
        have hlt := hr.lt ⟨j, o, c, hj, hc⟩
        rcases k3.own b ⟨j', q', c', e', hc'⟩ with h1 | h1
        · exact absurd h1 (hno j o b c hj e hc)
        · omega
      | none =>
        rw [i2 j' e'] at hc'
        rw [g2 j' e'] at hj'
        exact hr.inj j j' o o' b c c' hj hj' hc hc'

/-! ### names of objects changed -/
mutual
def renA (ρ : Nat → Nat) : AV → AV
  | .any => .any
  | .pv p => .pv p
  | .ref id g i k => .ref (ρ id) g i k
  | .pad rows i k => .pad rows i k
  | .osl id g off len => .osl (ρ id) g off len
  | .clo f caps => .clo f (renL ρ caps)
  | .agg cs => .agg (renL ρ cs)
  | .tup vs => .tup (renL ρ vs)
  | .mp id g => .mp (ρ id) g
  | .it id g => .it (ρ id) g
def renL (ρ : Nat → Nat) : List AV → List AV
  | [] => []
  | a :: l => renA ρ a :: renL ρ l
end
theorem renL_map (ρ : Nat → Nat) (l : List AV) : renL ρ l = l.map (renA ρ) := by
  induction l with
  | nil => rfl
  | cons a l ih => simp [renL, ih]
def renO (ρ : Nat → Nat) (o : Ob) : Ob := ⟨o.g, o.sz, o.ty, o.rows.map (renL ρ)⟩
def renH (ρ : Nat → Nat) (H : Heap) : Heap := H.map fun p => (ρ p.1, renO ρ p.2)
section
variable {ρ : Nat → Nat} (hρ : ∀ n, ρ (ρ n) = n)
include hρ
theorem renH_get (H : Heap) (id : Nat) : (renH ρ H).get (ρ id) = (H.get id).map (renO ρ) := by
  induction H with
  | nil => rfl
  | cons p H ih =>
    obtain ⟨i, o⟩ := p
    simp only [renH, List.map_cons, Heap.get] at ih ⊢
    by_cases e : i = id
    · subst e; simp [beq_self]
    · have : ρ i ≠ ρ id := fun h => e (by rw [← hρ i, h, hρ])
      simp [beq_ne e, beq_ne this, ih]
theorem renH_get' (H : Heap) (id : Nat) : (renH ρ H).get id = (H.get (ρ id)).map (renO ρ) := by
  have := renH_get hρ H (ρ id)
  rwa [hρ] at this
theorem VRel.ren {w : World} {I : Nat → Prop} {ι : Plc} {H : Heap} {v : Value} {a : AV} (h : VRel w I ι H v a) : VRel w I (fun j => ι (ρ j)) (renH ρ H) v (renA ρ a) := by
  induction h with
  | any v => exact .any v
  | pv h => exact .pv h
  | ref o hH hg h1 h =>
    refine .ref (renO ρ o) (by rw [renH_get hρ, hH]; rfl) hg h1 (fun e => ?_)
    obtain ⟨e0, b, cap, e1, e2⟩ := h e
    exact ⟨e0, b, cap, by rw [hρ]; exact e1, e2⟩
  | pad b off cap sz h hsz hlen cs hI hc hp => exact .pad b off cap sz h hsz hlen cs hI hc hp
  | osl o hH hg h1 h =>
    refine .osl (renO ρ o) (by rw [renH_get hρ, hH]; rfl) hg h1 (fun e => ?_)
    obtain ⟨e0, e1, e2⟩ := h e
    refine ⟨e0, by simpa [renO] using e1, ?_⟩
    rw [hρ]
    exact e2
  | clo hl h ih =>
    unfold renA
    rw [renL_map]
    refine .clo (by simpa using hl) (fun i v a hv ha => ?_)
    rw [List.getElem?_map] at ha
    obtain ⟨a0, h0, rfl⟩ := Option.map_eq_some_iff.1 ha
    exact ih i v a0 hv h0
  | agg hl h1 h ih =>
    unfold renA
    rw [renL_map]
    refine .agg (by simpa using hl) h1 (fun i v a hv ha => ?_)
    rw [List.getElem?_map] at ha
    obtain ⟨a0, h0, rfl⟩ := Option.map_eq_some_iff.1 ha
    exact ih i v a0 hv h0
  | tup hl h ih =>
    unfold renA
    rw [renL_map]
    refine .tup (by simpa using hl) (fun i v a hv ha => ?_)
    rw [List.getElem?_map] at ha
    obtain ⟨a0, h0, rfl⟩ := Option.map_eq_some_iff.1 ha
    exact ih i v a0 hv h0
  | mp o hH hg h1 h =>
    refine .mp (renO ρ o) (by rw [renH_get hρ, hH]; rfl) hg h1 (fun e => ?_)
    obtain ⟨e0, b, e1, e2⟩ := h e
    exact ⟨e0, b, by rw [hρ]; exact e1, e2⟩
  | it o hH hg h1 h =>
    refine .it (renO ρ o) (by rw [renH_get hρ, hH]; rfl) hg h1 (fun e => ?_)
    obtain ⟨e0, b, e1, e2⟩ := h e
    exact ⟨e0, b, by rw [hρ]; exact e1, e2⟩
theorem Rel.ren {w : World} {I : Nat → Prop} {ι : Plc} {H : Heap} (h : Rel I ι H w) : Rel I (fun j => ι (ρ j)) (renH ρ H) w := by
  refine ⟨h.imm, fun id o ho => ?_, fun id id' o o' b c c' ho ho' hi hi' => ?_⟩
  · rw [renH_get' hρ] at ho
    obtain ⟨o0, h0, rfl⟩ := Option.map_eq_some_iff.1 ho
    refine (h.obj _ o0 h0).keepG rfl rfl (by simp [renO]) rfl (fun _ _ _ _ => ⟨rfl, fun h => h⟩) (fun i r hi => ?_)
    simp only [renO, List.getElem?_map] at hi
    obtain ⟨r0, hr0, rfl⟩ := Option.map_eq_some_iff.1 hi
    refine ⟨r0, hr0, by rw [renL_map, List.length_map], fun k a a' h1 h2 v hv => ?_⟩
    rw [renL_map, List.getElem?_map, h1] at h2
    cases h2
    exact hv.ren hρ
  · rw [renH_get' hρ] at ho ho'
    obtain ⟨o0, h0, rfl⟩ := Option.map_eq_some_iff.1 ho
    obtain ⟨o1, h1, rfl⟩ := Option.map_eq_some_iff.1 ho'
    have := h.inj _ _ o0 o1 b c c' h0 h1 hi hi'
    rw [← hρ id, this, hρ]
theorem Step.ren {w w' : World} {I I' : Nat → Prop} {ι ι' : Plc} {H H' : Heap} (h : Step I ι H w I' ι' H' w') : Step I (fun j => ι (ρ j)) (renH ρ H) w I' (fun j => ι' (ρ j)) (renH ρ H') w' := by
  have own : ∀ {ι : Plc} {H : Heap} {b : Nat}, Own (fun j => ι (ρ j)) (renH ρ H) b ↔ Own ι H b := by
    intro ι H b
    constructor
    · rintro ⟨id, o, c, ho, hi⟩
      rw [renH_get' hρ] at ho
      obtain ⟨o0, h0, rfl⟩ := Option.map_eq_some_iff.1 ho
      exact ⟨_, o0, c, h0, hi⟩
    · rintro ⟨id, o, c, ho, hi⟩
      exact ⟨ρ id, renO ρ o, c, by rw [renH_get hρ, ho]; rfl, by show ι (ρ (ρ id)) = _; rw [hρ]; exact hi⟩
  refine ⟨h.os, h.tape, h.output, h.size, h.froz, h.imm, fun b hb => ?_, fun b hb => ?_, fun b hb hn => h.keep b hb (fun ho => hn (own.2 ho)), fun id o ho => ?_⟩
  · rcases h.immNew b hb with h1 | h1 | h1
    · exact .inl h1
    · exact .inr (.inl (own.2 h1))
    · exact .inr (.inr h1)
  · rcases h.own b (own.1 hb) with h1 | h1
    · exact .inl (own.2 h1)
    · exact .inr h1
  · rw [renH_get' hρ] at ho
    obtain ⟨o0, h0, rfl⟩ := Option.map_eq_some_iff.1 ho
    obtain ⟨o', e1, e2, e3⟩ := h.objs _ o0 h0
    exact ⟨renO ρ o', by rw [renH_get' hρ, e1]; rfl, e2, fun e => by
      obtain ⟨q1, q2, q3⟩ := e3 e
      exact ⟨q1, q2, by simpa [renO] using q3⟩⟩
theorem renL_renL (l : List AV) : renL ρ (renL ρ l) = l ∧ ∀ a ∈ l, renA ρ (renA ρ a) = a := by
  have key : ∀ n : Nat, ∀ a : AV, SizeOf.sizeOf a ≤ n → renA ρ (renA ρ a) = a := by
    intro n
    induction n with
    | zero => intro a ha; cases a <;> simp at ha <;> omega
    | succ n ih =>
      have hl : ∀ l : List AV, SizeOf.sizeOf l ≤ n + 1 → renL ρ (renL ρ l) = l := by
        intro l hl
        rw [renL_map, renL_map, List.map_map]
        have : ∀ a ∈ l, (renA ρ ∘ renA ρ) a = a := fun a ha => ih a (by have := List.sizeOf_lt_of_mem ha; omega)
        rw [List.map_congr_left this, List.map_id']
      intro a ha
      cases a with
      | any => rfl
      | pv p => rfl
      | ref id g i k => simp only [renA, hρ]
      | pad rows i k => rfl
      | osl id g off len => simp only [renA, hρ]
      | clo f caps => simp only [renA]; rw [hl caps (by simp at ha; omega)]
      | agg cs => simp only [renA]; rw [hl cs (by simp at ha; omega)]
      | tup cs => simp only [renA]; rw [hl cs (by simp at ha; omega)]
      | mp id g => simp only [renA, hρ]
      | it id g => simp only [renA, hρ]
  have h2 : ∀ a ∈ l, renA ρ (renA ρ a) = a := fun a _ => key _ a (Nat.le_refl _)
  refine ⟨?_, h2⟩
  rw [renL_map, renL_map, List.map_map]
  have : ∀ a ∈ l, (renA ρ ∘ renA ρ) a = a := h2
  rw [List.map_congr_left this, List.map_id']
theorem renH_renH (H : Heap) : renH ρ (renH ρ H) = H := by
  simp only [renH, List.map_map]
  have : ∀ p ∈ H, ((fun p : Nat × Ob => (ρ p.1, renO ρ p.2)) ∘ fun p => (ρ p.1, renO ρ p.2)) p = p := by
    rintro ⟨i, o⟩ _
    simp only [Function.comp, hρ, renO, List.map_map]
    have : ∀ r ∈ o.rows, (renL ρ ∘ renL ρ) r = r := fun r _ => (renL_renL hρ r).1
    rw [List.map_congr_left this, List.map_id']
  rw [List.map_congr_left this, List.map_id']
/-- A call under other names. -/
theorem ACalls.ren {P : Program} {f : FuncId} {args args' : List AV} {H H' H1 H1' : Heap} {r r' : AV} (h : ACalls P f args H (fun x K => x = r ∧ K = H1)) (ha : renL ρ args = args') (hH : renH ρ H = H') (hr : renA ρ r = r') (hH1 : renH ρ H1 = H1') :
    ACalls P f args' H' (fun x K => x = r' ∧ K = H1') := by
  subst ha hH hr hH1
  intro I ι w vs hrel hl hv
  have hrel' := hrel.ren hρ
  rw [renH_renH hρ] at hrel'
  have hl' : vs.size = args.length := by rw [hl, renL_map, List.length_map]
  refine (h I _ w vs hrel' hl' (fun i v a h1 h2 => ?_)).mono ?_
  · have := (hv i v (renA ρ a) h1 (by rw [renL_map, List.getElem?_map, h2]; rfl)).ren hρ
    rwa [renH_renH hρ, (renL_renL hρ [a]).2 a (by simp)] at this
  · rintro e w' ⟨x, K, I', ι', v, rfl, ⟨rfl, rfl⟩, k1, k2, k3⟩
    have k3' := k3.ren hρ
    have e1 : (fun j => (fun j => ι (ρ j)) (ρ j)) = ι := by funext j; simp only [hρ]
    rw [e1] at k3'
    exact ⟨_, _, I', _, v, rfl, ⟨rfl, rfl⟩, k1.ren hρ, k2.ren hρ, k3'⟩
end
end Go.Abs
