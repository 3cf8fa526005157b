/-
  THE ABSTRACT LOGIC: memory that is written: new variables, stores, slices that grow.
  Conditions: each rule's own premises.
-/
import Derived.Test.YtdgoodjhndeojaaAbs4
set_option linter.unusedVariables false
set_option linter.unusedSimpArgs false
namespace Go.Abs

theorem frozen_setRow (w : World) (b : Nat) (cs0 cs : Array Value) (t : TypeId) (hb : w.heap[b]? = some (.cells cs0 t (0, 0))) (a : Addr) : (w.setRow b cs).frozen? a = w.frozen? a := by
  by_cases h : a.block = b
  · subst h
    simp [World.frozen?, setRow_heap w a.block cs0 cs t (0, 0) hb, hb]
  · simp [World.frozen?, setRow_other w b a.block cs h]

section
variable {I : Nat → Prop} {ι : Plc} {H H' : Heap} {w : World} {id b cap : Nat} {ob ob' : Ob} {cs0 cs' : Array Value}

/-- An object's own block is written anew. -/
theorem Rel.update (hr : Rel I ι H w) (hH : H.get id = some ob) (hι : ι id = some (b, cap)) (hb : w.heap[b]? = some (.cells cs0 ob.ty (0, 0))) (hg : ob.g ≤ ob'.g) (hsz : ob'.sz = ob.sz) (hty : ob'.ty = ob.ty)
    (hlen : ob'.g = ob.g → ob.rows.length ≤ ob'.rows.length) (hcs : cs'.size = cap * ob.sz) (hcap : ob'.rows.length ≤ cap) (hrl : ∀ r ∈ ob'.rows, r.length = ob.sz)
    (hcells : ∀ (i : Nat) (r : List AV), ob'.rows[i]? = some r → ∀ (k : Nat) (a : AV), r[k]? = some a → ∃ v, cs'[i * ob.sz + k]? = some v ∧ v.oneCell' = true ∧ VRel w I ι H v a)
    (h1 : H'.get id = some ob') (h2 : ∀ j, j ≠ id → H'.get j = H.get j) : Rel I ι H' (w.setRow b cs') ∧ Step I ι H w I ι H' (w.setRow b cs') := by
  have hown : Own ι H b := ⟨id, ob, cap, hH, hι⟩
  have hst : Step I ι H w I ι H' (w.setRow b cs') := by
    refine ⟨rfl, rfl, rfl, by simp, fun a _ => frozen_setRow w b cs0 cs' _ hb a, fun _ h => h, fun _ h => .inl h, ?_, ?_, ?_⟩
    · rintro x ⟨j, o, c, hj, hc⟩
      by_cases e : j = id
      · subst e; exact .inl ⟨j, ob, c, hH, hc⟩
      · exact .inl ⟨j, o, c, (h2 j e).symm.trans hj, hc⟩
    · intro x _ hx
      exact setRow_other w b x cs' (fun e => hx (e ▸ hown))
    · intro j o hj
      by_cases e : j = id
      · subst e
        rw [hH] at hj; cases hj
        exact ⟨ob', h1, hg, fun e => ⟨rfl, hsz, fun _ => hlen e⟩⟩
      · exact ⟨o, (h2 j e).trans hj, Nat.le_refl _, fun _ => ⟨rfl, rfl, fun _ => Nat.le_refl _⟩⟩
  refine ⟨⟨fun x hx => by simpa using hr.imm x hx, ?_, ?_⟩, hst⟩
  · intro j o hj
    by_cases e : j = id
    · subst e
      rw [h1] at hj; cases hj
      obtain ⟨p1, p2, ⟨b', cap', cs, e1, e2, e3, e4, e5, e5', e6⟩ | ⟨e1, _⟩⟩ := (hr.obj j ob hH).cells ((hr.obj j ob hH).pos hι hb)
      · rw [hι] at e1; cases e1
        refine .inl ⟨by rw [hsz]; exact p1, by rw [hsz]; exact hrl, .inl ⟨b, cap, cs', hι, ?_, e3, by rw [hsz]; exact hcs, hcap, e5', ?_⟩⟩
        · rw [hty]; exact setRow_heap w b cs0 cs' ob.ty (0, 0) hb
        · intro i r hi k a hk
          obtain ⟨v, q1, q2, q3⟩ := hcells i r hi k a hk
          exact ⟨v, by rw [hsz]; exact q1, q2, q3.mono hr hst⟩
      · rw [hι] at e1; cases e1
    · rw [h2 j e] at hj
      exact (hr.obj j o hj).keep rfl (fun x c hx _ => ⟨setRow_other w b x cs' (fun hbb => e (hr.inj j id o ob b c cap hj hH (hbb ▸ hx) hι)), fun h => h⟩) (fun r _ a _ v hv => hv.mono hr hst)
  · intro j j' o o' x c c' hj hj' hc hc'
    have key : ∀ j o, H'.get j = some o → ∃ o, H.get j = some o := by
      intro j o hj
      by_cases e : j = id
      · exact ⟨ob, e ▸ hH⟩
      · exact ⟨o, (h2 j e).symm.trans hj⟩
    obtain ⟨q, hq⟩ := key j o hj
    obtain ⟨q', hq'⟩ := key j' o' hj'
    exact hr.inj j j' q q' x c c' hq hq' hc hc'

/-- An object gets a new block. -/
theorem Rel.place {w' : World} (hr : Rel I ι H w) (hos : w'.os = w.os) (htape : w'.tape = w.tape) (hout : w'.output = w.output) (hw : w'.heap = w.heap.push (.cells cs' ob'.ty (0, 0)))
    (hold : ∀ o, H.get id = some o → o.g < ob'.g) (hsz : 0 < ob'.sz) (hcs : cs'.size = cap * ob'.sz) (hcap : ob'.rows.length ≤ cap) (hmax : cap ≤ maxLen) (hrl : ∀ r ∈ ob'.rows, r.length = ob'.sz)
    (hcells : ∀ (i : Nat) (r : List AV), ob'.rows[i]? = some r → ∀ (k : Nat) (a : AV), r[k]? = some a → ∃ v, cs'[i * ob'.sz + k]? = some v ∧ v.oneCell' = true ∧ VRel w I ι H v a)
    (h1 : H'.get id = some ob') (h2 : ∀ j, j ≠ id → H'.get j = H.get j) :
    Rel I (fun j => if j = id then some (w.heap.size, cap) else ι j) H' w' ∧ Step I ι H w I (fun j => if j = id then some (w.heap.size, cap) else ι j) H' w' := by
  have hnew : w'.heap[w.heap.size]? = some (.cells cs' ob'.ty (0, 0)) := by rw [hw]; simp
  have holdb : ∀ x, x < w.heap.size → w'.heap[x]? = w.heap[x]? := fun x hx => by rw [hw, Array.getElem?_push, if_neg (Nat.ne_of_lt hx)]
  have hsize : w'.heap.size = w.heap.size + 1 := by rw [hw]; simp
  have hst : Step I ι H w I (fun j => if j = id then some (w.heap.size, cap) else ι j) H' w' := by
    refine ⟨hos, htape, hout, by omega, fun a ha => ?_, fun _ h => h, fun _ h => .inl h, ?_, fun x hx _ => holdb x hx, ?_⟩
    · simp [World.frozen?, holdb a.block ha]
    · rintro x ⟨j, o, c, hj, hc⟩
      by_cases e : j = id
      · simp only [e, if_true] at hc; cases hc; exact .inr (Nat.le_refl _)
      · simp only [e, if_false] at hc; exact .inl ⟨j, o, c, (h2 j e).symm.trans hj, hc⟩
    · intro j o hj
      by_cases e : j = id
      · subst e
        have := hold o hj
        exact ⟨ob', h1, by omega, fun e => by omega⟩
      · exact ⟨o, (h2 j e).trans hj, Nat.le_refl _, fun _ => ⟨by simp [e], rfl, fun _ => Nat.le_refl _⟩⟩
  refine ⟨⟨fun x hx => by have := hr.imm x hx; omega, ?_, ?_⟩, hst⟩
  · intro j o hj
    by_cases e : j = id
    · subst e
      rw [h1] at hj; cases hj
      refine .inl ⟨hsz, hrl, .inl ⟨w.heap.size, cap, cs', by simp, hnew, fun hi => Nat.lt_irrefl _ (hr.imm _ hi), hcs, hcap, hmax, fun i r hi k a hk => ?_⟩⟩
      obtain ⟨v, q1, q2, q3⟩ := hcells i r hi k a hk
      exact ⟨v, q1, q2, q3.mono hr hst⟩
    · rw [h2 j e] at hj
      exact (hr.obj j o hj).keep (by simp [e]) (fun x c _ hx => ⟨holdb x hx, fun h => h⟩) (fun r _ a _ v hv => hv.mono hr hst)
  · intro j j' o o' x c c' hj hj' hc hc'
    by_cases e : j = id <;> by_cases e' : j' = id
    · rw [e, e']
    · simp only [e, if_true] at hc
      simp only [e', if_false] at hc'
      cases hc
      have := hr.lt ⟨j', o', c', (h2 j' e').symm.trans hj', hc'⟩
      exact absurd this (Nat.lt_irrefl _)
    · simp only [e, if_false] at hc
      simp only [e', if_true] at hc'
      cases hc'
      have := hr.lt ⟨j, o, c, (h2 j e).symm.trans hj, hc⟩
      exact absurd this (Nat.lt_irrefl _)
    · simp only [e, if_false] at hc
      simp only [e', if_false] at hc'
      exact hr.inj j j' o o' x c c' ((h2 j e).symm.trans hj) ((h2 j' e').symm.trans hj') hc hc'

/-- The heap of the world is as it was (draws). -/
theorem Rel.drawn {w' : World} (hr : Rel I ι H w) (hos : w'.os = w.os) (htape : w'.tape = w.tape) (hout : w'.output = w.output) (hw : w'.heap = w.heap) : Rel I ι H w' ∧ Step I ι H w I ι H w' := by
  have hst : Step I ι H w I ι H w' := ⟨hos, htape, hout, by rw [hw]; exact Nat.le_refl _, fun a _ => by simp [World.frozen?, hw], fun _ h => h, fun _ h => .inl h, fun _ h => .inl h, fun x _ _ => by rw [hw], fun _ o h => ⟨o, h, Nat.le_refl _, fun _ => ⟨rfl, rfl, fun _ => Nat.le_refl _⟩⟩⟩
  refine ⟨⟨fun x hx => by rw [hw]; exact hr.imm x hx, fun j o hj => ?_, hr.inj⟩, hst⟩
  exact (hr.obj j o hj).keep rfl (fun x c _ _ => ⟨by rw [hw], fun h => h⟩) (fun r _ a _ v hv => hv.mono hr hst)

/-- Only the generation of an object goes up, or an object that is nowhere is added. -/
theorem Rel.tick (hr : Rel I ι H w) (hH : H.get id = some ob) (hg : ob.g < ob'.g) (hsz : ob'.sz = ob.sz) (hty : ob'.ty = ob.ty) (hrows : ob'.rows = ob.rows)
    (h1 : H'.get id = some ob') (h2 : ∀ j, j ≠ id → H'.get j = H.get j) : Rel I ι H' w ∧ Step I ι H w I ι H' w := by
  have hst : Step I ι H w I ι H' w := by
    refine ⟨rfl, rfl, rfl, Nat.le_refl _, fun a _ => rfl, fun _ h => h, fun _ h => .inl h, ?_, fun _ _ _ => rfl, ?_⟩
    · rintro x ⟨j, o, c, hj, hc⟩
      by_cases e : j = id
      · subst e; exact .inl ⟨j, ob, c, hH, hc⟩
      · exact .inl ⟨j, o, c, (h2 j e).symm.trans hj, hc⟩
    · intro j o hj
      by_cases e : j = id
      · subst e
        rw [hH] at hj; cases hj
        exact ⟨ob', h1, by omega, fun e => by omega⟩
      · exact ⟨o, (h2 j e).trans hj, Nat.le_refl _, fun _ => ⟨rfl, rfl, fun _ => Nat.le_refl _⟩⟩
  refine ⟨⟨hr.imm, ?_, ?_⟩, hst⟩
  · intro j o hj
    by_cases e : j = id
    · subst e
      rw [h1] at hj; cases hj
      refine (hr.obj j ob hH).keepG hsz hty (by rw [hrows]) rfl (fun x c _ _ => ⟨rfl, fun h => h⟩) (fun i r hi => ⟨r, by rw [← hrows]; exact hi, rfl, fun k a a' h1 h2 v hv => ?_⟩)
      rw [h1] at h2; cases h2
      exact hv.mono hr hst
    · rw [h2 j e] at hj
      exact (hr.obj j o hj).keep rfl (fun x c _ _ => ⟨rfl, fun h => h⟩) (fun r _ a _ v hv => hv.mono hr hst)
  · intro j j' o o' x c c' hj hj' hc hc'
    have key : ∀ j o, H'.get j = some o → ∃ o, H.get j = some o := by
      intro j o hj
      by_cases e : j = id
      · exact ⟨ob, e ▸ hH⟩
      · exact ⟨o, (h2 j e).symm.trans hj⟩
    obtain ⟨q, hq⟩ := key j o hj
    obtain ⟨q', hq'⟩ := key j' o' hj'
    exact hr.inj j j' q q' x c c' hq hq' hc hc'
/-- A nil slice that will grow: an object that has no block yet. -/
theorem Rel.adopt {sz : Nat} {ty : TypeId} (hr : Rel I ι H w) (hH : H.get id = none) (hsz : 0 < sz) :
    Rel I (fun j => if j = id then none else ι j) ((id, ⟨0, sz, ty, []⟩) :: H) w ∧ Step I ι H w I (fun j => if j = id then none else ι j) ((id, ⟨0, sz, ty, []⟩) :: H) w := by
  have h1 : Heap.get ((id, ⟨0, sz, ty, []⟩) :: H) id = some ⟨0, sz, ty, []⟩ := by simp [Heap.get, beq_self]
  have h2 : ∀ j, j ≠ id → Heap.get ((id, ⟨0, sz, ty, []⟩) :: H) j = H.get j := fun j e => by simp [Heap.get, beq_ne (Ne.symm e)]
  have hst : Step I ι H w I (fun j => if j = id then none else ι j) ((id, ⟨0, sz, ty, []⟩) :: H) w := by
    refine ⟨rfl, rfl, rfl, Nat.le_refl _, fun a _ => rfl, fun _ h => h, fun _ h => .inl h, ?_, fun _ _ _ => rfl, ?_⟩
    · rintro x ⟨j, o, c, hj, hc⟩
      by_cases e : j = id
      · simp [e] at hc
      · simp only [e, if_false] at hc; exact .inl ⟨j, o, c, (h2 j e).symm.trans hj, hc⟩
    · intro j o hj
      by_cases e : j = id
      · subst e; rw [hH] at hj; cases hj
      · exact ⟨o, (h2 j e).trans hj, Nat.le_refl _, fun _ => ⟨by simp [e], rfl, fun _ => Nat.le_refl _⟩⟩
  refine ⟨⟨hr.imm, ?_, ?_⟩, hst⟩
  · intro j o hj
    by_cases e : j = id
    · subst e
      rw [h1] at hj; cases hj
      exact .inl ⟨hsz, by simp, .inr ⟨by simp, rfl⟩⟩
    · rw [h2 j e] at hj
      exact (hr.obj j o hj).keep (by simp [e]) (fun x c _ _ => ⟨rfl, fun h => h⟩) (fun r _ a _ v hv => hv.mono hr hst)
  · intro j j' o o' x c c' hj hj' hc hc'
    by_cases e : j = id
    · simp [e] at hc
    · by_cases e' : j' = id
      · simp [e'] at hc'
      · simp only [e, if_false] at hc
        simp only [e', if_false] at hc'
        exact hr.inj j j' o o' x c c' ((h2 j e).symm.trans hj) ((h2 j' e').symm.trans hj') hc hc'
end

/-- The cells of a value. -/
def acl : AV → Option (List AV)
  | .agg cs => some cs
  | .any => none
  | .tup _ => none
  | v => some [v]

theorem one_cells {v : Value} (h : v.oneCell' = true) : v.cells = #[v] := by cases v <;> simp_all [Value.cells, Value.oneCell']

theorem cells_rel {w : World} {I : Nat → Prop} {ι : Plc} {H : Heap} {c : Value} {v : AV} {cells : List AV} (h : VRel w I ι H c v) (hc : acl v = some cells) :
    c.cells.size = cells.length ∧ (∀ u ∈ c.cells.toList, u.oneCell' = true) ∧ ∀ (j : Nat) (a : AV), cells[j]? = some a → ∃ u, c.cells[j]? = some u ∧ u.oneCell' = true ∧ VRel w I ι H u a := by
  have one : ∀ (c : Value) (v : AV), c.oneCell' = true → VRel w I ι H c v → c.cells.size = [v].length ∧ (∀ u ∈ c.cells.toList, u.oneCell' = true) ∧ ∀ (j : Nat) (a : AV), [v][j]? = some a → ∃ u, c.cells[j]? = some u ∧ u.oneCell' = true ∧ VRel w I ι H u a := by
    intro c v h1 h2
    rw [one_cells h1]
    refine ⟨rfl, by simpa using h1, fun j a hj => ?_⟩
    cases j with
    | zero => simp at hj; subst hj; exact ⟨c, rfl, h1, h2⟩
    | succ j => simp at hj
  cases h with
  | any v => cases hc
  | pv h => cases hc; exact one c _ h.oneCell (.pv h)
  | ref o h1 h2 h3 h4 => cases hc; exact one c _ h3 (.ref o h1 h2 h3 h4)
  | pad b off cap sz h1 h2 h3 cs h4 h5 h6 => cases hc; exact one _ _ rfl (.pad b off cap sz h1 h2 h3 cs h4 h5 h6)
  | osl o h1 h2 h3 h4 => cases hc; exact one c _ h3 (.osl o h1 h2 h3 h4)
  | clo h1 h2 => cases hc; exact one _ _ rfl (.clo h1 h2)
  | @agg vs cs h1 h2 h3 =>
    cases hc
    refine ⟨h1, fun u hu => ?_, fun j a ha => ?_⟩
    · obtain ⟨j, hj⟩ := List.mem_iff_getElem?.1 hu
      exact h2 j u (by simpa [Value.cells] using hj)
    · have hlt := (List.getElem?_eq_some_iff.1 ha).1
      have hu : vs[j]? = some (vs[j]'(by omega)) := Array.getElem?_eq_getElem (by omega)
      exact ⟨_, hu, h2 j _ hu, h3 j _ a hu ha⟩
  | tup h1 h2 => cases hc
  | mp o h1 h2 h3 h4 => cases hc; exact one c _ h3 (.mp o h1 h2 h3 h4)
  | it o h1 h2 h3 h4 => cases hc; exact one c _ h3 (.it o h1 h2 h3 h4)

section
variable {P : Program} {N : Nat} {o : Oper} {E : Env} {H : Heap} {T : TypeId} {x y : Operand}

theorem get_cons_same (id : Nat) (ob : Ob) (H : Heap) : Heap.get ((id, ob) :: H) id = some ob := by simp [Heap.get, beq_self]
theorem get_cons_other {id j : Nat} (ob : Ob) (H : Heap) (h : j ≠ id) : Heap.get ((id, ob) :: H) j = H.get j := by simp [Heap.get, beq_ne (Ne.symm h)]

/-- A variable of its own: laid with a value. -/
theorem lay_rel {w : World} {I : Nat → Prop} {ι : Plc} {c : Value} {v : AV} {cells : List AV} {id : Nat} (hr : Rel I ι H w) (hv : VRel w I ι H c v) (hc : acl v = some cells) (hne : 0 < cells.length) (hid : H.get id = none) :
    ∃ ι', VRel (w.alloc (.cells c.cells T)) I ι' ((id, ⟨0, cells.length, T, [cells]⟩) :: H) (.pointer (some ⟨w.heap.size, 0, none⟩)) (.ref id 0 0 0) ∧
      Rel I ι' ((id, ⟨0, cells.length, T, [cells]⟩) :: H) (w.alloc (.cells c.cells T)) ∧ Step I ι H w I ι' ((id, ⟨0, cells.length, T, [cells]⟩) :: H) (w.alloc (.cells c.cells T)) := by
  obtain ⟨h1, h2, h3⟩ := cells_rel hv hc
  have hp := Rel.place (H' := (id, ⟨0, cells.length, T, [cells]⟩) :: H) (id := id) (cap := 1) (ob' := ⟨0, cells.length, T, [cells]⟩) (cs' := c.cells) (w' := w.alloc (.cells c.cells T)) hr rfl rfl rfl rfl
    (fun o ho => by rw [hid] at ho; cases ho) hne (by simp [h1]) (by simp) (by simp [maxLen]) (by simp) (fun i r hi k a hk => by
      cases i with
      | zero => simp at hi; subst hi; simpa using h3 k a hk
      | succ i => simp at hi) (get_cons_same _ _ _) (fun j hj => get_cons_other _ _ hj)
  refine ⟨_, .ref ⟨0, cells.length, T, [cells]⟩ (get_cons_same _ _ _) (Nat.le_refl _) rfl fun _ => ⟨hne, w.heap.size, 1, by simp, by simp⟩, hp.1, hp.2⟩

theorem opd_box {v : AV} {cells : List AV} {id n : Nat} (ho : o.op = .box T x) (hx : aeval E x = some v) (hc : acl v = some cells) (hn : cells.length = n + 1) (hid : H.get id = none) :
    OpD P N o E H (.ref id 0 0 0) ((id, ⟨0, n + 1, T, [cells]⟩) :: H) := by
  intro a w I ι _ _ hr he K Q hk
  obtain ⟨ι', h1, h2, h3⟩ := lay_rel (T := T) hr (aeval_rel he hx) hc (by omega) hid
  rw [hn] at h1 h2 h3
  unfold Oper.wp execOp
  simp only [ho, Instr.box, newVar, newRow, Sem.run_bind, run_newObj, Sem.run_pure, Result.andThen_ok]
  exact hk _ _ I ι' _ _ ⟨rfl, rfl⟩ h1 h2 h3

def zv : Value → Option AV
  | .agg cs => (cs.toList.mapM cv).map .agg
  | v => cv v
theorem mapM_cv {l : List Value} {vs : List AV} (h : l.mapM cv = some vs) : l.length = vs.length ∧ ∀ (i : Nat) (v : Value) (a : AV), l[i]? = some v → vs[i]? = some a → cv v = some a := by
  induction l generalizing vs with
  | nil => simp at h; subst h; simp
  | cons x l ih =>
    simp only [List.mapM_cons, Option.pure_def, Option.bind_eq_bind, Option.bind_eq_some_iff, Option.some.injEq] at h
    obtain ⟨v0, h0, vs0, h1, rfl⟩ := h
    obtain ⟨l1, l2⟩ := ih h1
    refine ⟨by simp [l1], fun i v a hv ha => ?_⟩
    cases i with
    | zero => simp at hv ha; subst hv ha; exact h0
    | succ i => simp at hv ha; exact l2 i v a hv ha
theorem zv_rel {w : World} {I : Nat → Prop} {ι : Plc} {z : Value} {v : AV} (h : zv z = some v) : VRel w I ι H z v := by
  unfold zv at h
  split at h
  · rename_i cs
    cases e : cs.toList.mapM cv with
    | none => rw [e] at h; cases h
    | some vs =>
      rw [e] at h; cases h
      obtain ⟨h1, h2⟩ := mapM_cv e
      refine .agg (by simpa using h1) (fun i u hu => ?_) (fun i u a hu ha => (cv_rel (h2 i u a (by simpa using hu) ha)).1)
      have hlt : i < vs.length := by
        have : i < cs.size := (Array.getElem?_eq_some_iff.1 hu).1
        have : cs.toList.length = vs.length := h1
        simp at this; omega
      exact (cv_rel (H := H) (w := w) (I := I) (ι := ι) (h2 i u vs[i] (by simpa using hu) (List.getElem?_eq_getElem hlt))).2
  · exact (cv_rel h).1
/-- The zero value, slices told to be nil. -/
def cvN : Value → Option AV
  | .slice none 0 0 => some (.pv .nils)
  | v => cv v
theorem cvN_rel {w : World} {I : Nat → Prop} {ι : Plc} {z : Value} {v : AV} (h : cvN z = some v) : VRel w I ι H z v ∧ z.oneCell' = true := by
  unfold cvN at h
  split at h
  · cases h; exact ⟨.pv .nils, rfl⟩
  · exact cv_rel h
def zvN : Value → Option AV
  | .agg cs => (cs.toList.mapM cvN).map .agg
  | v => cvN v
theorem mapM_cvN {l : List Value} {vs : List AV} (h : l.mapM cvN = some vs) : l.length = vs.length ∧ ∀ (i : Nat) (v : Value) (a : AV), l[i]? = some v → vs[i]? = some a → cvN v = some a := by
  induction l generalizing vs with
  | nil => simp at h; subst h; simp
  | cons x l ih =>
    simp only [List.mapM_cons, Option.pure_def, Option.bind_eq_bind, Option.bind_eq_some_iff, Option.some.injEq] at h
    obtain ⟨v0, h0, vs0, h1, rfl⟩ := h
    obtain ⟨l1, l2⟩ := ih h1
    refine ⟨by simp [l1], fun i v a hv ha => ?_⟩
    cases i with
    | zero => simp at hv ha; subst hv ha; exact h0
    | succ i => simp at hv ha; exact l2 i v a hv ha
theorem zvN_rel {w : World} {I : Nat → Prop} {ι : Plc} {z : Value} {v : AV} (h : zvN z = some v) : VRel w I ι H z v := by
  unfold zvN at h
  split at h
  · rename_i cs
    cases e : cs.toList.mapM cvN with
    | none => rw [e] at h; cases h
    | some vs =>
      rw [e] at h; cases h
      obtain ⟨h1, h2⟩ := mapM_cvN e
      refine .agg (by simpa using h1) (fun i u hu => ?_) (fun i u a hu ha => (cvN_rel (h2 i u a (by simpa using hu) ha)).1)
      have hlt : i < vs.length := by
        have : i < cs.size := (Array.getElem?_eq_some_iff.1 hu).1
        have : cs.toList.length = vs.length := h1
        simp at this; omega
      exact (cvN_rel (H := H) (w := w) (I := I) (ι := ι) (h2 i u vs[i] (by simpa using hu) (List.getElem?_eq_getElem hlt))).2
  · exact (cvN_rel h).1
/-- A zero value as it is told. -/
def ZV (z : Value) (v : AV) : Prop := zv z = some v ∨ zvN z = some v
theorem ZV.rel {w : World} {I : Nat → Prop} {ι : Plc} {z : Value} {v : AV} (h : ZV z v) : VRel w I ι H z v := h.elim zv_rel zvN_rel
theorem opd_alloc {z : Value} {v : AV} {cells : List AV} {id n : Nat} (ho : o.op = .alloc T) (hz : ∀ w, (zeroValue T).run P w = .ok z w) (hv : ZV z v) (hc : acl v = some cells) (hn : cells.length = n + 1) (hid : H.get id = none) :
    OpD P N o E H (.ref id 0 0 0) ((id, ⟨0, n + 1, T, [cells]⟩) :: H) := by
  intro a w I ι _ _ hr he K Q hk
  obtain ⟨ι', h1, h2, h3⟩ := lay_rel (T := T) hr (ZV.rel (w := w) (I := I) (ι := ι) (H := H) hv) hc (by omega) hid
  rw [hn] at h1 h2 h3
  unfold Oper.wp execOp
  simp only [ho, Instr.alloc, hz, newVar, newRow, Sem.run_bind, run_newObj, Sem.run_pure, Result.andThen_ok]
  exact hk _ _ I ι' _ _ ⟨rfl, rfl⟩ h1 h2 h3

/-- A nil slice that will be appended to. -/
theorem opd_assign_own {id sz : Nat} {ty : TypeId} (ho : o.op = .assign (.const (.slice none 0 0))) (hid : H.get id = none) (hsz : Nat.blt 0 sz = true) :
    OpD P N o E H (.osl id 0 0 0) ((id, ⟨0, sz, ty, []⟩) :: H) := by
  intro a w I ι _ _ hr he K Q hk
  obtain ⟨h1, h2⟩ := Rel.adopt (sz := sz) (ty := ty) hr hid (by simpa [Nat.blt_eq] using hsz)
  unfold Oper.wp execOp
  simp only [ho, Sem.run_pure, Act.eval]
  exact hk _ _ I _ _ _ ⟨rfl, rfl⟩ (.osl ⟨0, sz, ty, []⟩ (get_cons_same _ _ _) (Nat.le_refl _) rfl fun _ => ⟨by simpa [Nat.blt_eq] using hsz, by simp, .inr ⟨by simp, rfl, rfl, rfl⟩⟩) h1 h2

/-- A store, at one state. -/
theorem store_wp {v : AV} {cells r r' : List AV} {id g i k n : Nat} {ob : Ob} {H2 : Heap} {a : Act} {w : World} {I : Nat → Prop} {ι : Plc} (ho : o.op = .store T x y) (hr : Rel I ι H w) (hxv : VRel w I ι H (a.eval x) (.ref id g i k)) (hyv : VRel w I ι H (a.eval y) v) (hc : acl v = some cells)
    (hs : ∀ w, (sizeOf T).run P w = .ok n w) (hn : cells.length = n) (hH : H.get id = some ob) (hg : ob.g = g) (hi : ob.rows[i]? = some r) (hk : k + n ≤ r.length)
    (hr' : r.take k ++ (cells ++ r.drop (k + n)) = r') (hH2 : H.set id { ob with rows := ob.rows.set i r' } = H2) (K : Act → World → Prop) (Q : Exit → Act → World → Prop)
    (hkk : ∀ c w', Rel I ι H2 w' → Step I ι H w I ι H2 w' → K (a.put o.dst c) w') : o.wp P a w K Q := by
  obtain ⟨b, cap, h1, h3⟩ := ref_ptr hxv hH hg
  obtain ⟨c1, c2, c3⟩ := cells_rel hyv hc
  obtain ⟨p1, p2, ⟨b', cap', cs, e1, e2, e3, e4, e5, e5', e6⟩ | ⟨e1, _⟩⟩ := (hr.obj id ob hH).cells (ref_sz hxv hH hg)
  · rw [h1] at e1; cases e1
    have hil : i < ob.rows.length := (List.getElem?_eq_some_iff.1 hi).1
    have hrl : r.length = ob.sz := p2 r (List.mem_of_getElem? hi)
    have hfit : i * ob.sz + k + n ≤ cs.size := by
      have : (i + 1) * ob.sz ≤ cap * ob.sz := Nat.mul_le_mul_right _ (by omega)
      rw [Nat.add_mul] at this
      omega
    have hcl : (a.eval y).cells.toList.length = n := by simp [c1, hn]
    have hst := run_storeCells_at P b (i * ob.sz + k) ob.ty (a.eval y).cells.toList 0 cs w e2 (by omega) c2
    simp only [Nat.add_zero, hcl] at hst
    have hlen' : r'.length = r.length := by rw [← hr']; simp; omega
    obtain ⟨hrel, hstep⟩ := Rel.update (H' := H2) (ob' := { ob with rows := ob.rows.set i r' }) (cs' := (cs.toList.take (i * ob.sz + k) ++ (a.eval y).cells.toList ++ cs.toList.drop (i * ob.sz + k + n)).toArray)
      hr hH h1 e2 (Nat.le_refl _) rfl rfl (fun _ => by simp) (by simp [c1, hn]; omega) (by simpa using e5)
      (fun q hq => by
        rcases List.mem_or_eq_of_mem_set hq with h | h
        · exact p2 q h
        · rw [h, hlen', hrl])
      (fun i' q hq k' a' hk' => by
        have hql : q.length = ob.sz := by
          have hm := List.mem_of_getElem? hq
          rcases List.mem_or_eq_of_mem_set hm with h | h
          · exact p2 q h
          · rw [h, hlen', hrl]
        have hk'l : k' < ob.sz := by rw [← hql]; exact (List.getElem?_eq_some_iff.1 hk').1
        simp only [List.getElem?_toArray]
        by_cases e : i' = i
        · subst e
          have hq' : q = r' := by
            rw [List.getElem?_set_self hil] at hq
            exact (Option.some.inj hq).symm
          subst hq'
          rw [← hr'] at hk'
          by_cases ha : k' < k
          · rw [List.getElem?_append_left (by simp; omega), List.getElem?_take, if_pos ha] at hk'
            obtain ⟨u, q1, q2, q3⟩ := e6 i' r hi k' a' hk'
            refine ⟨u, ?_, q2, q3⟩
            rw [List.append_assoc, List.getElem?_append_left (by simp; omega), List.getElem?_take, if_pos (by omega)]
            simpa using q1
          · by_cases hb : k' < k + n
            · rw [List.getElem?_append_right (by simp; omega), List.getElem?_append_left (by simp; omega)] at hk'
              have hmin : min k r.length = k := by omega
              simp only [List.length_take, hmin] at hk'
              obtain ⟨u, q1, q2, q3⟩ := c3 (k' - k) a' hk'
              refine ⟨u, ?_, q2, q3⟩
              rw [List.append_assoc, List.getElem?_append_right (by simp; omega), List.getElem?_append_left (by simp [c1, hn]; omega)]
              have hmin2 : min (i' * ob.sz + k) cs.size = i' * ob.sz + k := by omega
              simp only [List.length_take, Array.length_toList, hmin2]
              rw [show i' * ob.sz + k' - (i' * ob.sz + k) = k' - k by omega]
              simpa using q1
            · rw [List.getElem?_append_right (by simp; omega), List.getElem?_append_right (by simp; omega), List.getElem?_drop] at hk'
              have hmin : min k r.length = k := by omega
              simp only [List.length_take, hmin, hn] at hk'
              rw [show k + n + (k' - k - n) = k' by omega] at hk'
              obtain ⟨u, q1, q2, q3⟩ := e6 i' r hi k' a' hk'
              refine ⟨u, ?_, q2, q3⟩
              rw [List.append_assoc, List.getElem?_append_right (by simp; omega), List.getElem?_append_right (by simp [c1, hn]; omega), List.getElem?_drop]
              have hmin2 : min (i' * ob.sz + k) cs.size = i' * ob.sz + k := by omega
              simp only [List.length_take, Array.length_toList, hmin2, hcl]
              rw [show i' * ob.sz + k + n + (i' * ob.sz + k' - (i' * ob.sz + k) - n) = i' * ob.sz + k' by omega]
              simpa using q1
        · rw [List.getElem?_set_ne (Ne.symm e)] at hq
          obtain ⟨u, q1, q2, q3⟩ := e6 i' q hq k' a' hk'
          refine ⟨u, ?_, q2, q3⟩
          rcases Nat.lt_or_gt_of_ne e with hlt | hgt
          · have : (i' + 1) * ob.sz ≤ i * ob.sz := Nat.mul_le_mul_right _ hlt
            rw [Nat.add_mul] at this
            rw [List.append_assoc, List.getElem?_append_left (by simp; omega), List.getElem?_take, if_pos (by omega)]
            simpa using q1
          · have : (i + 1) * ob.sz ≤ i' * ob.sz := Nat.mul_le_mul_right _ hgt
            rw [Nat.add_mul] at this
            rw [List.append_assoc, List.getElem?_append_right (by simp; omega), List.getElem?_append_right (by simp [c1, hn]; omega), List.getElem?_drop]
            have hmin2 : min (i * ob.sz + k) cs.size = i * ob.sz + k := by omega
            simp only [List.length_take, Array.length_toList, hmin2, hcl]
            rw [show i * ob.sz + k + n + (i' * ob.sz + k' - (i * ob.sz + k) - n) = i' * ob.sz + k' by omega]
            simpa using q1)
      (by rw [← hH2]; exact Heap.get_set_same _ _ _) (fun j hj => by rw [← hH2]; exact Heap.get_set_other _ _ hj)
    unfold Oper.wp execOp
    have hsz' : ¬ ((a.eval y).cells.size ≠ n) := by simp [c1, hn]
    simp only [ho, h3, Instr.storeAt, Instr.sureAddr, storeVar, Sem.run_bind, Sem.run_pure, Result.andThen_ok, hs, Sem.run_ite, hsz', if_false, hst]
    exact hkk _ _ hrel hstep
  · rw [h1] at e1; cases e1
/-- A store. -/
theorem opd_store {v : AV} {cells r r' : List AV} {id g i k n : Nat} {ob : Ob} {H2 : Heap} (ho : o.op = .store T x y) (hx : aeval E x = some (.ref id g i k)) (hy : aeval E y = some v) (hc : acl v = some cells)
    (hs : ∀ w, (sizeOf T).run P w = .ok n w) (hn : cells.length = n) (hH : H.get id = some ob) (hg : ob.g = g) (hi : ob.rows[i]? = some r) (hk : k + n ≤ r.length)
    (hr' : r.take k ++ (cells ++ r.drop (k + n)) = r') (hH2 : H.set id { ob with rows := ob.rows.set i r' } = H2) : OpD P N o E H .any H2 := by
  intro a w I ι _ _ hr he K Q hkk
  exact store_wp ho hr (aeval_rel he hx) (aeval_rel he hy) hc hs hn hH hg hi hk hr' hH2 K Q (fun c w' h1 h2 => hkk c w' I ι _ _ ⟨rfl, rfl⟩ (.any _) h1 h2)
end
end Go.Abs
