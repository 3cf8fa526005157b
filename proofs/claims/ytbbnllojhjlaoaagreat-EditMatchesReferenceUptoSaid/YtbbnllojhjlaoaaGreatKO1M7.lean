/-
  PLAIN: maps by their lookups. Conditions: none.
  PLAIN: closed maps stay closed under edits; what an edit leads to, by operations. Conditions: none.
  CONTRACT: edit.All. Conditions: lengths below 2^39.
  slices.Sort OF AN OWNED SLICE OF TEXTS: the library's contract, carried over. Conditions: lengths below 2^62.
  slices.Sort at this program: the library's contract laid. Conditions: lengths below 2^62.
  CONTRACT: edit.Names. Conditions: lengths below 2^38.
  CONTRACTS: the reference: letters, names, points, words, tags. Conditions: lengths below 2^62.
  CONTRACTS: the reference: references, objects. Conditions: lengths below 2^62.
  CONTRACTS: the reference: maps, finding, references, closed maps, lists of indices. Conditions: lengths below 2^62.
  CONTRACTS: what is moderate (planisphereref13.Few); objects and maps compared (planisphereref11.Same, 12.Same). Conditions: lengths below 2^62.
  CONTRACTS: the reference: tags found, points, distances, objects found by halving, evidence of a kind. Conditions: lengths below 2^62.
  CONTRACTS: planisphereref31: what shows, what fits, the first choice, what holds. Conditions: lengths below 2^40.
-/
import Derived.Test.YtbbnllojhjlaoaaGreatKO1M6
import Derived.Shelf.SortM.Plain
import Derived.Shelf.SortM.SortNone
import Derived.Ground.SlgmProg
section
set_option linter.unusedVariables false
set_option linter.unusedSimpArgs false
set_option maxRecDepth 100000
namespace Go.Proofs.YtbbnllojhjlaoaaGreat
open Go.Abs
abbrev look (m : List GObj) (s : ByteArray) : Option GObj := m.find? (idIs s)
theorem look_id {m : List GObj} {s : ByteArray} {o : GObj} (h : look m s = some o) : o.id = s := of_decide_eq_true (show idIs s o = true from List.find?_some h)
theorem look_mem {m : List GObj} {s : ByteArray} {o : GObj} (h : look m s = some o) : o ∈ m := List.mem_of_find?_eq_some h
theorem mem_look {m : List GObj} {o : GObj} (hu : ups m) (h : o ∈ m) : look m o.id = some o := by
  cases hf : look m o.id with
  | none =>
    have := List.find?_eq_none.1 hf o h
    exact absurd (show idIs o.id o = true from decide_eq_true rfl) this
  | some x =>
    have hx := look_id hf
    obtain ⟨i, hi⟩ := List.mem_iff_getElem?.1 h
    obtain ⟨j, hj⟩ := List.mem_iff_getElem?.1 (look_mem hf)
    rcases Nat.lt_trichotomy i j with h1 | h1 | h1
    · have := asc_get (f := GObj.id) hu h1 hi hj
      rw [hx, slt_irr] at this; cases this
    · subst h1; rw [hi] at hj; cases hj; rfl
    · have := asc_get (f := GObj.id) hu h1 hj hi
      rw [hx, slt_irr] at this; cases this
theorem look_none {m : List GObj} {s : ByteArray} : look m s = none ↔ ∀ o, o ∈ m → o.id ≠ s := by
  rw [look, List.find?_eq_none]
  constructor
  · intro h o ho e
    exact h o ho (decide_eq_true e)
  · intro h o ho e
    exact h o ho (of_decide_eq_true e)
theorem asc_eq {α : Type} {f : α → ByteArray} : ∀ {a b : List α}, asc f a → asc f b → (∀ x, x ∈ a ↔ x ∈ b) → a = b
  | [], [], _, _, _ => rfl
  | [], y :: b, _, _, h => by have := (h y).2 List.mem_cons_self; cases this
  | x :: a, [], _, _, h => by have := (h x).1 List.mem_cons_self; cases this
  | x :: a, y :: b, ha, hb, h => by
    obtain ⟨ha1, ha2⟩ := List.pairwise_cons.1 ha
    obtain ⟨hb1, hb2⟩ := List.pairwise_cons.1 hb
    have hxy : x = y := by
      rcases List.mem_cons.1 ((h x).1 List.mem_cons_self) with e | e
      · exact e
      · rcases List.mem_cons.1 ((h y).2 List.mem_cons_self) with e' | e'
        · exact e'.symm
        · have h1 := hb1 x e
          have h2 := ha1 y e'
          have := slt_trans h1 h2
          rw [slt_irr] at this; cases this
    subst hxy
    rw [asc_eq ha2 hb2 (fun z => ⟨fun hz => ?_, fun hz => ?_⟩)]
    · rcases List.mem_cons.1 ((h z).1 (List.mem_cons_of_mem _ hz)) with e | e
      · subst e
        have := ha1 z hz
        rw [slt_irr] at this; cases this
      · exact e
    · rcases List.mem_cons.1 ((h z).2 (List.mem_cons_of_mem _ hz)) with e | e
      · subst e
        have := hb1 z hz
        rw [slt_irr] at this; cases this
      · exact e
theorem map_ext {a b : List GObj} (ha : ups a) (hb : ups b) (h : ∀ s, look a s = look b s) : a = b := by
  refine asc_eq (f := GObj.id) ha hb (fun x => ⟨fun hx => ?_, fun hx => ?_⟩)
  · exact look_mem (s := x.id) ((h x.id).symm.trans (mem_look ha hx))
  · exact look_mem (s := x.id) ((h x.id).trans (mem_look hb hx))
theorem look_of_mem {m : List GObj} {s : ByteArray} {o : GObj} (hu : ups m) (ho : o ∈ m) (hs : o.id = s) : look m s = some o := by subst hs; exact mem_look hu ho
theorem hasK_look {m : List GObj} {s : ByteArray} : hasK GObj.id m s = (look m s).isSome := by
  rw [hasK, look, Bool.eq_iff_iff, List.find?_isSome, List.any_eq_true]
  rfl
theorem gWith_mem_iff {m : List GObj} {o x : GObj} (hu : ups m) : x ∈ gWith m o ↔ x = o ∨ (x ∈ m ∧ x.id ≠ o.id) := by
  have hw := gWith_ups (o := o) hu
  have hmem : o ∈ gWith m o := by
    unfold gWith
    split
    · next hf =>
      obtain ⟨y, hy, _⟩ := hasK_get (f := GObj.id) hu hf
      exact List.mem_of_getElem? (List.getElem?_set_self (by have := (List.getElem?_eq_some_iff.1 hy).1; exact this))
    · exact List.mem_append_right _ List.mem_cons_self
  constructor
  · intro h
    by_cases e : x.id = o.id
    · left
      have h1 := mem_look hw h
      have h2 := mem_look hw hmem
      rw [e, h2] at h1
      exact (Option.some.inj h1).symm
    · right
      refine ⟨?_, e⟩
      rcases gWith_mem h with rfl | h
      · exact absurd rfl e
      · exact h
  · rintro (rfl | ⟨hx, e⟩)
    · exact hmem
    · unfold gWith
      split
      · next hf =>
        obtain ⟨y, hy, hye⟩ := hasK_get (f := GObj.id) hu hf
        obtain ⟨k, hk⟩ := List.mem_iff_getElem?.1 hx
        have hne : lbI GObj.id m o.id ≠ k := fun e2 => by
          subst e2
          rw [hy] at hk; cases hk
          exact e hye
        exact List.mem_of_getElem? (by rw [List.getElem?_set_ne hne]; exact hk)
      · rw [← List.take_append_drop (lbI GObj.id m o.id) m] at hx
        rcases List.mem_append.1 hx with h | h
        · exact List.mem_append_left _ h
        · exact List.mem_append_right _ (List.mem_cons_of_mem _ h)
theorem look_with {m : List GObj} (o : GObj) (s : ByteArray) (hu : ups m) : look (gWith m o) s = if s = o.id then some o else look m s := by
  have hw := gWith_ups (o := o) hu
  split
  · next e => exact look_of_mem hw ((gWith_mem_iff hu).2 (.inl rfl)) e.symm
  · next e =>
    cases hf : look m s with
    | none =>
      rw [look_none]
      intro x hx hs
      rcases (gWith_mem_iff hu).1 hx with rfl | ⟨h1, _⟩
      · exact e hs.symm
      · exact look_none.1 hf x h1 hs
    | some x =>
      have hid := look_id hf
      exact look_of_mem hw ((gWith_mem_iff hu).2 (.inr ⟨look_mem hf, by rw [hid]; exact e⟩)) hid
def gWo (m : List GObj) (id : ByteArray) : List GObj := m.take (lbI GObj.id m id) ++ m.drop (lbI GObj.id m id + 1)
theorem gWo_sub (m : List GObj) (id : ByteArray) : (gWo m id).Sublist m := by
  have h : (m.take (lbI GObj.id m id) ++ m.drop (lbI GObj.id m id)) = m := List.take_append_drop _ _
  conv => rhs; rw [← h]
  exact List.Sublist.append (List.Sublist.refl _) (by rw [← List.drop_drop]; exact List.drop_sublist _ _)
theorem ups_sub {m r : List GObj} (h : ups m) (hs : r.Sublist m) : ups r := List.Pairwise.sublist hs h
theorem look_wo {m : List GObj} {id : ByteArray} (s : ByteArray) (hu : ups m) (hf : hasK GObj.id m id = true) : look (gWo m id) s = if s = id then none else look m s := by
  obtain ⟨y, hy, hye⟩ := hasK_get (f := GObj.id) hu hf
  have hcut := cut_at hy
  have hsub := gWo_sub m id
  have huw := ups_sub hu hsub
  have hmem : ∀ x, x ∈ m ↔ x ∈ gWo m id ∨ x = y := fun x => by
    conv => lhs; rw [hcut]
    simp only [gWo, List.mem_append, List.mem_cons]
    constructor
    · rintro (h | h | h)
      · exact .inl (.inl h)
      · exact .inr h
      · exact .inl (.inr h)
    · rintro ((h | h) | h)
      · exact .inl h
      · exact .inr (.inr h)
      · exact .inr (.inl h)
  have hny : y ∉ gWo m id := fun h => by
    have hp := hu
    rw [ups, hcut, List.pairwise_append] at hp
    obtain ⟨_, hp2, hp3⟩ := hp
    rcases List.mem_append.1 h with h | h
    · have := hp3 y h y List.mem_cons_self
      rw [slt_irr] at this; cases this
    · have := (List.pairwise_cons.1 hp2).1 y h
      rw [slt_irr] at this; cases this
  split
  · next e =>
    rw [look_none]
    intro x hx hs
    have h1 := look_of_mem hu ((hmem x).2 (.inl hx)) (hs.trans e)
    have h2 := look_of_mem hu ((hmem y).2 (.inr rfl)) hye
    rw [h1] at h2
    cases h2
    exact hny hx
  · next e =>
    cases hl : look m s with
    | none =>
      rw [look_none]
      exact fun x hx => look_none.1 hl x (hsub.subset hx)
    | some x =>
      have hid := look_id hl
      rcases (hmem x).1 (look_mem hl) with h | h
      · exact look_of_mem huw h hid
      · subst h
        exact absurd (hid.symm.trans hye) e
theorem kindOf_look (m : List GObj) (s : ByteArray) : kindOf m s = (look m s).map GObj.kind := rfl
/-- References that lead to objects of the right kind. -/
def refsOk (m : List GObj) (kind : Int) (refs : List ByteArray) : Prop := ∀ (i : Nat) (s : ByteArray), refs[i]? = some s → kindOf m s = some (gWanted kind (i : Int))
theorem refBad_zero {m : List GObj} {kind : Int} {i : Nat} {s : ByteArray} : refBad m kind i s = 0 ↔ kindOf m s = some (gWanted kind (i : Int)) := by
  unfold refBad
  cases kindOf m s with
  | none => simp
  | some k =>
    simp only [Option.some.injEq]
    by_cases e : k = gWanted kind (i : Int)
    · simp [e]
    · simp [e]
theorem refErr_zero {m : List GObj} {kind : Int} : ∀ (j : Nat) (l : List ByteArray), refErr m kind j l = 0 ↔ ∀ (i : Nat) (s : ByteArray), l[i]? = some s → kindOf m s = some (gWanted kind ((j + i : Nat) : Int))
  | j, [] => by simp [refErr]
  | j, s :: l => by
    rw [refErr]
    constructor
    · intro h
      split at h
      · next h0 =>
        intro i x hx
        cases i with
        | zero =>
          rw [List.getElem?_cons_zero] at hx; cases hx
          exact refBad_zero.1 h0
        | succ i =>
          rw [List.getElem?_cons_succ] at hx
          have := (refErr_zero (j + 1) l).1 h i x hx
          rw [show j + (i + 1) = j + 1 + i by omega]
          exact this
      · next h0 => exact absurd h h0
    · intro h
      have h0 := refBad_zero.2 (h 0 s rfl)
      rw [Nat.add_zero] at h0
      rw [if_pos h0]
      refine (refErr_zero (j + 1) l).2 fun i x hx => ?_
      have := h (i + 1) x (by rw [List.getElem?_cons_succ]; exact hx)
      rw [show j + 1 + i = j + (i + 1) by omega]
      exact this
theorem refErr_ok {m : List GObj} {kind : Int} {l : List ByteArray} : refErr m kind 0 l = 0 ↔ refsOk m kind l := by
  rw [refErr_zero]
  simp only [refsOk, Nat.zero_add]
theorem closed_iff {m : List GObj} : closedB m = true ↔ gMap m = true ∧ ∀ o, o ∈ m → refsOk m o.kind o.refs := by
  rw [closedB, Bool.and_eq_true, List.all_eq_true]
  constructor
  · rintro ⟨h1, h2⟩
    exact ⟨h1, fun o ho => refErr_ok.1 (of_decide_eq_true (h2 o ho))⟩
  · rintro ⟨h1, h2⟩
    exact ⟨h1, fun o ho => decide_eq_true (refErr_ok.2 (h2 o ho))⟩
end Go.Proofs.YtbbnllojhjlaoaaGreat
end
section
set_option linter.unusedVariables false
set_option linter.unusedSimpArgs false
set_option maxRecDepth 100000
namespace Go.Proofs.YtbbnllojhjlaoaaGreat
open Go.Abs
theorem kindOf_with {m : List GObj} (o : GObj) (s : ByteArray) (hu : ups m) : kindOf (gWith m o) s = if s = o.id then some o.kind else kindOf m s := by
  rw [kindOf_look, look_with o s hu]
  split <;> rfl
theorem kindOf_wo {m : List GObj} {id : ByteArray} (s : ByteArray) (hu : ups m) (hf : hasK GObj.id m id = true) : kindOf (gWo m id) s = if s = id then none else kindOf m s := by
  rw [kindOf_look, look_wo s hu hf]
  split <;> rfl
theorem closed_with {m : List GObj} {o : GObj} (hc : closedB m = true) (hg : gMap (gWith m o) = true) (hr : refsOk m o.kind o.refs) (hk : ∀ k, kindOf m o.id = some k → k = o.kind) : closedB (gWith m o) = true := by
  obtain ⟨h1, h2⟩ := closed_iff.1 hc
  have hu := (gMap_iff.1 h1).2.1
  have hkk : ∀ s k, kindOf m s = some k → kindOf (gWith m o) s = some k := fun s k hs => by
    rw [kindOf_with o s hu]
    split
    · next e => subst e; rw [hk k hs]
    · exact hs
  refine closed_iff.2 ⟨hg, fun x hx i s hs => ?_⟩
  rcases (gWith_mem_iff hu).1 hx with rfl | ⟨hx, _⟩
  · exact hkk s _ (hr i s hs)
  · exact hkk s _ (h2 x hx i s hs)
theorem closed_wo {m : List GObj} {id : ByteArray} (hc : closedB m = true) (hf : hasK GObj.id m id = true) (hr : ∀ x, x ∈ m → x.id ≠ id → ∀ s, s ∈ x.refs → s ≠ id) : closedB (gWo m id) = true := by
  obtain ⟨h1, h2⟩ := closed_iff.1 hc
  have hu := (gMap_iff.1 h1).2.1
  refine closed_iff.2 ⟨gMap_sub h1 (gWo_sub m id), fun x hx i s hs => ?_⟩
  have hxm := (gWo_sub m id).subset hx
  have hxn : x.id ≠ id := fun e => by
    have h3 := look_wo x.id hu hf
    rw [if_pos e] at h3
    exact look_none.1 h3 x hx rfl
  rw [kindOf_wo s hu hf, if_neg (hr x hxm hxn s (List.mem_of_getElem? hs))]
  exact h2 x hxm i s hs
theorem putAll_ok : ∀ {l m : List GObj}, gMap m = true → (putAll m l).2 = 0 → gMap (putAll m l).1 = true ∧ (putAll m l).1 = l.foldl gWith m ∧ (∀ o, o ∈ l → gObj o = true)
  | [], m, hg, _ => ⟨hg, rfl, fun o ho => by cases ho⟩
  | o :: l, m, hg, h => by
    rw [putAll] at h ⊢
    by_cases h0 : (gPutM m o).2 = 0
    · rw [if_neg (by simp [h0])] at h ⊢
      obtain ⟨g1, g2, g3, g4⟩ := gPutM_len h0
      rw [g3] at h ⊢
      obtain ⟨q1, q2, q3⟩ := putAll_ok (gMap_with g1 g2 g4) h
      exact ⟨q1, q2, fun x hx => by
        rcases List.mem_cons.1 hx with rfl | hx
        · exact g2
        · exact q3 x hx⟩
    · rw [if_pos (by simp [h0])] at h
      exact absurd h h0
theorem gDropM_ok {m : List GObj} {id : ByteArray} (h : (gDropM m id).2 = 0) : gMap m = true ∧ hasK GObj.id m id = true ∧ (gDropM m id).1 = gWo m id := by
  unfold gDropM at h ⊢
  by_cases h1 : gMap m = true
  · rw [if_neg (by simp [h1])] at h ⊢
    by_cases h2 : hasK GObj.id m id = true
    · rw [if_neg (by simp [h2])]
      exact ⟨h1, h2, rfl⟩
    · rw [if_pos (by simpa using h2)] at h; cases h
  · rw [if_pos (by simpa using h1)] at h; cases h
/-- The map behind objects that are put and an Id that is dropped. -/
def gTo (m : List GObj) (put : List GObj) (drop : ByteArray) : List GObj := if drop = sNil then put.foldl gWith m else gWo (put.foldl gWith m) drop
theorem after_ok {m : List GObj} {e : GEdit} (hg : gMap m = true) (h : (gAfter m e).2 = 0) :
    gEditV e = true ∧ (gPerform m e).err = 0 ∧ (gAfter m e).1 = gTo m (gPerform m e).put (gPerform m e).drop ∧ gMap ((gPerform m e).put.foldl gWith m) = true ∧ (∀ o, o ∈ (gPerform m e).put → gObj o = true) ∧
      ((gPerform m e).drop = sNil ∨ hasK GObj.id ((gPerform m e).put.foldl gWith m) (gPerform m e).drop = true) := by
  unfold gAfter at h ⊢
  by_cases h1 : gEditV e = true
  · rw [if_neg (by simp [h1])] at h ⊢
    by_cases h2 : (gPerform m e).err = 0
    · rw [if_neg (by simp [h2])] at h ⊢
      by_cases h3 : (putAll m (gPerform m e).put).2 = 0
      · rw [if_neg (by simp [h3])] at h ⊢
        obtain ⟨p1, p2, p3⟩ := putAll_ok hg h3
        rw [p2] at h p1 ⊢
        by_cases h4 : (gPerform m e).drop = sNil
        · rw [if_neg (by simp [h4])] at h ⊢
          exact ⟨h1, h2, by rw [gTo, if_pos h4], p1, p3, .inl h4⟩
        · rw [if_pos (by simp [h4])] at h ⊢
          obtain ⟨d1, d2, d3⟩ := gDropM_ok h
          exact ⟨h1, h2, by rw [gTo, if_neg h4]; exact d3, p1, p3, .inr d2⟩
      · rw [if_pos (by simp [h3])] at h
        exact absurd h h3
    · rw [if_pos (by simp [h2])] at h
      exact absurd h h2
  · rw [if_pos (by simpa using h1)] at h; cases h
theorem gWanted_low {kind i : Int} (h : kind ≤ 3) : gWanted kind i = 1 := by
  rw [gWanted, if_neg]
  simp only [Bool.or_eq_true, Bool.and_eq_true, decide_eq_true_eq]
  omega
theorem gRefd_false {m : List GObj} {routes : Bool} {ids : List ByteArray} (h : gRefd m routes ids = false) {x : GObj} (hx : x ∈ m) (hk : routes = false ∨ 4 ≤ x.kind) {s : ByteArray} (hs : s ∈ x.refs) : s ∉ ids := by
  intro hin
  have : gRefd m routes ids = true := by
    rw [gRefd, List.any_eq_true]
    refine ⟨x, hx, ?_⟩
    rw [refsTo, Bool.and_eq_true, Bool.or_eq_true, List.any_eq_true]
    refine ⟨?_, s, hs, inB_iff.2 hin⟩
    rcases hk with hk | hk
    · left; rw [hk]; rfl
    · right; exact decide_eq_true hk
  rw [h] at this; cases this
/-- What a possible edit leads to, by operations. -/
inductive Eff (m : List GObj) (e : GEdit) : List GObj → Prop
  | put (ho : e.op = 1) (hn : look m e.obj.id = none) (hr : refsOk m e.obj.kind e.obj.refs) (hg : gObj e.obj = true) (hm : gMap (gWith m e.obj) = true) : Eff m e (gWith m e.obj)
  | move (o : GObj) (ho : e.op = 2) (hl : look m e.id = some o) (hk : o.kind = 1) (hg : gObj ⟨o.id, o.kind, e.x, e.y, o.refs, o.tags⟩ = true) (hm : gMap (gWith m ⟨o.id, o.kind, e.x, e.y, o.refs, o.tags⟩) = true) : Eff m e (gWith m ⟨o.id, o.kind, e.x, e.y, o.refs, o.tags⟩)
  | tag (o : GObj) (ho : e.op = 3) (hl : look m e.id = some o) (hs : (gSet o.tags e.key e.val).2 = 0) (hg : gObj ⟨o.id, o.kind, o.x, o.y, o.refs, (gSet o.tags e.key e.val).1⟩ = true) (hm : gMap (gWith m ⟨o.id, o.kind, o.x, o.y, o.refs, (gSet o.tags e.key e.val).1⟩) = true) : Eff m e (gWith m ⟨o.id, o.kind, o.x, o.y, o.refs, (gSet o.tags e.key e.val).1⟩)
  | refs (o : GObj) (ho : e.op = 4) (hl : look m e.id = some o) (hk : o.kind = 2 ∨ o.kind = 3 ∨ o.kind = 4) (hr : refsOk m o.kind e.refs) (hg : gObj ⟨o.id, o.kind, o.x, o.y, e.refs, o.tags⟩ = true) (hm : gMap (gWith m ⟨o.id, o.kind, o.x, o.y, e.refs, o.tags⟩) = true) : Eff m e (gWith m ⟨o.id, o.kind, o.x, o.y, e.refs, o.tags⟩)
  | drop (o : GObj) (ho : e.op = 5) (hl : look m e.id = some o) (hr : gRefd m false [e.id] = false) : Eff m e (gWo m e.id)
  | split (o : GObj) (k : Nat) (ho : e.op = 6) (hl : look m e.id = some o) (hk : o.kind = 2) (hn : look m e.other = none) (hi : gInner o.refs e.node = (k : Int)) (hr : gRefd m true [e.id] = false)
      (hm : gMap (gWith (gWith m ⟨o.id, o.kind, o.x, o.y, o.refs.take (k + 1), o.tags⟩) ⟨e.other, 2, 0, 0, o.refs.drop k, o.tags⟩) = true) : Eff m e (gWith (gWith m ⟨o.id, o.kind, o.x, o.y, o.refs.take (k + 1), o.tags⟩) ⟨e.other, 2, 0, 0, o.refs.drop k, o.tags⟩)
  | join (o x : GObj) (ho : e.op = 7) (hl : look m e.id = some o) (hk : o.kind = 2) (hx : look m e.other = some x) (hk2 : x.kind = 2) (hne : e.id ≠ e.other) (he : atS o.refs (o.refs.length - 1) = atS x.refs 0) (hr : gRefd m true [e.id, e.other] = false)
      (hlen : o.refs.length + x.refs.length - 1 ≤ 2000) (hm : gMap (gWith m ⟨o.id, o.kind, o.x, o.y, o.refs ++ x.refs.drop 1, o.tags⟩) = true) : Eff m e (gWo (gWith m ⟨o.id, o.kind, o.x, o.y, o.refs ++ x.refs.drop 1, o.tags⟩) e.other)
theorem eff_of {m : List GObj} {e : GEdit} (hg : gMap m = true) (h : (gAfter m e).2 = 0) : gEditV e = true ∧ Eff m e (gAfter m e).1 := by
  obtain ⟨a1, a2, a3, a4, a5, a6⟩ := after_ok hg h
  refine ⟨a1, ?_⟩
  rw [a3]
  obtain ⟨⟨o1, o2⟩, b2, b3⟩ := gEditV_iff.1 a1
  have hu := (gMap_iff.1 hg).2.1
  have herr : ∀ n : Int, n ≠ 0 → (errR n).err ≠ 0 := fun n hn => hn
  unfold gPerform at a2 a4 a5 a6 ⊢
  split at a2
  · next ho =>
    rw [if_pos ho] at a4 a5 a6 ⊢
    split at a2
    · exact absurd a2 (by decide)
    · next hk =>
      rw [if_neg hk] at a4 a5 a6 ⊢
      refine Eff.put ho ?_ (refErr_ok.1 a2) (a5 _ List.mem_cons_self) a4
      cases hl : look m e.obj.id with
      | none => rfl
      | some x => rw [kindOf_look, hl] at hk; exact absurd rfl hk
  · next ho =>
    rw [if_neg ho] at a4 a5 a6 ⊢
    split at a2
    · exact absurd a2 (by decide)
    · next o hl =>
      simp only [hl] at a4 a5 a6 ⊢
      split at a2
      · exact absurd a2 (by decide)
      · next h7 =>
        rw [if_neg h7] at a4 a5 a6 ⊢
        split at a2
        · exact absurd a2 (by decide)
        · next hfit =>
          rw [if_neg hfit] at a4 a5 a6 ⊢
          rw [Bool.not_eq_true, Bool.not_eq_false'] at hfit
          split at a2
          · next h2 =>
            rw [if_pos h2] at a4 a5 a6 ⊢
            rw [h2] at hfit
            exact Eff.move o h2 hl (by simpa [fitsB] using hfit) (a5 _ List.mem_cons_self) a4
          · next h2 =>
            rw [if_neg h2] at a4 a5 a6 ⊢
            split at a2
            · next h3 =>
              rw [if_pos h3] at a4 a5 a6 ⊢
              split at a2
              · next hs =>
                have hs' : ¬ (gSet o.tags e.key e.val).2 = 0 := by simpa using hs
                exact absurd a2 hs'
              · next hs =>
                rw [if_neg hs] at a4 a5 a6 ⊢
                exact Eff.tag o h3 hl (by simpa using hs) (a5 _ List.mem_cons_self) a4
            · next h3 =>
              rw [if_neg h3] at a4 a5 a6 ⊢
              split at a2
              · next h4 =>
                rw [if_pos h4] at a4 a5 a6 ⊢
                split at a2
                · exact absurd a2 (by decide)
                · next hgo =>
                  rw [if_neg hgo] at a4 a5 a6 ⊢
                  rw [h4] at hfit
                  exact Eff.refs o h4 hl (by simpa [fitsB] using hfit) (refErr_ok.1 a2) (a5 _ List.mem_cons_self) a4
              · next h4 =>
                rw [if_neg h4] at a4 a5 a6 ⊢
                split at a2
                · next h5 =>
                  rw [if_pos h5] at a4 a5 a6 ⊢
                  split at a2
                  · exact absurd a2 (by decide)
                  · next hr =>
                    rw [if_neg hr] at a4 a5 a6 ⊢
                    have hne : e.id ≠ sNil := by
                      rw [okOf, if_neg (by omega), Bool.and_eq_true] at b2
                      exact gName_ne b2.1
                    rw [gTo, if_neg hne]
                    exact Eff.drop o h5 hl (by simpa using hr)
                · next h5 =>
                  rw [if_neg h5] at a4 a5 a6 ⊢
                  split at a2
                  · next h6 =>
                    rw [if_pos h6] at a4 a5 a6 ⊢
                    rw [h6] at hfit
                    unfold gSplit at a2 a4 a5 a6 ⊢
                    split at a2
                    · exact absurd a2 (by decide)
                    · next hk =>
                      rw [if_neg hk] at a4 a5 a6 ⊢
                      split at a2
                      · exact absurd a2 (by decide)
                      · next hi =>
                        rw [if_neg hi] at a4 a5 a6 ⊢
                        split at a2
                        · exact absurd a2 (by decide)
                        · next hr =>
                          rw [if_neg hr] at a4 a5 a6 ⊢
                          rcases gInner_lt (l := o.refs) (node := e.node) with h | ⟨k, h, _⟩
                          · rw [h] at hi; exact absurd rfl hi
                          · rw [h] at a4 a5 a6 ⊢
                            refine Eff.split o k h6 hl (by simpa [fitsB] using hfit) ?_ h (by simpa using hr) a4
                            cases hl2 : look m e.other with
                            | none => rfl
                            | some x => rw [kindOf_look, hl2] at hk; exact absurd rfl hk
                  · next h6 =>
                    rw [if_neg h6] at a4 a5 a6 ⊢
                    have h77 : e.op = 7 := by omega
                    rw [h77] at hfit
                    cases hl2 : look m e.other with
                    | none =>
                      have hl2' : m.find? (idIs e.other) = none := hl2
                      rw [h77, hl2'] at h7; exact absurd rfl h7
                    | some x =>
                      have hl2' : m.find? (idIs e.other) = some x := hl2
                      simp only [hl2', Option.getD_some] at a2 a4 a5 a6 ⊢
                      unfold gJoin at a2 a4 a5 a6 ⊢
                      split at a2
                      · exact absurd a2 (by decide)
                      · next hk =>
                        rw [if_neg hk] at a4 a5 a6 ⊢
                        split at a2
                        · exact absurd a2 (by decide)
                        · next hi =>
                          rw [if_neg hi] at a4 a5 a6 ⊢
                          split at a2
                          · exact absurd a2 (by decide)
                          · next hr =>
                            rw [if_neg hr] at a4 a5 a6 ⊢
                            split at a2
                            · exact absurd a2 (by decide)
                            · next hlen =>
                              rw [if_neg hlen] at a4 a5 a6 ⊢
                              have hne : e.other ≠ sNil := by
                                rw [okOf, if_neg (by omega), Bool.and_eq_true, if_neg (by omega), if_neg (by omega), if_neg (by omega), if_neg (by omega), if_neg (by omega)] at b2
                                exact gName_ne b2.2
                              rw [gTo, if_neg hne]
                              rw [Bool.not_eq_true, Bool.or_eq_false_iff, decide_eq_false_iff_not, Bool.not_eq_false', decide_eq_true_eq] at hi
                              have hfl : [o.refs, x.refs.drop 1].flatten = o.refs ++ x.refs.drop 1 := by simp
                              simp only [hfl] at a4 ⊢
                              exact Eff.join o x h77 hl (by simpa [fitsB] using hfit) hl2 (by simpa using hk) hi.1 hi.2 (by simpa using hr) (by simpa using hlen) a4
theorem gObj_kind {o : GObj} (h : gObj o = true) : 1 ≤ o.kind ∧ o.kind ≤ 5 := by
  rw [gObj, Bool.and_eq_true, Bool.not_eq_true', gHead, gHeadN] at h
  have h1 := h.1
  simp only [Bool.or_eq_false_iff, decide_eq_false_iff_not] at h1
  have hw := h1.1.1.1.1
  unfold gWord at hw
  by_cases a : o.kind = 1
  · omega
  · by_cases b : o.kind = 2
    · omega
    · by_cases c : o.kind = 3
      · omega
      · by_cases d : o.kind = 4
        · omega
        · by_cases f : o.kind = 5
          · omega
          · rw [if_neg a, if_neg b, if_neg c, if_neg d, if_neg f] at hw
            exact absurd rfl hw
theorem refsOk_way {m : List GObj} {l : List ByteArray} : refsOk m 2 l ↔ ∀ s, s ∈ l → kindOf m s = some 1 := by
  constructor
  · intro h s hs
    obtain ⟨i, hi⟩ := List.mem_iff_getElem?.1 hs
    have := h i s hi
    rwa [gWanted_low (by decide)] at this
  · intro h i s hs
    rw [gWanted_low (by decide)]
    exact h s (List.mem_of_getElem? hs)
theorem kind_of_look {m : List GObj} {s : ByteArray} {o : GObj} (h : look m s = some o) : kindOf m s = some o.kind := by rw [kindOf_look, h]; rfl
theorem closed_at {m : List GObj} {s : ByteArray} {o : GObj} (hc : closedB m = true) (h : look m s = some o) : refsOk m o.kind o.refs := (closed_iff.1 hc).2 o (look_mem h)
theorem same_kind {m : List GObj} {s : ByteArray} {o : GObj} (h : look m s = some o) : ∀ k, kindOf m o.id = some k → k = o.kind := fun k hk => by
  rw [look_id h, kind_of_look h] at hk
  exact (Option.some.inj hk).symm
/-- Closed maps stay closed. -/
theorem eff_closed {m m' : List GObj} {e : GEdit} (hc : closedB m = true) (h : Eff m e m') : closedB m' = true := by
  have hg := closed_gMap hc
  have hu := (gMap_iff.1 hg).2.1
  cases h with
  | put ho hn hr hgo hm => exact closed_with hc hm hr (fun k hk => by rw [kindOf_look, hn] at hk; cases hk)
  | move o ho hl hk hgo hm => exact closed_with hc hm (show refsOk m o.kind o.refs from closed_at hc hl) (fun k hk => same_kind hl k hk)
  | tag o ho hl hs hgo hm => exact closed_with hc hm (show refsOk m o.kind o.refs from closed_at hc hl) (fun k hk => same_kind hl k hk)
  | refs o ho hl hk hr hgo hm => exact closed_with hc hm hr (fun k hk => same_kind hl k hk)
  | drop o ho hl hr =>
    refine closed_wo hc (by rw [hasK_look, hl]; rfl) (fun x hx _ s hs e1 => ?_)
    exact gRefd_false hr hx (.inl rfl) hs (by rw [e1]; exact List.mem_singleton.2 rfl)
  | split o k ho hl hk hn hi hr hm =>
    have ha := closed_at hc hl
    rw [hk] at ha
    have hu1 := gWith_ups (o := ⟨o.id, o.kind, o.x, o.y, o.refs.take (k + 1), o.tags⟩) hu
    have hid := look_id hl
    have hne : e.other ≠ o.id := fun e1 => by rw [e1, hid, hl] at hn; cases hn
    -- the kinds with both
    have hkk : ∀ s, kindOf (gWith (gWith m ⟨o.id, o.kind, o.x, o.y, o.refs.take (k + 1), o.tags⟩) ⟨e.other, 2, 0, 0, o.refs.drop k, o.tags⟩) s = if s = e.other then some 2 else kindOf m s := fun s => by
      rw [kindOf_with _ s hu1, kindOf_with _ s hu]
      split
      · rfl
      · split
        · next e2 => rw [e2, hid, kind_of_look hl]
        · rfl
    have hold : ∀ s q, kindOf m s = some q → kindOf (gWith (gWith m ⟨o.id, o.kind, o.x, o.y, o.refs.take (k + 1), o.tags⟩) ⟨e.other, 2, 0, 0, o.refs.drop k, o.tags⟩) s = some q := fun s q hs => by
      rw [hkk s]
      split
      · next e2 => rw [e2, kindOf_look, hn] at hs; cases hs
      · exact hs
    refine closed_iff.2 ⟨hm, fun x hx i s hs => ?_⟩
    rcases (gWith_mem_iff hu1).1 hx with rfl | ⟨hx, _⟩
    · refine hold s _ ?_
      have hin : s ∈ o.refs := List.mem_of_mem_drop (List.mem_of_getElem? hs)
      show kindOf m s = some (gWanted 2 (i : Int))
      rw [gWanted_low (by decide)]
      exact refsOk_way.1 ha s hin
    · rcases (gWith_mem_iff hu).1 hx with rfl | ⟨hx, _⟩
      · refine hold s _ ?_
        have hin : s ∈ o.refs := List.mem_of_mem_take (List.mem_of_getElem? hs)
        show kindOf m s = some (gWanted o.kind (i : Int))
        rw [hk, gWanted_low (by decide)]
        exact refsOk_way.1 ha s hin
      · exact hold s _ ((closed_iff.1 hc).2 x hx i s hs)
  | join o x ho hl hk hx hk2 hne he hr hlen hm =>
    have ha := closed_at hc hl
    have hb := closed_at hc hx
    rw [hk] at ha
    rw [hk2] at hb
    have hid := look_id hl
    have hid2 := look_id hx
    have h1 : closedB (gWith m ⟨o.id, o.kind, o.x, o.y, o.refs ++ x.refs.drop 1, o.tags⟩) = true := by
      refine closed_with hc hm ?_ (fun k hk => same_kind hl k hk)
      show refsOk m o.kind (o.refs ++ x.refs.drop 1)
      rw [hk]
      refine refsOk_way.2 fun s hs => ?_
      rcases List.mem_append.1 hs with h | h
      · exact refsOk_way.1 ha s h
      · exact refsOk_way.1 hb s (List.mem_of_mem_drop h)
    have hother : kindOf m e.other = some 2 := by rw [kind_of_look hx, hk2]
    refine closed_wo h1 ?_ (fun y hy hyn s hs e1 => ?_)
    · rw [hasK_look, look_with _ _ hu, if_neg (by show ¬ e.other = o.id; rw [hid]; exact fun e1 => hne e1.symm), hx]; rfl
    · rcases (gWith_mem_iff hu).1 hy with rfl | ⟨hy, _⟩
      · have hs : s ∈ o.refs ++ x.refs.drop 1 := hs
        have : kindOf m s = some 1 := by
          rcases List.mem_append.1 hs with h | h
          · exact refsOk_way.1 ha s h
          · exact refsOk_way.1 hb s (List.mem_of_mem_drop h)
        rw [e1, hother] at this; cases this
      · have hyk := gObj_kind ((gMap_iff.1 hg).1 y hy)
        by_cases hy4 : 4 ≤ y.kind
        · exact gRefd_false hr hy (.inr hy4) hs (by rw [e1]; simp)
        · obtain ⟨i, hi⟩ := List.mem_iff_getElem?.1 hs
          have := (closed_iff.1 hc).2 y hy i s hi
          rw [gWanted_low (by omega), e1, hother] at this; cases this
theorem after_closed {m : List GObj} {e : GEdit} (hc : closedB m = true) (h : (gAfter m e).2 = 0) : closedB (gAfter m e).1 = true := eff_closed hc (eff_of (closed_gMap hc) h).2
end Go.Proofs.YtbbnllojhjlaoaaGreat
end
section
set_option linter.unusedVariables false
set_option linter.unusedSimpArgs false
set_option maxRecDepth 100000
namespace Go.Proofs.YtbbnllojhjlaoaaGreat
open Go.Abs
theorem putAll_okM : ∀ {l m : List GObj}, okM m → gMap m = true → (∀ o, o ∈ l → okO o) → (putAll m l).2 = 0 → okM (putAll m l).1
 | [], m, hm, _, _, _ => hm
 | o :: l, m, hm, hg, ho, h => by
  have hl : m.length < 1099511627776 := by have := (gMap_iff.1 hg).2.2; omega
  rw [putAll] at h ⊢
  by_cases h0 : (gPutM m o).2 = 0
  ·rw [if_neg (by simp [h0])] at h ⊢
   obtain ⟨g1, g2, g3, g4⟩ := gPutM_len h0
   have hok := (gPutM_ok hm (ho o List.mem_cons_self) hl).1
   rw [g3] at h hok ⊢
   exact putAll_okM hok (gMap_with g1 g2 g4) (fun x hx => ho x (List.mem_cons_of_mem _ hx)) h
  rw [if_pos (by simp [h0])] at h
  exact absurd h h0
theorem okM_subl {m r : List GObj} (h : okM m) (hs : r.Sublist m) : okM r := ⟨by have := hs.length_le; have := h.1; omega, fun o ho => h.2 o (hs.subset ho)⟩
theorem after_okM {m : List GObj} {e : GEdit} (hm : okM m) (hg : gMap m = true) (he : okE e) (h : (gAfter m e).2 = 0) : okM (gAfter m e).1 := by
 have hv := (after_ok hg h).1
 have hpo := perf_ok hm hg he hv
 unfold gAfter at h ⊢
 rw [if_neg (by simp [hv])] at h ⊢
 by_cases h2 : (gPerform m e).err = 0
 ·rw [if_neg (by simp [h2])] at h ⊢
  by_cases h3 : (putAll m (gPerform m e).put).2 = 0
  ·rw [if_neg (by simp [h3])] at h ⊢
   have hok := putAll_okM hm hg hpo h3
   by_cases h4 : (gPerform m e).drop = sNil
   ·rw [if_neg (by simp [h4])]
    exact hok
   rw [if_pos (by simp [h4])] at h ⊢
   rw [(gDropM_ok h).2.2]
   exact okM_subl hok (gWo_sub _ _)
  rw [if_pos (by simp [h3])] at h
  exact absurd h h3
 rw [if_pos (by simp [h2])] at h
 exact absurd h h2
def gAllFrom : List GObj → Nat → List GEdit → List GObj × Int × Int
 | m, _, [] => (m, -1, 0)
 | m, i, e :: l => if !decide ((gAfter m e).2 = 0) then ([], (i : Int), (gAfter m e).2) else gAllFrom (gAfter m e).1 (i + 1) l
def gAll (m : List GObj) (l : List GEdit) : List GObj × Int × Int := if closedB m then gAllFrom m 0 l else ([], -1, 1)
theorem gMap_small {m : List GObj} (h : gMap m = true) : m.length < 549755813888 := by have := (gMap_iff.1 h).2.2; omega
theorem all_c (m : List GObj) (l : List GEdit) (H : Heap) (hm : okM m) (hl : l.length < 549755813888) (he : ∀ e, e ∈ l → okE e) :
  ACalls Tryz.prog 17 [.agg [.pv (slObjs m)], .pv (slEdits l)] H (fun r H' => r = .tup [.agg [.pv (slObjs (gAll m l).1)], iv (gAll m l).2.1, iv (gAll m l).2.2] ∧ H' = H) := by
 refine ACalls.pure ?_ (by simp) H
 have hml : (l.map encEdit).length = l.length := List.length_map _
 rw [gAll]
 cases hcl : closedB m with
 | true =>
  simp only [if_true]
  refine Bd Tryz.func17 rfl Tryz.ntmps17<|Sq<|Rg<|Dd (by exact opd_box (id := 2) rfl rfl rfl rfl rfl)<|Dd (by exact x_alloc (id := 4) rfl zo24 rfl rfl)<|Dd as'<|Dd as'<|Zz<|Sq<|Rg<|Dd (ln' Tryz.isAgg24 Tryz.sizeOf24)<|Dd (by exact opr_call rfl rfl Tryz.call23 rfl (ofF_c m _ hm hcl rfl rfl))<|Dd as'<|Zz<|Sq<|Sq<|Rg<|Dd mv'<|Dd (by exact opd_peq_ref rfl Tryz.underlying52 rfl rfl rfl rfl)<|Zz ?_
  refine Cn (fun hc1 => ?_) fun hc1 => ?_
  ·cases hc1
  skip
  refine awp_skip<|Sq<|Sq<|Rg<|Dd mv'<|Dd (ll' Tryz.underlying25)<|Dd mv'<|Zz<|awp_block ?_
  refine awp_loop2 (fun (k : Nat) (mk : List GObj) => ([(4, .ref 4 0 0 0), (7, .ref 14 0 0 0), (17, .pv (slEdits l)), (18, iv ((l.map encEdit).length : Int)), (19, iv (k : Int))], [(14, cRow mk), (12, kob mk), (4, bx 1 24 [lv []])])) (fun k mk => k ≤ l.length ∧ okM mk ∧ closedB mk = true ∧ gAllFrom m 0 l = gAllFrom mk k (l.drop k)) (fun k mk => l.length - k) 0 m ⟨by omega, hm, hcl, rfl⟩ ?_ ?_
  ·exact (Ent.wk ⟨⟨_, rfl, rfl⟩, (by (simp; rfl)), ⟨_, rfl, rfl⟩, (by (simp; rfl)), ⟨_, rfl, rfl⟩, (by (simp; done)), ⟨_, rfl, rfl⟩, (by (simp; done)), ⟨_, rfl, rfl⟩, (by (simp; done)), trivial⟩ ⟨⟨_, rfl, rfl⟩, (by (simp; rfl)), ⟨_, rfl, rfl⟩, (by exact kob_clo _ _), ⟨_, rfl, rfl⟩, (by (simp; done)), trivial⟩ trivial)
  rintro k mk ⟨hk, hmk, hck, hinv⟩
  have hgk := closed_gMap hck
  have hmkl := gMap_small hgk
  refine Sq<|Rg<|Dd lss'<|Zz<|Sq ?_
  refine Cn (fun hc2 => ?_) fun hc2 => ?_
  ·have hlt : k < l.length := by have := of_decide_eq_true hc2; omega
   obtain ⟨e, hel⟩ := get_of_lt hlt
   have hi := map_get (f := encEdit) hel
   have hee := he e (List.mem_of_getElem? hel)
   have hdr : l.drop k = e :: l.drop (k + 1) := by
    obtain ⟨hl1, he1⟩ := List.getElem?_eq_some_iff.1 hel
    rw [List.drop_eq_getElem_cons hl1, he1]
   rw [hdr, gAllFrom] at hinv
   refine awp_skip<|Sq<|awp_block<|Sq<|Rg<|Dd mv'<|Dd (xp' so25)<|Dd (by exact opd_loadn_pad rfl Tryz.isAgg38 Tryz.sizeOf38 rfl (by omega) (by simp only [Zl, encTag, encObj, encStr, encEdit, encInt]; rfl) rfl)<|Dd (by exact x_alloc (id := 9) rfl zo38 rfl rfl)<|Dd as'<|Uu (sa' Tryz.sizeOf38)<|Zz<|Sq<|Rg<|Dd mv'<|Dd (ln' Tryz.isAgg38 Tryz.sizeOf38)<|Dd (by exact opr_call rfl rfl Tryz.call24 rfl (after_c mk e _ rfl rfl hmk hgk hee hmkl))<|Dd mv'<|Dd ex'<|Dd ex'<|Dd (by exact x_alloc (id := 10) rfl zo24 rfl rfl)<|Uu (sa' Tryz.sizeOf24)<|Dd as'<|Zz<|Sq<|Sq<|Rg<|Dd mv'<|Dd ne'<|Zz ?_
   refine Cn (fun hc3 => ?_) fun hc3 => ?_
   ·rw [if_pos hc3] at hinv
    rw [hinv]
    refine Sq<|Rg<|Dd (bu' bo24)<|Dd mv'<|Dd mv'<|Uu (sa' Tryz.sizeOf24)<|Dd as'<|Dd as'<|Zz<|awp_ret ?_
    refine aret3 (H' := []) (.inr rfl) rfl (rl' Tryz.isAgg24 Tryz.sizeOf24) (rval_tmp rfl) (rval_tmp rfl) (Fin.wk (r := .tup [.agg [lv []], iv (k : Int), iv (gAfter mk e).2]) (by simp) trivial trivial) ?_
    exact ⟨rfl, rfl⟩
   rw [if_neg (by rw [hc3]; simp)] at hinv
   have h0 : (gAfter mk e).2 = 0 := by
    have h := hc3
    simpa using h
   have hca := after_closed hck h0
   have hoa := after_okM hmk hgk hee h0
   refine awp_skip ?_
   refine AWp.ent (E' := [(4, .ref 4 0 0 0), (10, .ref 10 0 0 0), (17, .pv (slEdits l)), (18, iv ((l.map encEdit).length : Int)), (19, iv (k : Int))]) (H' := [(10, bx 1 24 [.pv (slObjs (gAfter mk e).1)]), (4, bx 1 24 [lv []])]) Wk ?_
   refine Rg<|Dd (ln' Tryz.isAgg24 Tryz.sizeOf24)<|Dd (by exact opr_call rfl rfl Tryz.call23 rfl (ofF_c (gAfter mk e).1 _ hoa hca rfl rfl))<|Dd as'<|Zz<|Rg<|Dd ad'<|Dd mv'<|Zz ?_
   exact ⟨k + 1, (gAfter mk e).1, ⟨by omega, hoa, hca, hinv⟩, by omega, (Ent.wk ⟨⟨_, rfl, rfl⟩, (by (simp; rfl)), ⟨_, rfl, rfl⟩, (by (simp; rfl)), ⟨_, rfl, rfl⟩, (by (simp; done)), ⟨_, rfl, rfl⟩, (by (simp; done)), ⟨_, rfl, rfl⟩, (by (simp; done)), trivial⟩ ⟨⟨_, rfl, rfl⟩, (by (simp; rfl)), ⟨_, rfl, rfl⟩, (by exact kob_clo _ _), ⟨_, rfl, rfl⟩, (by (simp; done)), trivial⟩ trivial)⟩
  have hge : k = l.length := by have := of_decide_eq_false hc2; omega
  subst hge
  rw [List.drop_length, gAllFrom] at hinv
  rw [hinv]
  refine awp_exit<|Sq<|Rg<|Dd mv'<|Dd nc'<|Dd (fr' fo80_0)<|Dd (ln' Tryz.isAgg24 Tryz.sizeOf24)<|Uu (sa' Tryz.sizeOf24)<|Dd as'<|Dd as'<|Zz<|awp_ret ?_
  refine aret3 (H' := []) (.inr rfl) rfl (rl' Tryz.isAgg24 Tryz.sizeOf24) (rval_tmp rfl) (rval_tmp rfl) (Fin.wk (r := .tup [.agg [.pv (slObjs mk)], iv (-1), iv 0]) (by simp) trivial trivial) ?_
  exact ⟨rfl, rfl⟩
 | false =>
  simp only [Bool.false_eq_true, if_false]
  have hof := fun H => ACalls.pure (ofN_c m hm hcl) (by simp) H
  refine Bd Tryz.func17 rfl Tryz.ntmps17<|Sq<|Rg<|Dd (by exact opd_box (id := 2) rfl rfl rfl rfl rfl)<|Dd (by exact x_alloc (id := 4) rfl zo24 rfl rfl)<|Dd as'<|Dd as'<|Zz<|Sq<|Rg<|Dd (ln' Tryz.isAgg24 Tryz.sizeOf24)<|Dd (by exact opr_call rfl rfl Tryz.call23 rfl (hof _))<|Dd as'<|Zz<|Sq<|Sq<|Rg<|Dd mv'<|Dd (by exact opd_peq_nil rfl Tryz.underlying52 rfl rfl)<|Zz ?_
  refine Cn (fun hc1 => ?_) fun hc1 => ?_
  ·skip
   refine Sq<|Rg<|Dd (bu' bo24)<|Uu (sa' Tryz.sizeOf24)<|Dd as'<|Dd as'<|Zz<|awp_ret ?_
   refine aret3 (H' := []) (.inr rfl) rfl (rl' Tryz.isAgg24 Tryz.sizeOf24) (rval_tmp rfl) (rval_tmp rfl) (Fin.wk (r := .tup [.agg [lv []], iv (-1), iv 1]) (by simp) trivial trivial) ?_
   exact ⟨rfl, rfl⟩
  cases hc1
end Go.Proofs.YtbbnllojhjlaoaaGreat
end
section
set_option linter.unusedVariables false
set_option linter.unusedSimpArgs false
namespace Go.Abs
open Go.Proofs
/-- New blocks behind all others. -/
theorem Rel.grown {I : Nat → Prop} {ι : Plc} {H : Heap} {w : World} (os : Array Obj) (hr : Rel I ι H w) : Rel I ι H (Sort.grow w os) ∧ Step I ι H w I ι H (Sort.grow w os) := by
  have hk : ∀ b, b < w.heap.size → (Sort.grow w os).heap[b]? = w.heap[b]? := fun b hb => by
    show (w.heap ++ os)[b]? = _
    rw [Array.getElem?_append_left hb]
  have hst : Step I ι H w I ι H (Sort.grow w os) := by
    refine ⟨rfl, rfl, rfl, ?_, fun a ha _ => ?_, fun _ h => h, fun _ h => .inl h, fun _ h => .inl h, fun b hb _ => hk b hb, fun _ o h => ⟨o, h, Nat.le_refl _, fun _ => ⟨rfl, rfl, fun _ => Nat.le_refl _⟩⟩⟩
    · show w.heap.size ≤ (w.heap ++ os).size
      simp
    · unfold World.frozen?
      rw [hk _ ha]
  refine ⟨⟨fun b hb => ?_, fun j o hj => ?_, hr.inj⟩, hst⟩
  · have := hr.imm b hb
    show b < (w.heap ++ os).size
    simp; omega
  · exact (hr.obj j o hj).keep rfl (fun b c _ hb => ⟨hk b hb, fun h => h⟩) (fun r _ a _ v hv => hv.mono hr hst)
def strRows (l : List ByteArray) : List (List AV) := l.map fun s => [.pv (.str s)]
def toU (s : ByteArray) : List UInt8 := s.data.toList
def ofU (l : List UInt8) : ByteArray := ⟨l.toArray⟩
theorem ofU_toU (s : ByteArray) : ofU (toU s) = s := by
  cases s; simp [ofU, toU]
/-- The texts in order. -/
def sortS (l : List ByteArray) : List ByteArray := ((l.map toU).mergeSort fun x y => decide (x ≤ y)).map ofU
theorem sortS_length (l : List ByteArray) : (sortS l).length = l.length := by simp [sortS, List.length_mergeSort]
theorem map_toU (l : List ByteArray) : (l.map toU).map ofU = l := by
  rw [List.map_map]
  conv => rhs; rw [← List.map_id l]
  exact List.map_congr_left fun s _ => ofU_toU s
theorem sortS_perm (l : List ByteArray) : (sortS l).Perm l := by
  have h := (List.mergeSort_perm (l.map toU) (fun x y => decide (x ≤ y))).map ofU
  rw [map_toU] at h
  exact h
theorem heap_putRow {w : World} {b : Nat} {cs : Array Value} {t : TypeId} {f : Nat × Nat} (h : w.heap[b]? = some (.cells cs t f)) (d : Array (List UInt8)) : (Sort.putRow Proofs.encStr w b 0 d) = w.setRow b (Sort.putCells Proofs.encStr 0 d cs) := by
  unfold Sort.putRow Sort.mapBlock World.setRow
  congr 1
  apply Array.ext_getElem?
  intro k
  simp only [Array.getElem?_modify]
  by_cases e : b = k
  · subst e
    simp [h, Sort.onCells]
  · simp [e]
theorem sort_c {P : Program} {ρ : Shelf.Ren} (Ly : SlLaysM.n6 P ρ) (ss : List ByteArray) {id g n ty : Nat} {H : Heap} (hH : H.get id = some ⟨g, 1, ty, strRows ss⟩) (hn : n = ss.length) (hl : ss.length < 4611686018427387904) :
    ACalls P (ρ.f 6) [.osl id g 0 n] H (fun r H' => r = .tup [] ∧ H' = (id, ⟨g, 1, ty, strRows (sortS ss)⟩) :: H) := by
  subst hn
  intro I ι w vs hr hvl hv
  obtain ⟨v, rfl⟩ : ∃ v, vs = #[v] := by
    match vs, hvl with
    | ⟨[v]⟩, _ => exact ⟨v, rfl⟩
  have h1 := hv 0 v _ rfl rfl
  obtain ⟨_, hcase⟩ := osl_slice h1 hH rfl
  have hrowlen : ∀ r ∈ strRows (sortS ss), r.length = 1 := fun r hr => by
    obtain ⟨s, _, rfl⟩ := List.mem_map.1 hr; rfl
  have g1 : Heap.get ((id, ⟨g, 1, ty, strRows (sortS ss)⟩) :: H) id = some ⟨g, 1, ty, strRows (sortS ss)⟩ := by simp [Heap.get, beq_self]
  have g2 : ∀ j, j ≠ id → Heap.get ((id, ⟨g, 1, ty, strRows (sortS ss)⟩) :: H) j = H.get j := fun j hj => by simp [Heap.get, beq_ne (Ne.symm hj)]
  rcases hcase with ⟨b, cap, oo, c1, c2, c3⟩ | ⟨c1, c2, _, c4⟩
  · have hoo : oo = 0 := by rw [c3 (.inr rfl)]; simp
    subst hoo c2
    have hobj := (hr.obj id _ hH).cells (Nat.succ_pos 0)
    obtain ⟨p1, p2, ⟨b', cap', cs, e1, e2, e3, e4, e5, e5', e6⟩ | ⟨e1, _⟩⟩ := hobj
    · rw [c1] at e1; cases e1
      simp only [Nat.mul_one] at e4 e6
      have hlen : (strRows ss).length = ss.length := by simp [strRows]
      simp only [hlen] at e5
      have hcs : ∀ (i : Nat) (s : ByteArray), ss[i]? = some s → cs[i]? = some (.string s) := fun i s hs => by
        obtain ⟨u, q1, q2, q3⟩ := e6 i [.pv (.str s)] (by rw [strRows, List.getElem?_map, hs]; rfl) 0 _ rfl
        rw [q3.str_inv] at q1
        exact q1
      have hholds : Sort.Holds Proofs.encStr w b 0 (ss.map toU).toArray := by
        intro j hj
        simp only [List.size_toArray, List.length_map] at hj
        refine ⟨?_, ?_⟩
        · have := hcs j _ (List.getElem?_eq_getElem hj)
          rw [Nat.zero_add]
          simp only [World.cell?, e2, this]
          congr 1
          rw [getElem!_pos _ _ (by simpa using hj)]
          simp only [List.getElem_toArray, List.getElem_map]
          show some (Value.string ss[j]) = some (Value.string (ofU (toU ss[j])))
          rw [ofU_toU]
        · simp [World.frozen?, e2]
      have hrun := AnyM.slices_Sort_string Ly b 0 (cap - 0) (ss.map toU) w hholds (Array.getElem?_eq_some_iff.1 e2).1 (by rw [List.length_map]; exact hl)
      rw [List.length_map] at hrun
      refine hrun.mono ?_
      rintro e w' ⟨rfl, n, os, rfl⟩
      obtain ⟨k1, k2⟩ := Rel.drawn (w' := Sort.ahead w n) hr rfl rfl rfl rfl
      have e2' : (Sort.ahead w n).heap[b]? = some (.cells cs ty (0, 0)) := e2
      rw [heap_putRow e2']
      obtain ⟨m1, m2⟩ := Rel.update (H' := (id, ⟨g, 1, ty, strRows (sortS ss)⟩) :: H) (ob' := ⟨g, 1, ty, strRows (sortS ss)⟩) (cs' := Sort.putCells Proofs.encStr 0 ((ss.map toU).mergeSort fun x y => decide (x ≤ y)).toArray cs) k1 hH c1 e2' (Nat.le_refl _) rfl rfl
        (fun _ => by simp [strRows, sortS_length]) (by rw [Sort.putCells]; simp; omega) (by simp only [strRows, List.length_map, sortS_length]; omega) hrowlen (fun i r hi k a hk => by
          rw [strRows, List.getElem?_map] at hi
          obtain ⟨s, hs, rfl⟩ := Option.map_eq_some_iff.1 hi
          cases k with
          | succ k => simp at hk
          | zero =>
            cases hk
            have hil := (List.getElem?_eq_some_iff.1 hs).1
            rw [sortS_length] at hil
            have hics : i < cs.size := by omega
            refine ⟨.string s, ?_, rfl, .pv (.str s)⟩
            rw [Nat.mul_one, Nat.add_zero, Sort.putCells, Array.getElem?_mapIdx, Array.getElem?_eq_getElem hics, Option.map_some]
            have hsz : i < ((ss.map toU).mergeSort fun x y => decide (x ≤ y)).length := by rw [List.length_mergeSort, List.length_map]; exact hil
            rw [if_pos ⟨Nat.zero_le _, by simpa using hsz⟩]
            congr 1
            rw [Nat.sub_zero, getElem!_pos _ _ (by simpa using hsz)]
            rw [sortS, List.getElem?_map] at hs
            obtain ⟨u, hu, rfl⟩ := Option.map_eq_some_iff.1 hs
            simp only [List.getElem_toArray]
            rw [(List.getElem?_eq_some_iff.1 hu).2]
            rfl) g1 g2
      obtain ⟨n1, n2⟩ := Rel.grown os m1
      exact ⟨_, _, I, ι, .tuple #[], rfl, ⟨rfl, rfl⟩, .tup rfl (by simp), n1, (k2.trans m2).trans n2⟩
    · rw [c1] at e1; cases e1
  · subst c2
    have h0 : ss = [] := List.eq_nil_of_length_eq_zero c4
    subst h0
    refine (AnyM.slices_Sort_string_none Ly none 0 w).mono ?_
    rintro e w' ⟨rfl, rfl⟩
    have hg : ∀ j, Heap.get ((id, ⟨g, 1, ty, strRows (sortS [])⟩) :: H) j = H.get j := fun j => by
      by_cases e : j = id
      · subst e
        rw [g1, hH, show sortS [] = [] by simp [sortS]]
      · exact g2 j e
    obtain ⟨k1, k2⟩ := hr.congr hg
    exact ⟨_, _, I, ι, .tuple #[], rfl, ⟨rfl, rfl⟩, .tup rfl (by simp), k1, k2⟩
end Go.Abs
end
section
set_option linter.unusedVariables false
set_option linter.unusedSimpArgs false
namespace Go.Proofs
open Go.RowKit Go.Sort Go.Shelf
def Tryz.sortStr_ren : Go.Shelf.Ren := ⟨fun | 6 => 46 | 8 => 82 | 9 => 81 | 19 => 116 | 20 => 117 | 21 => 107 | 22 => 108 | 23 => 109 | 24 => 110 | 25 => 111 | 26 => 112 | 27 => 113 | 28 => 114 | 29 => 115 | 36 => 136 | 31 => 137 | 32 => 138 | 37 => 139 | 38 => 140 | 39 => 141 | 41 => 148 | n => n, fun | 27 => 33 | 29 => 9 | 3 => 3 | 32 => 106 | 26 => 33 | 0 => 0 | 44 => 141 | 46 => 143 | 4 => 4 | 36 => 134 | 35 => 133 | 41 => 108 | 5 => 5 | 9 => 9 | 53 => 159 | 57 => 163 | 63 => 167 | 64 => 168 | n => n, fun | n => n⟩
theorem Tryz.sortStr : Go.Proofs.SlLaysM.n6 Tryz.prog Tryz.sortStr_ren := {
  mixed := by kernel_rfl
  f6 := ⟨Tryz.f46.name, by decide, Tryz.func46.trans (congrArg some (by kernel_rfl))⟩
  f8 := Tryz.func82.trans (congrArg some (by kernel_rfl))
  f9 := ⟨Tryz.f81.name, by decide, Tryz.func81.trans (congrArg some (by kernel_rfl))⟩
  f19 := Tryz.func116.trans (congrArg some (by kernel_rfl))
  f20 := Tryz.func117.trans (congrArg some (by kernel_rfl))
  f21 := ⟨Tryz.f107.name, by decide, Tryz.func107.trans (congrArg some (by kernel_rfl))⟩
  f22 := ⟨Tryz.f108.name, by decide, Tryz.func108.trans (congrArg some (by kernel_rfl))⟩
  f23 := ⟨Tryz.f109.name, by decide, Tryz.func109.trans (congrArg some (by kernel_rfl))⟩
  f24 := ⟨Tryz.f110.name, by decide, Tryz.func110.trans (congrArg some (by kernel_rfl))⟩
  f25 := ⟨Tryz.f111.name, by decide, Tryz.func111.trans (congrArg some (by kernel_rfl))⟩
  f26 := ⟨Tryz.f112.name, by decide, Tryz.func112.trans (congrArg some (by kernel_rfl))⟩
  f27 := ⟨Tryz.f113.name, by decide, Tryz.func113.trans (congrArg some (by kernel_rfl))⟩
  f28 := ⟨Tryz.f114.name, by decide, Tryz.func114.trans (congrArg some (by kernel_rfl))⟩
  f29 := ⟨Tryz.f115.name, by decide, Tryz.func115.trans (congrArg some (by kernel_rfl))⟩
  f31 := Tryz.func137.trans (congrArg some (by kernel_rfl))
  f32 := Tryz.func138.trans (congrArg some (by kernel_rfl))
  f36 := ⟨Tryz.f136.name, by decide, Tryz.func136.trans (congrArg some (by kernel_rfl))⟩
  f37 := ⟨Tryz.f139.name, by decide, Tryz.func139.trans (congrArg some (by kernel_rfl))⟩
  f38 := ⟨Tryz.f140.name, by decide, Tryz.func140.trans (congrArg some (by kernel_rfl))⟩
  f39 := ⟨Tryz.f141.name, by decide, Tryz.func141.trans (congrArg some (by kernel_rfl))⟩
  f41 := ⟨Tryz.f148.name, by decide, Tryz.func148.trans (congrArg some (by kernel_rfl))⟩
  t0 := Tryz.underlying0
  a0 := Tryz.isAgg0
  z0 := Tryz.sizeOf0
  v0 := Tryz.zeroValue0
  t3 := Tryz.underlying3
  a3 := Tryz.isAgg3
  z3 := Tryz.sizeOf3
  v3 := Tryz.zeroValue3
  t4 := Tryz.underlying4
  a4 := Tryz.isAgg4
  z4 := Tryz.sizeOf4
  v4 := Tryz.zeroValue4
  t5 := Tryz.underlying5
  a5 := Tryz.isAgg5
  z5 := Tryz.sizeOf5
  v5 := Tryz.zeroValue5
  t9 := Tryz.underlying9
  a9 := Tryz.isAgg9
  z9 := Tryz.sizeOf9
  v9 := Tryz.zeroValue9
  t26 := Tryz.underlying33
  a26 := Tryz.isAgg33
  z26 := Tryz.sizeOf33
  v26 := Tryz.zeroValue33
  t27 := Tryz.underlying33
  a27 := Tryz.isAgg33
  z27 := Tryz.sizeOf33
  v27 := Tryz.zeroValue33
  t29 := Tryz.underlying9
  a29 := Tryz.isAgg9
  z29 := Tryz.sizeOf9
  v29 := Tryz.zeroValue9
  t32 := Tryz.underlying106
  a32 := Tryz.isAgg106
  z32 := Tryz.sizeOf106
  v32 := Tryz.zeroValue106
  t35 := Tryz.underlying133
  a35 := Tryz.isAgg133
  z35 := Tryz.sizeOf133
  v35 := Tryz.zeroValue133
  t36 := Tryz.underlying134
  a36 := Tryz.isAgg134
  z36 := Tryz.sizeOf134
  v36 := Tryz.zeroValue134
  t41 := Tryz.underlying108
  a41 := Tryz.isAgg108
  z41 := Tryz.sizeOf108
  v41 := Tryz.zeroValue108
  t44 := Tryz.underlying141
  a44 := Tryz.isAgg141
  z44 := Tryz.sizeOf141
  v44 := Tryz.zeroValue141
  t46 := Tryz.underlying143
  a46 := Tryz.isAgg143
  z46 := Tryz.sizeOf143
  v46 := Tryz.zeroValue143
  t53 := Tryz.underlying159
  a53 := Tryz.isAgg159
  z53 := Tryz.sizeOf159
  v53 := Tryz.zeroValue159
  t57 := Tryz.underlying163
  a57 := Tryz.isAgg163
  z57 := Tryz.sizeOf163
  v57 := Tryz.zeroValue163
  t63 := Tryz.underlying167
  a63 := Tryz.isAgg167
  z63 := Tryz.sizeOf167
  v63 := Tryz.zeroValue167
  t64 := Tryz.underlying168
  a64 := Tryz.isAgg168
  z64 := Tryz.sizeOf168
  v64 := Tryz.zeroValue168 }
end Go.Proofs
namespace Go.Proofs.YtbbnllojhjlaoaaGreat
open Go.Abs
theorem sortStr_c (ss : List ByteArray) {id g n ty : Nat} {H : Heap} (hH : H.get id = some ⟨g, 1, ty, strRows ss⟩) (hn : n = ss.length) (hl : ss.length < 4611686018427387904) :
    ACalls Tryz.prog 46 [.osl id g 0 n] H (fun r H' => r = .tup [] ∧ H' = (id, ⟨g, 1, ty, strRows (sortS ss)⟩) :: H) := sort_c Tryz.sortStr ss hH hn hl
theorem nodup_le : ∀ (n : Nat) (l : List Nat), l.Nodup → (∀ i ∈ l, i < n) → l.length ≤ n
  | 0, l, _, h => by
    cases l with
    | nil => simp
    | cons a l => have := h a (by simp); omega
  | n + 1, l, hd, h => by
    by_cases e : n ∈ l
    · have h1 := nodup_le n (l.erase n) (hd.erase n) (fun i hi => by
        rw [hd.mem_erase_iff] at hi
        have := h i hi.2
        omega)
      rw [List.length_erase_of_mem e] at h1
      have := List.length_pos_of_mem e
      omega
    · have := nodup_le n l hd (fun i hi => by
        have h2 := h i hi
        have : i ≠ n := fun e2 => e (e2 ▸ hi)
        omega)
      omega
/-- What has come of a list, by places. -/
def pick (L : List ByteArray) (seen : List Nat) : List ByteArray := seen.map fun i => (L[i]?).getD ⟨#[]⟩
theorem pick_all {L : List ByteArray} {seen : List Nat} (hd : seen.Nodup) (h1 : ∀ i ∈ seen, i < L.length) (h2 : ∀ i, i < L.length → i ∈ seen) : (pick L seen).Perm L := by
  have hp : seen.Perm (List.range L.length) := (List.perm_ext_iff_of_nodup hd List.nodup_range).2 fun a => ⟨fun h => List.mem_range.2 (h1 a h), fun h => h2 a (List.mem_range.1 h)⟩
  have h3 := hp.map (fun i => (L[i]?).getD ⟨#[]⟩)
  have h4 : (List.range L.length).map (fun i => (L[i]?).getD ⟨#[]⟩) = L := by
    apply List.ext_getElem
    · simp
    · intro i h5 h6
      simp [h6]
  rw [h4] at h3
  exact h3
theorem u8_le_total (a b : List UInt8) : decide (a ≤ b) || decide (b ≤ a) := by
  rcases List.le_total a b with h | h <;> simp [h]
theorem sortS_eq {a b : List ByteArray} (h : a.Perm b) : sortS a = sortS b := by
  unfold sortS
  congr 1
  have hs : ∀ l : List ByteArray, ((l.map toU).mergeSort fun x y => decide (x ≤ y)).Pairwise (fun x y => decide (x ≤ y) = true) := fun l =>
    List.pairwise_mergeSort (le := fun (x y : List UInt8) => decide (x ≤ y)) (fun a b c h1 h2 => decide_eq_true (List.le_trans (of_decide_eq_true h1) (of_decide_eq_true h2))) u8_le_total _
  exact List.Perm.eq_of_pairwise (fun x y _ _ h3 h4 => List.le_antisymm (of_decide_eq_true h3) (of_decide_eq_true h4)) (hs a) (hs b) (((List.mergeSort_perm _ _).trans (h.map toU)).trans (List.mergeSort_perm _ _).symm)
end Go.Proofs.YtbbnllojhjlaoaaGreat
end
section
set_option linter.unusedVariables false
set_option linter.unusedSimpArgs false
set_option maxRecDepth 100000
namespace Go.Proofs.YtbbnllojhjlaoaaGreat
open Go.Abs
theorem sobN_clo (l : List ByteArray) (H : Heap) : ∀ r ∈ (sob l).rows, ∀ a ∈ r, Clo H a := by
 intro r hr a ha
 obtain ⟨i, hi⟩ := List.mem_iff_getElem?.1 hr
 obtain ⟨p, hp, rfl⟩ := mrows_get.1 hi
 simp only [sets, List.getElem?_map] at hp
 obtain ⟨q, _, rfl⟩ := Option.map_eq_some_iff.1 hp
 simp only [List.mem_cons, List.not_mem_nil, or_false] at ha
 rcases ha with rfl | rfl | rfl <;> simp
theorem irowsN_clo {H : Heap} {id g : Nat} (h : (H.get id).isSome = true) (a b : Nat) (l : List Nat) : ∀ r ∈ irows (.mp id g) a b l, ∀ x ∈ r, Clo H x := by
 intro r hr x hx
 rw [irows] at hr
 rcases List.mem_cons.1 hr with rfl | hr
 ·simp only [List.mem_cons, List.not_mem_nil, or_false] at hx
  rcases hx with rfl | rfl | rfl
  ·exact .mp h
  ·exact .pv _
  exact .pv _
 obtain ⟨n, _, rfl⟩ := List.mem_map.1 hr
 rw [List.mem_singleton] at hx
 subst hx
 exact .pv _
theorem rowsN_of {α : Type} (f : α → List PV) (l : List α) : l.map (fun e => (f e).map AV.pv) = (l.map f).map (·.map .pv) := by rw [List.map_map]; rfl
theorem lenN_snoc {α : Type} (l : List α) (a : α) : l.length + 1 = (l ++ [a]).length := by simp
def addAll (L l : List ByteArray) : List ByteArray := l.foldl sput L
theorem front_get {H : Heap} {id : Nat} {o : Ob} (h : H.get id = some o) (j : Nat) : Heap.get ((id, o) :: H) j = H.get j := by
 by_cases e : j = id
 ·subst e; rw [get_cons_same, h]
 exact get_cons_other _ _ e
theorem names1E_c (L l : List ByteArray) (T : Nat) (H : Heap) (h3 : H.get 3 = some (bx 1 T [.mp 10 0])) (h10 : H.get 10 = some (sob L)) (hl : l.length < 4611686018427387904) :
  ACalls Tryz.prog 45 [.pv (slStrs l), .ref 3 0 0 0] H (fun r H' => r = .tup [] ∧ H' = (10, sob (addAll L l)) :: H) := by
 have hml : (l.map encStr).length = l.length := List.length_map _
 refine Bd Tryz.func45 rfl Tryz.ntmps45<|Sq<|Rg<|Dd mv'<|Dd (ll' Tryz.underlying33)<|Dd mv'<|Zz<|awp_block ?_
 refine awp_loop (σ := Nat) (fun k => ([(1, .ref 3 0 0 0), (5, .pv (slStrs l)), (6, iv ((l.map encStr).length : Int)), (7, iv (k : Int))], (10, sob (addAll L (l.take k))) :: H)) (fun k => k ≤ l.length) (fun k => l.length - k) 0 (by omega) ?_ ?_
 ·exact Ent.get' ⟨⟨_, rfl, rfl⟩, ⟨_, rfl, rfl⟩, ⟨_, rfl, rfl⟩, ⟨_, rfl, rfl⟩, trivial⟩ (front_get h10)
 intro k hk
 have h3' : Heap.get ((10, sob (addAll L (l.take k))) :: H) 3 = some (bx 1 T [.mp 10 0]) := h3
 refine Sq<|Rg<|Dd lss'<|Zz<|Sq ?_
 refine Cn (fun hc1 => ?_) fun hc1 => ?_
 ·have hlt : k < l.length := by have := of_decide_eq_true hc1; omega
  obtain ⟨s, hs⟩ := get_of_lt hlt
  have hi := map_get (f := encStr) hs
  have hst : addAll L (l.take (k + 1)) = sput (addAll L (l.take k)) s := by rw [addAll, List.take_add_one, hs, List.foldl_append]; rfl
  refine awp_skip<|Sq<|awp_block<|Sq<|Rg<|Dd (xp' so33)<|Dd (lp' Tryz.isAgg9)<|Dd as'<|Zz<|Rg<|Dd (by exact opd_load1_ref rfl Tryz.isAgg75 rfl h3' rfl rfl rfl)<|Dd mv'<|Uu (by exact x_put_set (.inl rfl) Tryz.underlying75 Tryz.underlying9 rfl rfl rfl rfl rfl rfl rfl)<|Zz<|Rg<|Dd ad'<|Dd mv'<|Zz ?_
  refine ⟨k + 1, by omega, by omega, ?_⟩
  rw [hst]
  exact Ent.dup ⟨⟨_, rfl, rfl⟩, ⟨_, rfl, rfl⟩, ⟨_, rfl, rfl⟩, ⟨_, rfl, rfl⟩, trivial⟩
 have hge : k = l.length := by have := of_decide_eq_false hc1; omega
 subst hge
 rw [List.take_length]
 refine awp_exit ?_
 exact aret0 (.inl rfl) rfl Fin.refl ⟨rfl, rfl⟩
def nonE (s : ByteArray) : Bool := !decide (s = sNil)
/-- All Ids that an edit mentions, with what is empty, once each. -/
def idsOf (e : GEdit) : List ByteArray := addAll (addAll (addAll [] [e.id, e.other, e.node, e.obj.id]) e.refs) e.obj.refs
def gNames (e : GEdit) : List ByteArray := if gEditV e then sortS ((idsOf e).filter nonE) else []
theorem addAll_len : ∀ (l L : List ByteArray), (addAll L l).length ≤ L.length + l.length
 | [], L => by simp [addAll]
 | s :: l, L => by
  have := addAll_len l (sput L s)
  have h2 : (sput L s).length ≤ L.length + 1 := by
   unfold sput
   split
   ·omega
   simp
  rw [addAll, List.foldl_cons] at *
  simp only [List.length_cons]
  omega
abbrev strN (l : List ByteArray) : List (List AV) := l.map (fun e => (encStr e).map .pv)
theorem pickN_snoc {L : List ByteArray} {seen : List Nat} {i : Nat} {s : ByteArray} (h : L[i]? = some s) : pick L (seen ++ [i]) = pick L seen ++ [s] := by
 simp only [pick, List.map_append, List.map_cons, List.map_nil, h, Option.getD_some]
theorem names_cE (e : GEdit) (H : Heap) (he : okE e) (hsz : e.refs.length + e.obj.refs.length < 1099511627776) : ACalls Tryz.prog 15 [av (encEdit e)] H (fun r H' => r = .pv (slStrs (gNames e)) ∧ H' = H) := by
 refine ACalls.pure ?_ (by simp) H
 have he' := he
 obtain ⟨⟨h1, h2, h3, h4⟩, ⟨h5, h6⟩, h7⟩ := he'
 rw [gNames]
 refine Bd Tryz.func15 rfl Tryz.ntmps15<|Sq<|Rg<|Dd (by exact opd_box (id := 1) rfl rfl rfl rfl rfl)<|Dd as'<|Zz<|Sq<|Sq<|Rg<|Dd (ln' Tryz.isAgg38 Tryz.sizeOf38)<|Dd (by exact opr_call rfl rfl Tryz.call12 rfl (editValid_c e _ he))<|Dd no'<|Zz ?_
 refine Cn (fun hc1 => ?_) fun hc1 => ?_
 ·have hf : gEditV e = false := by
   have h := hc1
   simpa using h
  rw [hf, if_neg (by simp)]
  refine Sq<|Rg<|Dd as'<|Zz<|awp_ret ?_
  refine Rt ?_
  exact ⟨rfl, rfl⟩
 have hv : gEditV e = true := by
  have h := hc1
  simpa using h
 rw [if_pos hv]
 obtain ⟨L, hL⟩ : ∃ L, L = idsOf e := ⟨_, rfl⟩
 have hsl : L.length < 1099511627780 := by
  have q1 := addAll_len e.obj.refs (addAll (addAll [] [e.id, e.other, e.node, e.obj.id]) e.refs)
  have q2 := addAll_len e.refs (addAll [] [e.id, e.other, e.node, e.obj.id])
  have q3 := addAll_len [e.id, e.other, e.node, e.obj.id] []
  simp only [List.length_cons, List.length_nil] at q3
  rw [hL, idsOf]
  omega
 refine awp_skip<|Sq<|Rg<|Dd (by exact opd_makeMap (id := 10) strK rfl rfl)<|Dd (by exact x_alloc (id := 3) rfl zo75 rfl rfl)<|Uu (sa' Tryz.sizeOf75)<|Zz<|Sq<|Rg<|Dd (by exact opd_makeFunc rfl rfl)<|Dd as'<|Zz<|Sq<|Rg<|Dd mv'<|Dd (fr' fo38_1)<|Dd (l1' Tryz.isAgg9)<|Dd (fr' fo38_2)<|Dd (l1' Tryz.isAgg9)<|Dd (fr' fo38_3)<|Dd (l1' Tryz.isAgg9)<|Dd (fr' fo38_8)<|Dd (fr' fo36_0)<|Dd (l1' Tryz.isAgg9)<|Dd (by exact x_buildSlice ([e.id, e.other, e.node, e.obj.id].map encStr) rfl so33 rfl rfl rfl rfl rfl (by simp [encStr]))<|Dd (by exact opr_callV rfl rfl rfl (CallsV.clo Tryz.call45 (names1E_c [] [e.id, e.other, e.node, e.obj.id] 75 _ rfl rfl (by show 4 < _; omega))))<|Zz<|Sq<|Rg<|Dd mv'<|Dd (fr' fo38_7)<|Dd (l1' Tryz.isAgg33)<|Dd (by exact opr_callV rfl rfl rfl (CallsV.clo Tryz.call45 (names1E_c (addAll [] [e.id, e.other, e.node, e.obj.id]) e.refs 75 _ rfl rfl h5)))<|Zz<|Sq<|Rg<|Dd mv'<|Dd (fr' fo38_8) ?_
 refine Dd (fr' fo36_3)<|Dd (l1' Tryz.isAgg33)<|Dd (by exact opr_callV rfl rfl rfl (CallsV.clo Tryz.call45 (names1E_c (addAll (addAll [] [e.id, e.other, e.node, e.obj.id]) e.refs) e.obj.refs 75 _ rfl rfl h7.2.2.1)))<|Zz<|Sq<|Rg<|Dd (by exact opd_assign_own (id := 5) (sz := 1) (ty := 9) rfl rfl rfl)<|Zz<|Sq<|Sq<|Rg<|Dd (l1' Tryz.isAgg75)<|Dd (by exact opd_range (q := 34) (κ := strK) rfl Tryz.underlying75 rfl rfl rfl rfl rfl rfl)<|Zz<|awp_block ?_
 rw [idsOf] at hL
 rw [← idsOf, ← hL.trans (idsOf.eq_1 e).symm]
 refine awp_loop2 (fun (seen : List Nat) (g : Nat) => ([(5, .osl 5 g 0 ((pick L seen).filter nonE).length), (34, .it 34 0)], [(34, ⟨0, 0, 0, irows (.mp 10 0) (sets L).length (sets L).length seen⟩), (5, ⟨g, 1, 9, strN ((pick L seen).filter nonE)⟩), (10, sob L)])) (fun seen g => seen.Nodup ∧ ∀ i ∈ seen, i < L.length) (fun seen g => L.length - seen.length) [] 0 ⟨.nil, by simp⟩ ?_ ?_
 ·rw [hL]
  exact (Ent.wk ⟨⟨_, rfl, rfl⟩, (by (simp; rfl)), ⟨_, rfl, rfl⟩, (by (simp; rfl)), trivial⟩ ⟨⟨_, rfl, rfl⟩, (by exact irowsN_clo rfl _ _ _), ⟨_, rfl, rfl⟩, (by exact clo_map _ _ _), ⟨_, rfl, rfl⟩, (by exact sobN_clo _ _), trivial⟩ trivial)
 rintro seen g ⟨hnd, hlt⟩
 have hse := nodup_le L.length seen hnd hlt
 have hfl : ((pick L seen).filter nonE).length ≤ seen.length := by have := List.length_filter_le nonE (pick L seen); rw [pick, List.length_map] at this; exact this
 refine Sq<|Rg ?_
 refine al_r rfl rfl (opr_next (κ := strK) rfl rfl rfl rfl rfl rfl rfl rfl rfl (by omega) (by omega)) ?_
 rintro _ _ (⟨rfl, rfl, hn0⟩ | ⟨hni, hnp, hn1, hn2, rfl, rfl⟩)
 ·skip
  refine Dd ex'<|Zz<|Sq ?_
  refine Cn (fun hc2 => ?_) fun hc2 => ?_
  ·cases hc2
  skip
  have hpm := pick_all (L := L) hnd hlt (fun i hi => hn0 i (by rw [sets_length]; exact hi))
  refine awp_exit<|Sq<|Rg<|Dd mv'<|Dd (by exact opr_call rfl rfl Tryz.call46 rfl (sortStr_c ((pick L seen).filter nonE) (id := 5) (g := g) (ty := 9) rfl rfl (by omega)))<|Zz<|Sq<|Rg<|Dd mv'<|Dd as'<|Zz<|awp_ret ?_
  rw [← sortS_eq (hpm.filter nonE)]
  refine aret1 (H' := []) (.inr rfl) rfl (rval_tmp rfl) (Fin.slice0 (id := 5) ((sortS ((pick L seen).filter nonE)).map encStr) rfl rfl (rowsN_of encStr _) (by rw [List.length_map, sortS_length])) ⟨rfl, rfl⟩
 skip
 refine Dd ex'<|Zz<|Sq ?_
 refine Cn (fun hc3 => ?_) fun hc3 => ?_
 ·have hlen := (List.getElem?_eq_some_iff.1 hn1).1
  rw [sets_length] at hlen
  obtain ⟨s, hs⟩ := get_of_lt hlen
  have hp : hnp = (s, bv true) := by
   rw [sets, List.getElem?_map, hs] at hn1
   exact (Option.some.inj hn1).symm
  subst hp
  have hnd2 : (seen ++ [hni]).Nodup := List.nodup_append.2 ⟨hnd, by simp, fun a ha b hb e => by rw [List.mem_singleton] at hb; subst hb; subst e; exact hn2 ha⟩
  have hlt2 : ∀ i ∈ seen ++ [hni], i < L.length := fun i hi => by
   rcases List.mem_append.1 hi with hi | hi
   ·exact hlt i hi
   rw [List.mem_singleton] at hi; subst hi; exact hlen
  have hmu : L.length - (seen ++ [hni]).length < L.length - seen.length := by
   have := nodup_le L.length (seen ++ [hni]) hnd2 hlt2
   simp only [List.length_append, List.length_cons, List.length_nil] at this ⊢
   omega
  have hpk : (pick L (seen ++ [hni])).filter nonE = (pick L seen).filter nonE ++ [s].filter nonE := by rw [pickN_snoc hs, List.filter_append]
  refine awp_skip<|awp_block<|Sq<|Rg<|Dd (by exact opd_entry rfl rfl rfl rfl rfl rfl rfl rfl rfl hn1)<|Dd ex'<|Dd as'<|Zz<|Sq<|Rg<|Dd mv'<|Dd sn'<|Zz ?_
  refine Cn (fun hc4 => ?_) fun hc4 => ?_
  ·have hns : nonE s = true := hc4
   have hpk2 : (pick L (seen ++ [hni])).filter nonE = (pick L seen).filter nonE ++ [s] := by rw [hpk, List.filter_cons, hns]; rfl
   refine Rg<|Dd mv'<|Dd mv'<|Dd (by exact x_buildSlice [encStr s] rfl so33 rfl rfl rfl rfl rfl (by simp [encStr]))<|Dd (by exact x_append rfl so33 ei9 rfl rfl rfl rfl rfl (List.length_map _) rfl (by simp [encStr]) (rfl : _ = 1) (by omega) (lenN_snoc _ s) ((List.map_append (l₂ := [s])).symm))<|Dd as'<|Zz ?_
   refine ⟨seen ++ [hni], g + 1, ⟨hnd2, hlt2⟩, hmu, ?_⟩
   rw [hpk2]
   exact (Ent.wk ⟨⟨_, rfl, rfl⟩, (by (simp; rfl)), ⟨_, rfl, rfl⟩, (by (simp; rfl)), trivial⟩ ⟨⟨_, rfl, rfl⟩, (by exact irowsN_clo rfl _ _ _), ⟨_, rfl, rfl⟩, (by exact clo_map _ _ _), ⟨_, rfl, rfl⟩, (by exact sobN_clo _ _), trivial⟩ trivial)
  have hns : nonE s = false := hc4
  have hpk2 : (pick L (seen ++ [hni])).filter nonE = (pick L seen).filter nonE := by rw [hpk, List.filter_cons, hns]; simp
  refine awp_skip ?_
  refine ⟨seen ++ [hni], g, ⟨hnd2, hlt2⟩, hmu, ?_⟩
  rw [hpk2]
  exact (Ent.wk ⟨⟨_, rfl, rfl⟩, (by (simp; rfl)), ⟨_, rfl, rfl⟩, (by (simp; rfl)), trivial⟩ ⟨⟨_, rfl, rfl⟩, (by exact irowsN_clo rfl _ _ _), ⟨_, rfl, rfl⟩, (by exact clo_map _ _ _), ⟨_, rfl, rfl⟩, (by exact sobN_clo _ _), trivial⟩ trivial)
 cases hc3
end Go.Proofs.YtbbnllojhjlaoaaGreat
end
section
set_option linter.unusedVariables false
set_option linter.unusedSimpArgs false
set_option maxRecDepth 100000
namespace Go.Proofs.YtbbnllojhjlaoaaGreat
open Go.Abs
theorem rLetter_c (n : Int) (H : Heap) : ACalls Tryz.prog 80 [.pv (.int .u8 n)] H (fun r H' => r = bv (isLet n) ∧ H' = H) := by
 refine ACalls.pure ?_ (by simp) H
 refine Bd Tryz.func80 rfl Tryz.ntmps80<|Sq<|Rg<|Dd as'<|Zz<|Sq ?_
 refine awp_bool (t := 2) (n := 18) (X := isLet n) ?_ ?_
 ·all_goals refine Dd mv' ?_
  all_goals refine Dd ge' ?_
  all_goals refine Dd mv' ?_
  all_goals refine Sp 5 (fun h5 => ?_) fun h5 => ?_
  all_goals try contradiction
  all_goals first | refine Fo ?_ | refine On mv' ?_
  all_goals first | refine Fo ?_ | refine On le' ?_
  all_goals refine Dd pk' ?_
  all_goals refine Dd mv' ?_
  all_goals refine Sp 9 (fun h9 => ?_) fun h9 => ?_
  all_goals try contradiction
  all_goals first | refine Fo ?_ | refine On mv' ?_
  all_goals first | refine Fo ?_ | refine On ge' ?_
  all_goals first | refine Fo ?_ | refine On mv' ?_
  all_goals (first | refine Sp 12 (fun h12 => ?_) fun h12 => ?_ | refine al_dup (t := 12) rfl ?_)
  all_goals try contradiction
  all_goals first | refine Fo ?_ | refine Fu ?_ | refine On mv' ?_
  all_goals first | refine Fo ?_ | refine Fu ?_ | refine On le' ?_
  all_goals first | refine Fo ?_ | refine On pk' ?_
  all_goals refine Dd pk' ?_
  all_goals refine Dd as' ?_
  all_goals refine al_nil ?_
  all_goals (exact ⟨⟨_, rfl, by (simp only [isLet, *]; rfl)⟩, rfl, rfl, rfl⟩)
 refine awp_ret ?_
 refine Rt ?_
 exact ⟨rfl, rfl⟩
theorem rDigit_c (n : Int) (H : Heap) : ACalls Tryz.prog 106 [.pv (.int .u8 n)] H (fun r H' => r = bv (isDig n) ∧ H' = H) := by
 refine ACalls.pure ?_ (by simp) H
 refine Bd Tryz.func106 rfl Tryz.ntmps106<|Sq<|Rg<|Dd as'<|Zz<|Sq ?_
 refine awp_bool (t := 2) (n := 8) (X := isDig n) ?_ ?_
 ·all_goals refine Dd mv' ?_
  all_goals refine Dd ge' ?_
  all_goals refine Dd mv' ?_
  all_goals refine Sp 5 (fun h5 => ?_) fun h5 => ?_
  all_goals try contradiction
  all_goals first | refine Fo ?_ | refine On mv' ?_
  all_goals first | refine Fo ?_ | refine On le' ?_
  all_goals refine Dd pk' ?_
  all_goals refine Dd as' ?_
  all_goals refine al_nil ?_
  all_goals (exact ⟨⟨_, rfl, by (simp only [isDig, *]; rfl)⟩, rfl, rfl, rfl⟩)
 refine awp_ret ?_
 refine Rt ?_
 exact ⟨rfl, rfl⟩
def isW (n : Int) : Bool := (isLet n || isDig n) || decide (n = 95)
theorem rWord_c (n : Int) (H : Heap) : ACalls Tryz.prog 79 [.pv (.int .u8 n)] H (fun r H' => r = bv (isW n) ∧ H' = H) := by
 refine ACalls.pure ?_ (by simp) H
 refine Bd Tryz.func79 rfl Tryz.ntmps79<|Sq<|Rg<|Dd as'<|Zz<|Sq ?_
 refine awp_bool (t := 2) (n := 13) (X := isW n) ?_ ?_
 ·all_goals refine Dd mv' ?_
  all_goals refine Dd (by exact opr_call rfl rfl Tryz.call80 rfl (rLetter_c n _)) ?_
  all_goals refine Dd mv' ?_
  all_goals refine Sp 5 (fun h5 => ?_) fun h5 => ?_
  all_goals try contradiction
  all_goals first | refine Fo ?_ | refine On mv' ?_
  all_goals first | refine Fo ?_ | refine On (by exact opr_call rfl rfl Tryz.call106 rfl (rDigit_c n _)) ?_
  all_goals refine Dd pk' ?_
  all_goals refine Dd mv' ?_
  all_goals refine Sp 9 (fun h9 => ?_) fun h9 => ?_
  all_goals try contradiction
  all_goals first | refine Fo ?_ | refine On mv' ?_
  all_goals first | refine Fo ?_ | refine On eql' ?_
  all_goals refine Dd pk' ?_
  all_goals refine Dd as' ?_
  all_goals refine al_nil ?_
  all_goals (exact ⟨⟨_, rfl, by (simp only [isW, *]; rfl)⟩, rfl, rfl, rfl⟩)
 refine awp_ret ?_
 refine Rt ?_
 exact ⟨rfl, rfl⟩
theorem cls_all : ∀ n : Fin 256, (decide (cls (n.val : Int) = 3) = isLet (n.val : Int)) ∧ (decide (cls (n.val : Int) = 4) = isDig (n.val : Int)) ∧ (decide (cls (n.val : Int) = 5) = decide ((n.val : Int) = 95)) := by decide +kernel
theorem cls_eq (s : ByteArray) (k : Nat) : (decide (cls (byteAt s k) = 3) = isLet (byteAt s k)) ∧ (decide (cls (byteAt s k) = 4) = isDig (byteAt s k)) ∧ (decide (cls (byteAt s k) = 5) = decide (byteAt s k = 95)) := by
 have h := cls_all ⟨(byteAt s k).toNat, byteAt_lt s k⟩
 simp only [Int.toNat_of_nonneg (byteAt_nn s k)] at h
 exact h
def badW (s : ByteArray) (k : Nat) : Bool := !isW (byteAt s k)
def rName (s : ByteArray) : Bool := !((List.range s.size).any (badW s)) && (decide ((0 : Int) < (s.size : Int)) && decide ((s.size : Int) ≤ 24) && isLet (byteAt s 0))
theorem sNil_iff {s : ByteArray} : s = sNil ↔ s.size = 0 := by
 constructor
 ·rintro rfl; rfl
 intro h; exact ByteArray.ext (Array.eq_empty_of_size_eq_zero h)
theorem rName_eq (s : ByteArray) : rName s = gName s := by
 have hb : ∀ k, badC s k = (!isLet (byteAt s k) && (decide ((k : Int) = 0) || (!isDig (byteAt s k) && !decide (byteAt s k = 95)))) := fun k => by
  obtain ⟨a, b, c⟩ := cls_eq s k
  rw [badC, a, b, c]
 rw [Bool.eq_iff_iff, rName, gName]
 simp only [Bool.and_eq_true, Bool.not_eq_true', decide_eq_true_eq, decide_eq_false_iff_not, List.any_eq_false, List.mem_range, sNil_iff, badW, hb]
 constructor
 ·rintro ⟨h1, ⟨h2, h3⟩, h4⟩
  refine ⟨fun k hk => ?_, by omega, h3⟩
  have := h1 k hk
  by_cases k0 : k = 0
  ·subst k0; simp [h4]
  have hw : isW (byteAt s k) = true := by
   cases e : isW (byteAt s k) with
   | true => rfl
   | false => exact absurd e this
  simp only [isW, Bool.or_eq_true, decide_eq_true_eq] at hw
  rcases hw with (h | h) | h
  ·simp [h]
  ·simp [h, k0]
  simp [h, k0]
 rintro ⟨h1, h2, h3⟩
 refine ⟨fun k hk => ?_, ⟨by omega, h3⟩, ?_⟩
 ·have := h1 k hk
  intro hw
  apply this
  simp only [isW, Bool.not_eq_true', Bool.or_eq_false_iff] at hw
  simp [hw.1.1, hw.1.2, hw.2]
 have := h1 0 (by omega)
 cases hl : isLet (byteAt s 0) with
 | true => rfl
 | false => exact absurd (by simp [hl]) this
theorem rName0_c (s : ByteArray) (H : Heap) (hs : s.size < 4611686018427387904) : ACalls Tryz.prog 43 [sv s] H (fun r H' => r = bv (rName s) ∧ H' = H) := by
 refine ACalls.pure ?_ (by simp) H
 refine Bd Tryz.func43 rfl Tryz.ntmps43<|Sq<|Rg<|Dd as'<|Zz<|Sq<|Sq<|Rg<|Dd as'<|Zz<|awp_block ?_
 refine awp_loop (σ := Nat) (fun k => ([(0, sv s), (3, iv (k : Int))], [])) (fun k => k ≤ s.size ∧ ∀ j, j < k → badW s j = false) (fun k => s.size - k) 0 ⟨by omega, by omega⟩ ?_ ?_
 ·exact E0
 rintro k ⟨hk, hno⟩
 refine Sq<|Sq<|Rg<|Dd mv'<|Dd mv'<|Dd (ls' Tryz.underlying9)<|Dd lss'<|Zz ?_
 refine Cn (fun hc1 => ?_) fun hc1 => ?_
 ·have hlt : k < s.size := by have := of_decide_eq_true hc1; omega
  refine awp_skip<|Sq<|awp_block<|Sq<|Rg<|Dd mv'<|Dd mv'<|Dd (by exact opd_index_str rfl Tryz.underlying9 rfl rfl (by omega) (by exact Int.toNat_natCast _) (by omega) rfl)<|Dd (by exact opr_call rfl rfl Tryz.call79 rfl (rWord_c (byteAt s k) _))<|Dd no'<|Zz ?_
  refine Cn (fun hc2 => ?_) fun hc2 => ?_
  ·have hb : badW s k = true := hc2
   refine Sq<|Rg<|Dd as'<|Zz<|awp_ret ?_
   refine Rt ?_
   exact ⟨by rw [rName, range_some hlt hb]; rfl, rfl⟩
  skip
  refine awp_skip<|Rg<|Dd mv'<|Dd ad'<|Dd as'<|Zz ?_
  refine ⟨k + 1, ⟨by omega, fun j hj => ?_⟩, by omega, E0⟩
  by_cases e : j = k
  ·subst e; exact hc2
  exact hno j (by omega)
 have hge : k = s.size := by have := of_decide_eq_false hc1; omega
 have hr : rName s = (decide ((0 : Int) < (s.size : Int)) && decide ((s.size : Int) ≤ 24) && isLet (byteAt s 0)) := by
  subst hge
  rw [rName, range_any hno]; rfl
 rw [hr]
 clear hr
 by_cases h0 : (0 : Int) < (s.size : Int)
 ·have d0 := decide_eq_true h0
  have h00 : 0 < s.size := by omega
  rw [d0, Bool.true_and]
  by_cases h24 : (s.size : Int) ≤ 24
  ·have d1 := decide_eq_true h24
   rw [d1, Bool.true_and]
   refine awp_exit<|Sq<|Rg<|Dd mv'<|Dd (ls' Tryz.underlying9)<|Dd gt'<|Dd mv' ?_
   refine al_ond rfl rfl rfl (by assumption) rfl rfl (by exact opd_move rfl rfl) ?_
   refine al_ond rfl rfl rfl (by assumption) rfl rfl (by exact opd_len_str rfl Tryz.underlying9 rfl) ?_
   refine al_ond rfl rfl rfl (by assumption) rfl rfl (by exact opd_leq rfl rfl rfl) ?_
   refine Dd pt'<|Dd mv' ?_
   refine al_ond rfl rfl rfl (by assumption) rfl rfl (by exact opd_move rfl rfl) ?_
   refine al_ond rfl rfl rfl (by assumption) rfl rfl (by exact opd_index_str rfl Tryz.underlying9 rfl rfl (by omega) (by exact Int.toNat_natCast _) (by omega) rfl) ?_
   refine al_ond rfl rfl rfl (by assumption) rfl rfl (by exact opr_call rfl rfl Tryz.call80 rfl (rLetter_c (byteAt s 0) _)) ?_
   refine Dd pt'<|Dd as'<|Zz<|awp_ret ?_
   refine Rt ?_
   exact ⟨rfl, rfl⟩
  have d1 := decide_eq_false h24
  rw [d1]
  refine awp_exit<|Sq<|Rg<|Dd mv'<|Dd (ls' Tryz.underlying9)<|Dd gt'<|Dd mv' ?_
  refine al_ond rfl rfl rfl (by assumption) rfl rfl (by exact opd_move rfl rfl) ?_
  refine al_ond rfl rfl rfl (by assumption) rfl rfl (by exact opd_len_str rfl Tryz.underlying9 rfl) ?_
  refine al_ond rfl rfl rfl (by assumption) rfl rfl (by exact opd_leq rfl rfl rfl) ?_
  refine Dd pt'<|Dd mv' ?_
  refine al_off rfl rfl rfl (by assumption) rfl ?_
  refine al_off rfl rfl rfl (by assumption) rfl ?_
  refine al_off rfl rfl rfl (by assumption) rfl ?_
  refine Dd pf'<|Dd as'<|Zz<|awp_ret ?_
  refine Rt ?_
  exact ⟨rfl, rfl⟩
 have d0 := decide_eq_false h0
 rw [d0]
 refine awp_exit<|Sq<|Rg<|Dd mv'<|Dd (ls' Tryz.underlying9)<|Dd gt'<|Dd mv' ?_
 refine al_off rfl rfl rfl (by assumption) rfl ?_
 refine al_off rfl rfl rfl (by assumption) rfl ?_
 refine al_off rfl rfl rfl (by assumption) rfl ?_
 refine Dd pf'<|Dd mv' ?_
 refine al_off rfl rfl rfl (by rfl) rfl ?_
 refine al_off rfl rfl rfl (by rfl) rfl ?_
 refine al_off rfl rfl rfl (by rfl) rfl ?_
 refine Dd pk'<|Dd as'<|Zz<|awp_ret ?_
 refine Rt ?_
 exact ⟨rfl, rfl⟩
theorem rName_c (s : ByteArray) (H : Heap) (hs : s.size < 4611686018427387904) : ACalls Tryz.prog 43 [sv s] H (fun r H' => r = bv (gName s) ∧ H' = H) := by
 rw [← rName_eq]
 exact rName0_c s H hs
theorem rOn_c (x y : Int) (H : Heap) : ACalls Tryz.prog 44 [.agg [iv x, iv y]] H (fun r H' => r = bv (gOn x y) ∧ H' = H) := by
 refine ACalls.pure ?_ (by simp) H
 refine Bd Tryz.func44 rfl Tryz.ntmps44<|Sq<|Rg<|Dd (by exact opd_box (id := 1) rfl rfl rfl rfl rfl)<|Dd as'<|Zz<|Sq ?_
 refine awp_bool (t := 2) (n := 22) (X := gOn x y) ?_ ?_
 ·all_goals refine Dd (fr' fo32_0) ?_
  all_goals refine Dd (l1' Tryz.isAgg3) ?_
  all_goals refine Dd ge' ?_
  all_goals refine Dd mv' ?_
  all_goals refine Sp 6 (fun h6 => ?_) fun h6 => ?_
  all_goals try contradiction
  all_goals first | refine Fo ?_ | refine On (fr' fo32_0) ?_
  all_goals first | refine Fo ?_ | refine On (l1' Tryz.isAgg3) ?_
  all_goals first | refine Fo ?_ | refine On lss' ?_
  all_goals refine Dd pk' ?_
  all_goals refine Dd mv' ?_
  all_goals refine Sp 11 (fun h11 => ?_) fun h11 => ?_
  all_goals try contradiction
  all_goals first | refine Fo ?_ | refine On (fr' fo32_1) ?_
  all_goals first | refine Fo ?_ | refine On (l1' Tryz.isAgg3) ?_
  all_goals first | refine Fo ?_ | refine On ge' ?_
  all_goals refine Dd pk' ?_
  all_goals refine Dd mv' ?_
  all_goals refine Sp 16 (fun h16 => ?_) fun h16 => ?_
  all_goals try contradiction
  all_goals first | refine Fo ?_ | refine On (fr' fo32_1) ?_
  all_goals first | refine Fo ?_ | refine On (l1' Tryz.isAgg3) ?_
  all_goals first | refine Fo ?_ | refine On lss' ?_
  all_goals refine Dd pk' ?_
  all_goals refine Dd as' ?_
  all_goals refine al_nil ?_
  all_goals (exact ⟨⟨_, rfl, by (simp only [gOn, *]; rfl)⟩, rfl, rfl, rfl⟩)
 refine awp_ret ?_
 refine Rt ?_
 exact ⟨rfl, rfl⟩
theorem rwords_at {n : Nat} (h0 : 1 ≤ n) (h1 : n ≤ 5) : [encStr sNil, encStr ⟨#[110, 111, 100, 101]⟩, encStr ⟨#[119, 97, 121]⟩, encStr ⟨#[97, 114, 101, 97]⟩, encStr ⟨#[114, 111, 117, 116, 101]⟩, encStr ⟨#[116, 117, 114, 110]⟩][n]? = some (encStr (gWord (n : Int))) := by
 match n, h0, h1 with
 | 1, _, _ => rfl
 | 2, _, _ => rfl
 | 3, _, _ => rfl
 | 4, _, _ => rfl
 | 5, _, _ => rfl
 | n + 6, _, h => exact absurd h (by omega)
theorem rWordOf_c (k : Int) (H : Heap) : ACalls Tryz.prog 76 [iv k] H (fun r H' => r = sv (gWord k) ∧ H' = H) := by
 refine ACalls.pure ?_ (by simp) H
 refine Bd Tryz.func76 rfl Tryz.ntmps76<|Sq<|Rg<|Dd as'<|Zz<|Sq<|Rg<|Dd (by exact x_buildSlice [encStr sNil, encStr ⟨#[110, 111, 100, 101]⟩, encStr ⟨#[119, 97, 121]⟩, encStr ⟨#[97, 114, 101, 97]⟩, encStr ⟨#[114, 111, 117, 116, 101]⟩, encStr ⟨#[116, 117, 114, 110]⟩] rfl so33 rfl rfl rfl rfl rfl (by simp [encStr]))<|Dd as'<|Zz<|Sq<|Sq ?_
 refine awp_bool (t := 10) (n := 7) (X := decide (k < 1) || decide (5 < k)) ?_ ?_
 ·all_goals refine Dd mv' ?_
  all_goals refine Dd lss' ?_
  all_goals refine Dd mv' ?_
  all_goals refine Sp 7 (fun h7 => ?_) fun h7 => ?_
  all_goals try contradiction
  all_goals first | refine Fo ?_ | refine On mv' ?_
  all_goals first | refine Fo ?_ | refine On gt' ?_
  all_goals refine Dd pk' ?_
  all_goals refine al_nil ?_
  all_goals (exact ⟨⟨_, rfl, by (simp only [*, Zo]; done)⟩, rfl, rfl, rfl⟩)
 refine Cn (fun hc1 => ?_) fun hc1 => ?_
 ·have hn : ¬ (k = 1) ∧ ¬ (k = 2) ∧ ¬ (k = 3) ∧ ¬ (k = 4) ∧ ¬ (k = 5) := by
   simp only [Bool.or_eq_true, decide_eq_true_eq] at hc1
   omega
  refine Sq<|Rg<|Dd as'<|Zz<|awp_ret ?_
  refine Rt ?_
  exact ⟨by simp only [gWord, hn.1, hn.2.1, hn.2.2.1, hn.2.2.2.1, hn.2.2.2.2, if_false], rfl⟩
 obtain ⟨n, rfl⟩ : ∃ n : Nat, k = (n : Int) := ⟨k.toNat, by simp only [Bool.or_eq_false_iff, decide_eq_false_iff_not] at hc1; omega⟩
 have hb : 1 ≤ n ∧ n ≤ 5 := by
  simp only [Bool.or_eq_false_iff, decide_eq_false_iff_not] at hc1
  omega
 have hi := rwords_at hb.1 hb.2
 refine awp_skip<|Sq<|Rg<|Dd mv'<|Dd mv'<|Dd (xp' so33)<|Dd (lp' Tryz.isAgg9)<|Dd as'<|Zz<|awp_ret ?_
 refine Rt ?_
 exact ⟨rfl, rfl⟩
theorem badTag_eq (l : List GTag) (k : Nat) (t pt : GTag) (hp : 0 < k → l[k - 1]? = some pt) : (((!gName t.key || decide ((t.val.size : Int) < 1)) || decide (200 < (t.val.size : Int))) || (decide ((0 : Int) < (k : Int)) && !slt pt.key t.key)) = badTag (before GTag.key l k) t := by
 have hv : decide ((t.val.size : Int) < 1) = decide (t.val = sNil) := decide_eq_decide.2 (by rw [sNil_iff]; omega)
 rw [hv, badTag]
 cases hg : gName t.key with
 | false => simp
 | true =>
  have hs : sle t.key (before GTag.key l k) = (decide ((0 : Int) < (k : Int)) && !slt pt.key t.key) := by
   cases k with
   | zero =>
    have : slt sNil t.key = true := by
     cases e : slt sNil t.key with
     | true => rfl
     | false => exact absurd (slt_tri (slt_nil _) e) (gName_ne hg)
    rw [before, sle_iff.2 this]; rfl
   | succ k =>
    have h := hp (by omega)
    rw [show k + 1 - 1 = k from rfl] at h
    rw [before_succ h, decide_eq_true (show (0 : Int) < ((k + 1 : Nat) : Int) by omega), Bool.true_and]
    cases e : slt pt.key t.key with
    | true => rw [sle_iff.2 e]; rfl
    | false =>
     cases e2 : sle t.key pt.key with
     | true => rfl
     | false => rw [sle_iff] at e2; rw [e] at e2; cases e2
  rw [← hs]
  cases sle t.key (before GTag.key l k) <;> cases decide (t.val = sNil) <;> cases decide (200 < (t.val.size : Int)) <;> rfl
theorem rTags_c (l : List GTag) (H : Heap) (hl : okTags l) : ACalls Tryz.prog 77 [.pv (slTags l)] H (fun r H' => r = bv (gTags l) ∧ H' = H) := by
 refine ACalls.pure ?_ (by simp) H
 obtain ⟨hl, hks⟩ := hl
 have hml : (l.map encTag).length = l.length := List.length_map _
 refine Bd Tryz.func77 rfl Tryz.ntmps77<|Sq<|Rg<|Dd as'<|Zz<|Sq<|Sq<|Rg<|Dd mv'<|Dd (ll' Tryz.underlying34)<|Dd gt'<|Zz ?_
 refine Cn (fun hc1 => ?_) fun hc1 => ?_
 ·have h60 : decide ((l.length : Int) ≤ 60) = false := by
   have := of_decide_eq_true hc1
   exact decide_eq_false (by omega)
  refine Sq<|Rg<|Dd as'<|Zz<|awp_ret ?_
  refine Rt ?_
  exact ⟨by rw [gTags, h60, Bool.and_false], rfl⟩
 have h60 : decide ((l.length : Int) ≤ 60) = true := by
  have := of_decide_eq_false hc1
  exact decide_eq_true (by omega)
 rw [gTags, h60, Bool.and_true]
 refine awp_skip<|Sq<|Sq<|Rg<|Dd as'<|Zz<|awp_block ?_
 refine awp_loop (σ := Nat) (fun k => ([(0, .pv (slTags l)), (3, iv (k : Int))], [])) (fun k => k ≤ l.length ∧ ∀ j, j < k → badAt badTag GTag.key l j = false) (fun k => l.length - k) 0 ⟨by omega, by omega⟩ ?_ ?_
 ·exact E0
 rintro k ⟨hk, hno⟩
 refine Sq<|Sq<|Rg<|Dd mv'<|Dd mv'<|Dd (ll' Tryz.underlying34)<|Dd lss'<|Zz ?_
 refine Cn (fun hc2 => ?_) fun hc2 => ?_
 ·have hlt : k < l.length := by have := of_decide_eq_true hc2; omega
  obtain ⟨t, ht⟩ := get_of_lt hlt
  have hi := map_get (f := encTag) ht
  have hkt := hks t (List.mem_of_getElem? ht)
  obtain ⟨pt, hp⟩ : ∃ pt, 0 < k → l[k - 1]? = some pt := by
   by_cases k0 : 0 < k
   ·obtain ⟨pt, hp⟩ := get_of_lt (l := l) (k := k - 1) (by omega)
    exact ⟨pt, fun _ => hp⟩
   exact ⟨t, fun h => absurd h k0⟩
  have hpv : 0 < k → (l.map encTag)[k - 1]? = some (encTag pt) := fun h => map_get (f := encTag) (hp h)
  have hbe := badTag_eq l k t pt hp
  refine awp_skip<|Sq<|awp_block<|Sq ?_
  refine awp_mergeR (t := 55) (n := 43) (X := ((!gName t.key || decide ((t.val.size : Int) < 1)) || decide (200 < (t.val.size : Int))) || (decide ((0 : Int) < (k : Int)) && !slt pt.key t.key)) ?_ ?_
  ·cases hg20 : (!gName t.key : Bool)
   ·cases hg29 : (decide ((t.val.size : Int) < 1) : Bool)
    ·cases hg38 : (decide (200 < (t.val.size : Int)) : Bool)
     ·cases hg41 : (decide ((0 : Int) < (k : Int)) : Bool)
      ·refine awp_drawc follows ?_
       refine Cq mv'<|Cq mv'<|Cq (xp' so34)<|Cq (fp' fo67_0)<|Cq (lp' Tryz.isAgg9)<|Cq (by exact opr_call rfl rfl Tryz.call43 rfl (rName_c t.key _ hkt.1))<|Cq no'<|Cq mv'<|Nf mv'<|Nf mv'<|Nf (xp' so34)<|Nf (fp' fo67_1)<|Nf (lp' Tryz.isAgg9)<|Nf (ls' Tryz.underlying9)<|Nf lss'<|Cq pf'<|Cq mv'<|Nf mv'<|Nf mv'<|Nf (xp' so34)<|Nf (fp' fo67_1)<|Nf (lp' Tryz.isAgg9)<|Nf (ls' Tryz.underlying9)<|Nf gt'<|Cq pf'<|Cq mv'<|Nf mv'<|Nf gt'<|Nf mv'<|Ot<|Ot<|Ot<|Ot<|Ot<|Ot<|Ot<|Ot<|Ot<|Ot<|Ot<|Ot<|Nf pf'<|Cq pf' ?_
       refine dc_nil ⟨by kernel_rfl, ?_⟩
       exact ⟨rfl, ⟨_, rfl, by rfl⟩, rfl, rfl, rfl⟩
      refine awp_drawc follows ?_
      refine Cq mv'<|Cq mv'<|Cq (xp' so34)<|Cq (fp' fo67_0)<|Cq (lp' Tryz.isAgg9)<|Cq (by exact opr_call rfl rfl Tryz.call43 rfl (rName_c t.key _ hkt.1))<|Cq no'<|Cq mv'<|Nf mv'<|Nf mv'<|Nf (xp' so34)<|Nf (fp' fo67_1)<|Nf (lp' Tryz.isAgg9)<|Nf (ls' Tryz.underlying9)<|Nf lss'<|Cq pf'<|Cq mv'<|Nf mv'<|Nf mv'<|Nf (xp' so34)<|Nf (fp' fo67_1)<|Nf (lp' Tryz.isAgg9)<|Nf (ls' Tryz.underlying9)<|Nf gt'<|Cq pf'<|Cq mv'<|Nf mv'<|Nf gt'<|Nf mv'<|Nt mv'<|Nt mv'<|Nt (by exact opd_sub rfl rfl rfl (by exact w64 (by omega) (by omega)))<|Nt (by exact x_index_pad rfl so34 rfl rfl (by have := of_decide_eq_true hg41; omega) (show ((k : Int) - 1).toNat = k - 1 by omega) (hpv (by have := of_decide_eq_true hg41; omega)) rfl)<|Nt (fp' fo67_0)<|Nt (by exact opd_load1_pad rfl Tryz.isAgg9 rfl (hpv (by have := of_decide_eq_true hg41; omega)) rfl)<|Nt mv'<|Nt mv'<|Nt (xp' so34)<|Nt (fp' fo67_0)<|Nt (lp' Tryz.isAgg9)<|Nt (by exact opd_sgeq rfl rfl rfl) ?_
      refine Nf pt'<|Cq pf' ?_
      refine dc_nil ⟨by kernel_rfl, ?_⟩
      exact ⟨rfl, ⟨_, rfl, by rfl⟩, rfl, rfl, rfl⟩
     refine awp_drawc follows ?_
     refine Cq mv'<|Cq mv'<|Cq (xp' so34)<|Cq (fp' fo67_0)<|Cq (lp' Tryz.isAgg9)<|Cq (by exact opr_call rfl rfl Tryz.call43 rfl (rName_c t.key _ hkt.1))<|Cq no'<|Cq mv'<|Nf mv'<|Nf mv'<|Nf (xp' so34)<|Nf (fp' fo67_1)<|Nf (lp' Tryz.isAgg9)<|Nf (ls' Tryz.underlying9)<|Nf lss'<|Cq pf'<|Cq mv'<|Nf mv'<|Nf mv'<|Nf (xp' so34)<|Nf (fp' fo67_1)<|Nf (lp' Tryz.isAgg9)<|Nf (ls' Tryz.underlying9)<|Nf gt'<|Cq pf'<|Cq mv'<|Of<|Of<|Of<|Ou<|Ou<|Ou<|Ou<|Ou<|Ou<|Ou<|Ou<|Ou<|Ou<|Ou<|Ou<|Of<|Cq pt' ?_
     refine dc_nil ⟨by kernel_rfl, ?_⟩
     exact ⟨rfl, ⟨_, rfl, by rfl⟩, rfl, rfl, rfl⟩
    refine awp_drawc follows ?_
    refine Cq mv'<|Cq mv'<|Cq (xp' so34)<|Cq (fp' fo67_0)<|Cq (lp' Tryz.isAgg9)<|Cq (by exact opr_call rfl rfl Tryz.call43 rfl (rName_c t.key _ hkt.1))<|Cq no'<|Cq mv'<|Nf mv'<|Nf mv'<|Nf (xp' so34)<|Nf (fp' fo67_1)<|Nf (lp' Tryz.isAgg9)<|Nf (ls' Tryz.underlying9)<|Nf lss'<|Cq pf'<|Cq mv'<|Of<|Of<|Of<|Of<|Of<|Of<|Of<|Cq pt'<|Cq mv'<|Of<|Of<|Of<|Ou<|Ou<|Ou<|Ou<|Ou<|Ou<|Ou<|Ou<|Ou<|Ou<|Ou<|Ou<|Of<|Cq pk' ?_
    refine dc_nil ⟨by kernel_rfl, ?_⟩
    exact ⟨rfl, ⟨_, rfl, by rfl⟩, rfl, rfl, rfl⟩
   refine awp_drawc follows ?_
   refine Cq mv'<|Cq mv'<|Cq (xp' so34)<|Cq (fp' fo67_0)<|Cq (lp' Tryz.isAgg9)<|Cq (by exact opr_call rfl rfl Tryz.call43 rfl (rName_c t.key _ hkt.1))<|Cq no'<|Cq mv'<|Of<|Of<|Of<|Of<|Of<|Of<|Of<|Cq pt'<|Cq mv'<|Of<|Of<|Of<|Of<|Of<|Of<|Of<|Cq pk'<|Cq mv'<|Of<|Of<|Of<|Ou<|Ou<|Ou<|Ou<|Ou<|Ou<|Ou<|Ou<|Ou<|Ou<|Ou<|Ou<|Of<|Cq pk' ?_
   refine dc_nil ⟨by kernel_rfl, ?_⟩
   exact ⟨rfl, ⟨_, rfl, by rfl⟩, rfl, rfl, rfl⟩
  refine Cn (fun hc3 => ?_) fun hc3 => ?_
  ·rw [hbe] at hc3
   refine Sq<|Rg<|Dd as'<|Zz<|awp_ret ?_
   refine Rt ?_
   exact ⟨by rw [range_some hlt ((badAt_some ht).trans hc3)]; rfl, rfl⟩
  rw [hbe] at hc3
  refine awp_skip<|Rg<|Dd mv'<|Dd ad'<|Dd as'<|Zz ?_
  refine ⟨k + 1, ⟨by omega, fun j hj => ?_⟩, by omega, E0⟩
  by_cases e : j = k
  ·subst e; exact (badAt_some ht).trans hc3
  exact hno j (by omega)
 have hge : k = l.length := by have := of_decide_eq_false hc2; omega
 subst hge
 refine awp_exit<|Sq<|Rg<|Dd as'<|Zz<|awp_ret ?_
 refine Rt ?_
 exact ⟨by rw [range_any hno]; rfl, rfl⟩
end Go.Proofs.YtbbnllojhjlaoaaGreat
end
section
set_option linter.unusedVariables false
set_option linter.unusedSimpArgs false
set_option maxRecDepth 100000
namespace Go.Proofs.YtbbnllojhjlaoaaGreat
open Go.Abs
theorem wrong_eq (o : GObj) (k : Nat) (s p : ByteArray) (hp : 0 < k → o.refs[k - 1]? = some p) :
  ((!gName s || ((decide (o.kind = 2) && decide ((0 : Int) < (k : Int))) && decide (p = s))) || (decide (o.kind = 3) && inB (seenL o.refs k) s)) = gWrong o (before id o.refs k) (seenL o.refs k) s := by
 rw [gWrong, gTwice]
 cases hg : gName s with
 | false => simp
 | true =>
  have hs : (decide ((0 : Int) < (k : Int)) && decide (p = s)) = decide (s = before id o.refs k) := by
   cases k with
   | zero => rw [before, decide_eq_false (gName_ne hg)]; rfl
   | succ k =>
    have h := hp (by omega)
    rw [show k + 1 - 1 = k from rfl] at h
    rw [before_succ h, decide_eq_true (show (0 : Int) < ((k + 1 : Nat) : Int) by omega), Bool.true_and]
    exact decide_eq_decide.2 eq_comm
  rw [← hs]
  simp [Bool.and_assoc]
theorem seenL_at {l : List ByteArray} {k : Nat} {s : ByteArray} (h : l[k]? = some s) : seenL l (k + 1) = sput (seenL l k) s := by rw [seenL, h]; rfl
def gNum (k n : Int) : Bool := if k = 1 then decide (n = 0) else if k = 2 then decide (2 ≤ n) else if k = 3 then decide (3 ≤ n) else if k = 4 then decide (1 ≤ n) else decide (n = 3)
def rRefs (o : GObj) : Bool := (decide ((o.refs.length : Int) ≤ 2000) && !((List.range o.refs.length).any (wrongAt o))) && gNum o.kind (o.refs.length : Int)
theorem rRefs_c (o : GObj) (H : Heap) (ho : okO o) : ACalls Tryz.prog 78 [av (encObj o)] H (fun r H' => r = bv (rRefs o) ∧ H' = H) := by
 refine ACalls.pure ?_ (by simp) H
 obtain ⟨h1, h2, h3, h4⟩ := ho
 have hml : (o.refs.map encStr).length = o.refs.length := List.length_map _
 refine Bd Tryz.func78 rfl Tryz.ntmps78<|Sq<|Rg<|Dd (by exact opd_box (id := 1) rfl rfl rfl rfl rfl)<|Dd as'<|Zz<|Sq<|Rg<|Dd (fr' fo36_3)<|Dd (l1' Tryz.isAgg33)<|Dd (ll' Tryz.underlying33)<|Dd as'<|Zz<|Sq<|Sq<|Rg<|Dd mv'<|Dd gt'<|Zz ?_
 refine Cn (fun hc1 => ?_) fun hc1 => ?_
 ·have hb : decide ((o.refs.length : Int) ≤ 2000) = false := by
   have := of_decide_eq_true hc1
   exact decide_eq_false (by omega)
  refine Sq<|Rg<|Dd as'<|Zz<|awp_ret ?_
  refine Rt ?_
  exact ⟨by rw [rRefs, hb]; rfl, rfl⟩
 have hb : decide ((o.refs.length : Int) ≤ 2000) = true := by
  have := of_decide_eq_false hc1
  exact decide_eq_true (by omega)
 rw [rRefs, hb, Bool.true_and]
 refine awp_skip<|Sq<|Rg<|Dd (by exact opd_makeMap (id := 11) strK rfl rfl)<|Dd as'<|Zz<|Sq<|Sq<|Rg<|Dd as'<|Zz<|awp_block ?_
 refine awp_loop (σ := Nat) (fun k => ([(1, .ref 1 0 0 0), (3, iv ((o.refs.map encStr).length : Int)), (4, .mp 11 0), (5, iv (k : Int))], [(11, sob (seenL o.refs k)), (1, bx 6 36 ((encObj o).map .pv))])) (fun k => k ≤ o.refs.length ∧ ∀ j, j < k → wrongAt o j = false) (fun k => o.refs.length - k) 0 ⟨by omega, by omega⟩ ?_ ?_
 ·exact (Ent.wk ⟨⟨_, rfl, rfl⟩, (by (simp; rfl)), ⟨_, rfl, rfl⟩, (by (simp; done)), ⟨_, rfl, rfl⟩, (by (simp; rfl)), ⟨_, rfl, rfl⟩, (by (simp; done)), trivial⟩ ⟨⟨_, rfl, rfl⟩, (by exact sob_clo _ _), ⟨_, rfl, rfl⟩, (by (simp; done)), trivial⟩ trivial)
 rintro k ⟨hk, hno⟩
 refine Sq<|Sq<|Rg<|Dd mv'<|Dd mv'<|Dd lss'<|Zz ?_
 refine Cn (fun hc2 => ?_) fun hc2 => ?_
 ·have hlt : k < o.refs.length := by have := of_decide_eq_true hc2; omega
  obtain ⟨s, hs⟩ := get_of_lt hlt
  have hi := map_get (f := encStr) hs
  obtain ⟨p, hp⟩ : ∃ p, 0 < k → o.refs[k - 1]? = some p := by
   by_cases k0 : 0 < k
   ·obtain ⟨p, hp⟩ := get_of_lt (l := o.refs) (k := k - 1) (by omega)
    exact ⟨p, fun _ => hp⟩
   exact ⟨s, fun h => absurd h k0⟩
  have hpv : 0 < k → (o.refs.map encStr)[k - 1]? = some (encStr p) := fun h => map_get (f := encStr) (hp h)
  have hbe := wrong_eq o k s p hp
  have hw : wrongAt o k = gWrong o (before id o.refs k) (seenL o.refs k) s := by rw [wrongAt, hs]
  have hse := seenL_at hs
  refine awp_skip<|Sq<|awp_block<|Sq<|Sq ?_
  refine awp_mergeR (t := 60) (n := 44) (X := (!gName s || ((decide (o.kind = 2) && decide ((0 : Int) < (k : Int))) && decide (p = s))) || (decide (o.kind = 3) && inB (seenL o.refs k) s)) ?_ ?_
  ·cases hg24 : (!gName s : Bool)
   ·cases hg28 : (decide (o.kind = 2) : Bool)
    ·cases hg51 : (decide (o.kind = 3) : Bool)
     ·refine awp_drawc follows ?_
      refine Cq (fr' fo36_3)<|Cq (l1' Tryz.isAgg33)<|Cq mv'<|Cq (xp' so33)<|Cq (lp' Tryz.isAgg9)<|Cq (by exact opr_call rfl rfl Tryz.call43 rfl (rName_c s _ (h4 s (List.mem_of_getElem? hs))))<|Cq no'<|Cq mv'<|Nf (fr' fo36_1)<|Nf (l1' Tryz.isAgg3)<|Nf eql'<|Nf mv'<|Ot<|Ot<|Nf pf'<|Nf mv'<|Ot<|Ot<|Ot<|Ot<|Ot<|Ot<|Ot<|Ot<|Ot<|Ot<|Ot<|Ot<|Nf pk'<|Cq pf'<|Cq mv'<|Nf (fr' fo36_1)<|Nf (l1' Tryz.isAgg3)<|Nf eql'<|Nf mv'<|Ot<|Ot<|Ot<|Ot<|Ot<|Ot<|Ot<|Nf pf'<|Cq pk' ?_
      refine dc_nil ⟨by kernel_rfl, ?_⟩
      exact ⟨rfl, ⟨_, rfl, by rfl⟩, rfl, rfl, rfl⟩
     refine awp_drawc follows ?_
     refine Cq (fr' fo36_3)<|Cq (l1' Tryz.isAgg33)<|Cq mv'<|Cq (xp' so33)<|Cq (lp' Tryz.isAgg9)<|Cq (by exact opr_call rfl rfl Tryz.call43 rfl (rName_c s _ (h4 s (List.mem_of_getElem? hs))))<|Cq no'<|Cq mv'<|Nf (fr' fo36_1)<|Nf (l1' Tryz.isAgg3)<|Nf eql'<|Nf mv'<|Ot<|Ot<|Nf pf'<|Nf mv'<|Ot<|Ot<|Ot<|Ot<|Ot<|Ot<|Ot<|Ot<|Ot<|Ot<|Ot<|Ot<|Nf pk'<|Cq pf'<|Cq mv'<|Nf (fr' fo36_1)<|Nf (l1' Tryz.isAgg3)<|Nf eql'<|Nf mv'<|Nt mv'<|Nt (fr' fo36_3)<|Nt (l1' Tryz.isAgg33)<|Nt mv'<|Nt (xp' so33)<|Nt (lp' Tryz.isAgg9)<|Nt (by exact x_lookup_set rfl Tryz.underlying75 Tryz.underlying9 rfl rfl rfl rfl rfl Tryz.zeroValue4 (.inl rfl))<|Nf pt'<|Cq pk' ?_
     refine dc_nil ⟨by kernel_rfl, ?_⟩
     exact ⟨rfl, ⟨_, rfl, by rfl⟩, rfl, rfl, rfl⟩
    cases hg32 : (decide ((0 : Int) < (k : Int)) : Bool)
    ·cases hg51 : (decide (o.kind = 3) : Bool)
     ·refine awp_drawc follows ?_
      refine Cq (fr' fo36_3)<|Cq (l1' Tryz.isAgg33)<|Cq mv'<|Cq (xp' so33)<|Cq (lp' Tryz.isAgg9)<|Cq (by exact opr_call rfl rfl Tryz.call43 rfl (rName_c s _ (h4 s (List.mem_of_getElem? hs))))<|Cq no'<|Cq mv'<|Nf (fr' fo36_1)<|Nf (l1' Tryz.isAgg3)<|Nf eql'<|Nf mv'<|Nt mv'<|Nt gt'<|Nf pt'<|Nf mv'<|Ot<|Ot<|Ot<|Ot<|Ot<|Ot<|Ot<|Ot<|Ot<|Ot<|Ot<|Ot<|Nf pf'<|Cq pf'<|Cq mv'<|Nf (fr' fo36_1)<|Nf (l1' Tryz.isAgg3)<|Nf eql'<|Nf mv'<|Ot<|Ot<|Ot<|Ot<|Ot<|Ot<|Ot<|Nf pf'<|Cq pk' ?_
      refine dc_nil ⟨by kernel_rfl, ?_⟩
      exact ⟨rfl, ⟨_, rfl, by rfl⟩, rfl, rfl, rfl⟩
     refine awp_drawc follows ?_
     refine Cq (fr' fo36_3)<|Cq (l1' Tryz.isAgg33)<|Cq mv'<|Cq (xp' so33)<|Cq (lp' Tryz.isAgg9)<|Cq (by exact opr_call rfl rfl Tryz.call43 rfl (rName_c s _ (h4 s (List.mem_of_getElem? hs))))<|Cq no'<|Cq mv'<|Nf (fr' fo36_1)<|Nf (l1' Tryz.isAgg3)<|Nf eql'<|Nf mv'<|Nt mv'<|Nt gt'<|Nf pt'<|Nf mv'<|Ot<|Ot<|Ot<|Ot<|Ot<|Ot<|Ot<|Ot<|Ot<|Ot<|Ot<|Ot<|Nf pf'<|Cq pf'<|Cq mv'<|Nf (fr' fo36_1)<|Nf (l1' Tryz.isAgg3)<|Nf eql'<|Nf mv'<|Nt mv'<|Nt (fr' fo36_3)<|Nt (l1' Tryz.isAgg33)<|Nt mv'<|Nt (xp' so33)<|Nt (lp' Tryz.isAgg9)<|Nt (by exact x_lookup_set rfl Tryz.underlying75 Tryz.underlying9 rfl rfl rfl rfl rfl Tryz.zeroValue4 (.inl rfl))<|Nf pt'<|Cq pk' ?_
     refine dc_nil ⟨by kernel_rfl, ?_⟩
     exact ⟨rfl, ⟨_, rfl, by rfl⟩, rfl, rfl, rfl⟩
    cases hg47 : (decide (p = s) : Bool)
    ·cases hg51 : (decide (o.kind = 3) : Bool)
     ·refine awp_drawc follows ?_
      refine Cq (fr' fo36_3)<|Cq (l1' Tryz.isAgg33)<|Cq mv'<|Cq (xp' so33)<|Cq (lp' Tryz.isAgg9)<|Cq (by exact opr_call rfl rfl Tryz.call43 rfl (rName_c s _ (h4 s (List.mem_of_getElem? hs))))<|Cq no'<|Cq mv'<|Nf (fr' fo36_1)<|Nf (l1' Tryz.isAgg3)<|Nf eql'<|Nf mv'<|Nt mv'<|Nt gt'<|Nf pt'<|Nf mv'<|Nt (fr' fo36_3)<|Nt (l1' Tryz.isAgg33)<|Nt mv'<|Nt (by exact opd_sub rfl rfl rfl (by exact w64 (by omega) (by omega)))<|Nt (by exact x_index_pad rfl so33 rfl rfl (by have := of_decide_eq_true hg32; omega) (show ((k : Int) - 1).toNat = k - 1 by omega) (hpv (by have := of_decide_eq_true hg32; omega)) rfl)<|Nt (by exact opd_load1_pad rfl Tryz.isAgg9 rfl (hpv (by have := of_decide_eq_true hg32; omega)) rfl)<|Nt (fr' fo36_3)<|Nt (l1' Tryz.isAgg33)<|Nt mv'<|Nt (xp' so33)<|Nt (lp' Tryz.isAgg9)<|Nt se'<|Nf pt'<|Cq pf'<|Cq mv'<|Nf (fr' fo36_1)<|Nf (l1' Tryz.isAgg3)<|Nf eql'<|Nf mv'<|Ot<|Ot<|Ot<|Ot<|Ot<|Ot<|Ot<|Nf pf'<|Cq pf' ?_
      refine dc_nil ⟨by kernel_rfl, ?_⟩
      exact ⟨rfl, ⟨_, rfl, by rfl⟩, rfl, rfl, rfl⟩
     refine awp_drawc follows ?_
     refine Cq (fr' fo36_3)<|Cq (l1' Tryz.isAgg33)<|Cq mv'<|Cq (xp' so33)<|Cq (lp' Tryz.isAgg9)<|Cq (by exact opr_call rfl rfl Tryz.call43 rfl (rName_c s _ (h4 s (List.mem_of_getElem? hs))))<|Cq no'<|Cq mv'<|Nf (fr' fo36_1)<|Nf (l1' Tryz.isAgg3)<|Nf eql'<|Nf mv'<|Nt mv'<|Nt gt'<|Nf pt'<|Nf mv'<|Nt (fr' fo36_3)<|Nt (l1' Tryz.isAgg33)<|Nt mv'<|Nt (by exact opd_sub rfl rfl rfl (by exact w64 (by omega) (by omega)))<|Nt (by exact x_index_pad rfl so33 rfl rfl (by have := of_decide_eq_true hg32; omega) (show ((k : Int) - 1).toNat = k - 1 by omega) (hpv (by have := of_decide_eq_true hg32; omega)) rfl)<|Nt (by exact opd_load1_pad rfl Tryz.isAgg9 rfl (hpv (by have := of_decide_eq_true hg32; omega)) rfl)<|Nt (fr' fo36_3)<|Nt (l1' Tryz.isAgg33)<|Nt mv'<|Nt (xp' so33)<|Nt (lp' Tryz.isAgg9)<|Nt se'<|Nf pt'<|Cq pf'<|Cq mv'<|Nf (fr' fo36_1)<|Nf (l1' Tryz.isAgg3)<|Nf eql'<|Nf mv'<|Nt mv'<|Nt (fr' fo36_3)<|Nt (l1' Tryz.isAgg33) ?_
     refine Nt mv'<|Nt (xp' so33)<|Nt (lp' Tryz.isAgg9)<|Nt (by exact x_lookup_set rfl Tryz.underlying75 Tryz.underlying9 rfl rfl rfl rfl rfl Tryz.zeroValue4 (.inl rfl))<|Nf pt'<|Cq pf' ?_
     refine dc_nil ⟨by kernel_rfl, ?_⟩
     exact ⟨rfl, ⟨_, rfl, by rfl⟩, rfl, rfl, rfl⟩
    refine awp_drawc follows ?_
    refine Cq (fr' fo36_3)<|Cq (l1' Tryz.isAgg33)<|Cq mv'<|Cq (xp' so33)<|Cq (lp' Tryz.isAgg9)<|Cq (by exact opr_call rfl rfl Tryz.call43 rfl (rName_c s _ (h4 s (List.mem_of_getElem? hs))))<|Cq no'<|Cq mv'<|Nf (fr' fo36_1)<|Nf (l1' Tryz.isAgg3)<|Nf eql'<|Nf mv'<|Nt mv'<|Nt gt'<|Nf pt'<|Nf mv'<|Nt (fr' fo36_3)<|Nt (l1' Tryz.isAgg33)<|Nt mv'<|Nt (by exact opd_sub rfl rfl rfl (by exact w64 (by omega) (by omega)))<|Nt (by exact x_index_pad rfl so33 rfl rfl (by have := of_decide_eq_true hg32; omega) (show ((k : Int) - 1).toNat = k - 1 by omega) (hpv (by have := of_decide_eq_true hg32; omega)) rfl)<|Nt (by exact opd_load1_pad rfl Tryz.isAgg9 rfl (hpv (by have := of_decide_eq_true hg32; omega)) rfl)<|Nt (fr' fo36_3)<|Nt (l1' Tryz.isAgg33)<|Nt mv'<|Nt (xp' so33)<|Nt (lp' Tryz.isAgg9)<|Nt se'<|Nf pt'<|Cq pf'<|Cq mv'<|Of<|Of<|Of<|Of<|Ou<|Ou<|Ou<|Ou<|Ou<|Ou<|Ou<|Of<|Cq pt' ?_
    refine dc_nil ⟨by kernel_rfl, ?_⟩
    exact ⟨rfl, ⟨_, rfl, by rfl⟩, rfl, rfl, rfl⟩
   refine awp_drawc follows ?_
   refine Cq (fr' fo36_3)<|Cq (l1' Tryz.isAgg33)<|Cq mv'<|Cq (xp' so33)<|Cq (lp' Tryz.isAgg9)<|Cq (by exact opr_call rfl rfl Tryz.call43 rfl (rName_c s _ (h4 s (List.mem_of_getElem? hs))))<|Cq no'<|Cq mv'<|Of<|Of<|Of<|Of<|Ou<|Ou<|Of<|Of<|Ou<|Ou<|Ou<|Ou<|Ou<|Ou<|Ou<|Ou<|Ou<|Ou<|Ou<|Ou<|Of<|Cq pt'<|Cq mv'<|Of<|Of<|Of<|Of<|Ou<|Ou<|Ou<|Ou<|Ou<|Ou<|Ou<|Of<|Cq pk' ?_
   refine dc_nil ⟨by kernel_rfl, ?_⟩
   exact ⟨rfl, ⟨_, rfl, by rfl⟩, rfl, rfl, rfl⟩
  refine Cn (fun hc3 => ?_) fun hc3 => ?_
  ·rw [hbe, ← hw] at hc3
   refine Sq<|Rg<|Dd as'<|Zz<|awp_ret ?_
   refine Rt ?_
   exact ⟨by rw [range_some hlt hc3]; rfl, rfl⟩
  rw [hbe, ← hw] at hc3
  refine awp_skip<|Rg<|Dd mv'<|Dd (fr' fo36_3)<|Dd (l1' Tryz.isAgg33)<|Dd mv'<|Dd (xp' so33)<|Dd (lp' Tryz.isAgg9)<|Uu (by exact x_put_set (.inl rfl) Tryz.underlying75 Tryz.underlying9 rfl rfl rfl rfl rfl rfl rfl)<|Zz<|Rg<|Dd mv'<|Dd ad'<|Dd as'<|Zz ?_
  refine ⟨k + 1, ⟨by omega, fun j hj => ?_⟩, by omega, ?_⟩
  ·by_cases e : j = k
   ·subst e; exact hc3
   exact hno j (by omega)
  rw [hse]
  exact (Ent.wk ⟨⟨_, rfl, rfl⟩, (by (simp; rfl)), ⟨_, rfl, rfl⟩, (by (simp; done)), ⟨_, rfl, rfl⟩, (by (simp; rfl)), ⟨_, rfl, rfl⟩, (by (simp; done)), trivial⟩ ⟨⟨_, rfl, rfl⟩, (by exact sob_clo _ _), ⟨_, rfl, rfl⟩, (by (simp; done)), trivial⟩ trivial)
 have hge : k = o.refs.length := by have := of_decide_eq_false hc2; omega
 subst hge
 rw [range_any hno, Bool.not_false, Bool.true_and, gNum, ← hml]
 refine awp_exit<|Sq<|Sq<|Rg<|Dd (fr' fo36_1)<|Dd (l1' Tryz.isAgg3)<|Zz<|awp_block<|Sq<|Rg<|Dd eql'<|Dd as'<|Zz ?_
 refine Cn (fun hc4 => ?_) fun hc4 => ?_
 ·rw [if_pos (of_decide_eq_true hc4)]
  refine Sq<|Rg<|Dd mv'<|Dd eql'<|Dd as'<|Zz<|awp_ret ?_
  refine Rt ?_
  exact ⟨rfl, rfl⟩
 rw [if_neg (of_decide_eq_false hc4)]
 refine Sq<|Rg<|Dd eql'<|Dd as'<|Zz ?_
 refine Cn (fun hc5 => ?_) fun hc5 => ?_
 ·rw [if_pos (of_decide_eq_true hc5)]
  refine Sq<|Rg<|Dd mv'<|Dd ge'<|Dd as'<|Zz<|awp_ret ?_
  refine Rt ?_
  exact ⟨rfl, rfl⟩
 rw [if_neg (of_decide_eq_false hc5)]
 refine Sq<|Rg<|Dd eql'<|Dd as'<|Zz ?_
 refine Cn (fun hc6 => ?_) fun hc6 => ?_
 ·rw [if_pos (of_decide_eq_true hc6)]
  refine Sq<|Rg<|Dd mv'<|Dd ge'<|Dd as'<|Zz<|awp_ret ?_
  refine Rt ?_
  exact ⟨rfl, rfl⟩
 rw [if_neg (of_decide_eq_false hc6)]
 refine Sq<|Rg<|Dd eql'<|Dd as'<|Zz ?_
 refine Cn (fun hc7 => ?_) fun hc7 => ?_
 ·rw [if_pos (of_decide_eq_true hc7)]
  refine Sq<|Rg<|Dd mv'<|Dd ge'<|Dd as'<|Zz<|awp_ret ?_
  refine Rt ?_
  exact ⟨rfl, rfl⟩
 rw [if_neg (of_decide_eq_false hc7)]
 refine awp_skip<|Sq<|Rg<|Dd mv'<|Dd eql'<|Dd as'<|Zz<|awp_ret ?_
 refine Rt ?_
 exact ⟨rfl, rfl⟩
def atO (o : GObj) : Bool := if o.kind = 1 then gOn o.x o.y else (decide (o.x = 0) && decide (o.y = 0))
theorem rObj_eq (o : GObj) : ((((gName o.id && !decide (gWord o.kind = sNil)) && atO o) && gTags o.tags) && rRefs o) = gObj o := by
 cases hw : decide (gWord o.kind = sNil) with
 | true => simp [gObj, gHead, gHeadN, hw]
 | false =>
  have hk := word_kind hw
  have hk0 : ¬ o.kind = 0 := fun e => by rw [e] at hw; simp [gWord] at hw
  simp only [gObj, gHead, gHeadN, hw, rRefs, atO, gKind, gNum, gLeast]
  generalize gName o.id = a
  generalize gTags o.tags = b
  generalize (List.range o.refs.length).any (wrongAt o) = w
  generalize gOn o.x o.y = c
  generalize (decide (o.x = 0) && decide (o.y = 0)) = d
  generalize (o.refs.length : Int) = n
  generalize o.kind = k at *
  rcases (by omega : k = 1 ∨ k = 2 ∨ k = 3 ∨ k = 4 ∨ k = 5) with rfl | rfl | rfl | rfl | rfl <;> cases a <;> cases b <;> cases w <;> cases c <;> cases d <;> rw [Bool.eq_iff_iff] <;> simp <;> omega
theorem rObj_c (o : GObj) (H : Heap) (ho : okO o) : ACalls Tryz.prog 42 [av (encObj o)] H (fun r H' => r = bv (gObj o) ∧ H' = H) := by
 refine ACalls.pure ?_ (by simp) H
 rw [← rObj_eq]
 refine Bd Tryz.func42 rfl Tryz.ntmps42<|Sq<|Rg<|Dd (by exact opd_box (id := 1) rfl rfl rfl rfl rfl)<|Dd as'<|Zz<|Sq<|Rg<|Dd (fr' fo36_2)<|Dd (by exact opd_loadn_ref rfl Tryz.isAgg32 Tryz.sizeOf32 rfl rfl rfl rfl (by simp only [Zl, encTag, encObj, encStr]; rfl) rfl)<|Dd (by exact opr_call rfl rfl Tryz.call44 rfl (rOn_c o.x o.y _))<|Dd as'<|Zz<|Sq<|Sq<|Rg<|Dd (fr' fo36_1)<|Dd (l1' Tryz.isAgg3)<|Dd ne'<|Zz ?_
 refine Cn (fun hc1 => ?_) fun hc1 => ?_
 ·have hat : atO o = (decide (o.x = 0) && decide (o.y = 0)) := by
   have h : (!decide (o.kind = 1)) = true := hc1
   rw [atO, if_neg (by simpa using h)]
  refine Rg<|Dd (fr' fo36_2)<|Dd (by exact opd_loadn_ref rfl Tryz.isAgg32 Tryz.sizeOf32 rfl rfl rfl rfl (by simp only [Zl, encTag, encObj, encStr]; rfl) rfl)<|Dd (bu' bo32)<|Dd (by exact opd_aeql rfl rfl rfl rfl rfl Tryz.eqGuardType32 (se32 _ _ _ _))<|Dd as'<|Zz<|Sq ?_
  refine awp_bool (t := 2) (n := 26) (X := (((gName o.id && !decide (gWord o.kind = sNil)) && atO o) && gTags o.tags) && rRefs o) ?_ ?_
  ·all_goals refine Dd (fr' fo36_0) ?_
   all_goals refine Dd (l1' Tryz.isAgg9) ?_
   all_goals refine Dd (by exact opr_call rfl rfl Tryz.call43 rfl (rName_c o.id _ ho.1)) ?_
   all_goals refine Dd mv' ?_
   all_goals refine Sp 17 (fun h17 => ?_) fun h17 => ?_
   all_goals try contradiction
   all_goals first | refine Fo ?_ | refine On (fr' fo36_1) ?_
   all_goals first | refine Fo ?_ | refine On (l1' Tryz.isAgg3) ?_
   all_goals first | refine Fo ?_ | refine On (by exact opr_call rfl rfl Tryz.call76 rfl (rWordOf_c o.kind _)) ?_
   all_goals first | refine Fo ?_ | refine On sn' ?_
   all_goals refine Dd pk' ?_
   all_goals refine Dd mv' ?_
   all_goals refine Sp 23 (fun h23 => ?_) fun h23 => ?_
   all_goals try contradiction
   all_goals first | refine Fo ?_ | refine On mv' ?_
   all_goals refine Dd pk' ?_
   all_goals refine Dd mv' ?_
   all_goals refine Sp 26 (fun h26 => ?_) fun h26 => ?_
   all_goals try contradiction
   all_goals first | refine Fo ?_ | refine On (fr' fo36_4) ?_
   all_goals first | refine Fo ?_ | refine On (l1' Tryz.isAgg34) ?_
   all_goals first | refine Fo ?_ | refine On (by exact opr_call rfl rfl Tryz.call77 rfl (rTags_c o.tags _ ho.2.1)) ?_
   all_goals refine Dd pk' ?_
   all_goals refine Dd mv' ?_
   all_goals refine Sp 31 (fun h31 => ?_) fun h31 => ?_
   all_goals try contradiction
   all_goals first | refine Fo ?_ | refine On (by exact opd_loadn_ref rfl Tryz.isAgg36 Tryz.sizeOf36 rfl rfl rfl rfl (by simp only [Zl, encTag, encObj, encStr]; rfl) rfl) ?_
   all_goals first | refine Fo ?_ | refine On (by exact opr_call rfl rfl Tryz.call78 rfl (rRefs_c o _ ho)) ?_
   all_goals refine Dd pk' ?_
   all_goals refine Dd as' ?_
   all_goals refine al_nil ?_
   all_goals (exact ⟨⟨_, rfl, by (simp only [hat, *]; rfl)⟩, rfl, rfl, rfl⟩)
  refine awp_ret ?_
  refine Rt ?_
  exact ⟨rfl, rfl⟩
 have hat : atO o = gOn o.x o.y := by
  have h : (!decide (o.kind = 1)) = false := hc1
  rw [atO, if_pos (by simpa using h)]
 refine awp_skip<|Sq ?_
 refine awp_bool (t := 2) (n := 26) (X := (((gName o.id && !decide (gWord o.kind = sNil)) && atO o) && gTags o.tags) && rRefs o) ?_ ?_
 ·all_goals refine Dd (fr' fo36_0) ?_
  all_goals refine Dd (l1' Tryz.isAgg9) ?_
  all_goals refine Dd (by exact opr_call rfl rfl Tryz.call43 rfl (rName_c o.id _ ho.1)) ?_
  all_goals refine Dd mv' ?_
  all_goals refine Sp 17 (fun h17 => ?_) fun h17 => ?_
  all_goals try contradiction
  all_goals first | refine Fo ?_ | refine On (fr' fo36_1) ?_
  all_goals first | refine Fo ?_ | refine On (l1' Tryz.isAgg3) ?_
  all_goals first | refine Fo ?_ | refine On (by exact opr_call rfl rfl Tryz.call76 rfl (rWordOf_c o.kind _)) ?_
  all_goals first | refine Fo ?_ | refine On sn' ?_
  all_goals refine Dd pk' ?_
  all_goals refine Dd mv' ?_
  all_goals refine Sp 23 (fun h23 => ?_) fun h23 => ?_
  all_goals try contradiction
  all_goals first | refine Fo ?_ | refine On mv' ?_
  all_goals refine Dd pk' ?_
  all_goals refine Dd mv' ?_
  all_goals refine Sp 26 (fun h26 => ?_) fun h26 => ?_
  all_goals try contradiction
  all_goals first | refine Fo ?_ | refine On (fr' fo36_4) ?_
  all_goals first | refine Fo ?_ | refine On (l1' Tryz.isAgg34) ?_
  all_goals first | refine Fo ?_ | refine On (by exact opr_call rfl rfl Tryz.call77 rfl (rTags_c o.tags _ ho.2.1)) ?_
  all_goals refine Dd pk' ?_
  all_goals refine Dd mv' ?_
  all_goals refine Sp 31 (fun h31 => ?_) fun h31 => ?_
  all_goals try contradiction
  all_goals first | refine Fo ?_ | refine On (by exact opd_loadn_ref rfl Tryz.isAgg36 Tryz.sizeOf36 rfl rfl rfl rfl (by simp only [Zl, encTag, encObj, encStr]; rfl) rfl) ?_
  all_goals first | refine Fo ?_ | refine On (by exact opr_call rfl rfl Tryz.call78 rfl (rRefs_c o _ ho)) ?_
  all_goals refine Dd pk' ?_
  all_goals refine Dd as' ?_
  all_goals refine al_nil ?_
  all_goals (exact ⟨⟨_, rfl, by (simp only [hat, *]; rfl)⟩, rfl, rfl, rfl⟩)
 refine awp_ret ?_
 refine Rt ?_
 exact ⟨rfl, rfl⟩
end Go.Proofs.YtbbnllojhjlaoaaGreat
end
section
set_option linter.unusedVariables false
set_option linter.unusedSimpArgs false
set_option maxRecDepth 100000
namespace Go.Proofs.YtbbnllojhjlaoaaGreat
open Go.Abs
theorem badObj_eq (m : List GObj) (k : Nat) (o po : GObj) (hp : 0 < k → m[k - 1]? = some po) : (!gObj o || (decide ((0 : Int) < (k : Int)) && !slt po.id o.id)) = badObj (before GObj.id m k) o := by
 rw [badObj]
 cases hg : gObj o with
 | false => simp
 | true =>
  have hs : sle o.id (before GObj.id m k) = (decide ((0 : Int) < (k : Int)) && !slt po.id o.id) := by
   cases k with
   | zero =>
    have : slt sNil o.id = true := by
     cases e : slt sNil o.id with
     | true => rfl
     | false => exact absurd (slt_tri (slt_nil _) e) (gName_ne (gObj_name hg))
    rw [before, sle_iff.2 this]; rfl
   | succ k =>
    have h := hp (by omega)
    rw [show k + 1 - 1 = k from rfl] at h
    rw [before_succ h, decide_eq_true (show (0 : Int) < ((k + 1 : Nat) : Int) by omega), Bool.true_and]
    cases e : slt po.id o.id with
    | true => rw [sle_iff.2 e]; rfl
    | false =>
     cases e2 : sle o.id po.id with
     | true => rfl
     | false => rw [sle_iff] at e2; rw [e] at e2; cases e2
  rw [hs]
theorem rMap_c (m : List GObj) (H : Heap) (hm : okM m) : ACalls Tryz.prog 55 [.agg [.pv (slObjs m)]] H (fun r H' => r = bv (gMap m) ∧ H' = H) := by
 refine ACalls.pure ?_ (by simp) H
 obtain ⟨hl, hks⟩ := hm
 have hml : (m.map encObj).length = m.length := List.length_map _
 refine Bd Tryz.func55 rfl Tryz.ntmps55<|Sq<|Rg<|Dd (by exact opd_box (id := 1) rfl rfl rfl rfl rfl)<|Dd as'<|Zz<|Sq<|Sq<|Rg<|Dd (fr' fo24_0)<|Dd (l1' Tryz.isAgg22)<|Dd (ll' Tryz.underlying22)<|Dd gt'<|Zz ?_
 refine Cn (fun hc1 => ?_) fun hc1 => ?_
 ·have h60 : decide ((m.length : Int) ≤ 1000000) = false := by
   have := of_decide_eq_true hc1
   exact decide_eq_false (by omega)
  refine Sq<|Rg<|Dd as'<|Zz<|awp_ret ?_
  refine Rt ?_
  exact ⟨by rw [gMap, h60, Bool.and_false], rfl⟩
 have h60 : decide ((m.length : Int) ≤ 1000000) = true := by
  have := of_decide_eq_false hc1
  exact decide_eq_true (by omega)
 rw [gMap, h60, Bool.and_true]
 refine awp_skip<|Sq<|Sq<|Rg<|Dd as'<|Zz<|awp_block ?_
 refine awp_loop (σ := Nat) (fun k => ([(1, .ref 1 0 0 0), (3, iv (k : Int))], [(1, bx 1 24 [.pv (slObjs m)])])) (fun k => k ≤ m.length ∧ ∀ j, j < k → badAt badObj GObj.id m j = false) (fun k => m.length - k) 0 ⟨by omega, by omega⟩ ?_ ?_
 ·exact Wk
 rintro k ⟨hk, hno⟩
 refine Sq<|Sq<|Rg<|Dd mv'<|Dd (fr' fo24_0)<|Dd (l1' Tryz.isAgg22)<|Dd (ll' Tryz.underlying22)<|Dd lss'<|Zz ?_
 refine Cn (fun hc2 => ?_) fun hc2 => ?_
 ·have hlt : k < m.length := by have := of_decide_eq_true hc2; omega
  obtain ⟨o, ho⟩ := get_of_lt hlt
  have hi := map_get (f := encObj) ho
  obtain ⟨po, hp⟩ : ∃ po, 0 < k → m[k - 1]? = some po := by
   by_cases k0 : 0 < k
   ·obtain ⟨po, hp⟩ := get_of_lt (l := m) (k := k - 1) (by omega)
    exact ⟨po, fun _ => hp⟩
   exact ⟨o, fun h => absurd h k0⟩
  have hpv : 0 < k → (m.map encObj)[k - 1]? = some (encObj po) := fun h => map_get (f := encObj) (hp h)
  have hbe := badObj_eq m k o po hp
  refine awp_skip<|Sq<|awp_block<|Sq ?_
  refine awp_mergeR (t := 41) (n := 27) (X := !gObj o || (decide ((0 : Int) < (k : Int)) && !slt po.id o.id)) ?_ ?_
  ·cases hg22 : (!gObj o : Bool)
   ·cases hg25 : (decide ((0 : Int) < (k : Int)) : Bool)
    ·refine awp_drawc follows ?_
     refine Cq (fr' fo24_0)<|Cq (l1' Tryz.isAgg22)<|Cq mv'<|Cq (xp' so22)<|Cq (by exact opd_loadn_pad rfl Tryz.isAgg36 Tryz.sizeOf36 rfl (by omega) (by simp only [Zl, encTag, encObj, encStr, encInt]; rfl) rfl)<|Cq (by exact opr_call rfl rfl Tryz.call42 rfl (rObj_c o _ (hks o (List.mem_of_getElem? ho))))<|Cq no'<|Cq mv'<|Nf mv'<|Nf gt'<|Nf mv'<|Ot<|Ot<|Ot<|Ot<|Ot<|Ot<|Ot<|Ot<|Ot<|Ot<|Ot<|Ot<|Ot<|Ot<|Nf pf'<|Cq pf' ?_
     refine dc_nil ⟨by kernel_rfl, ?_⟩
     exact ⟨rfl, ⟨_, rfl, by rfl⟩, rfl, rfl, rfl⟩
    refine awp_drawc follows ?_
    refine Cq (fr' fo24_0)<|Cq (l1' Tryz.isAgg22)<|Cq mv'<|Cq (xp' so22)<|Cq (by exact opd_loadn_pad rfl Tryz.isAgg36 Tryz.sizeOf36 rfl (by omega) (by simp only [Zl, encTag, encObj, encStr, encInt]; rfl) rfl)<|Cq (by exact opr_call rfl rfl Tryz.call42 rfl (rObj_c o _ (hks o (List.mem_of_getElem? ho))))<|Cq no'<|Cq mv'<|Nf mv'<|Nf gt'<|Nf mv'<|Nt (fr' fo24_0)<|Nt (l1' Tryz.isAgg22)<|Nt mv'<|Nt (by exact opd_sub rfl rfl rfl (by exact w64 (by omega) (by omega)))<|Nt (by exact x_index_pad rfl so22 rfl rfl (by have := of_decide_eq_true hg25; omega) (show ((k : Int) - 1).toNat = k - 1 by omega) (hpv (by have := of_decide_eq_true hg25; omega)) rfl)<|Nt (fp' fo36_0)<|Nt (by exact opd_load1_pad rfl Tryz.isAgg9 rfl (hpv (by have := of_decide_eq_true hg25; omega)) rfl)<|Nt (fr' fo24_0)<|Nt (l1' Tryz.isAgg22)<|Nt mv'<|Nt (xp' so22)<|Nt (fp' fo36_0)<|Nt (lp' Tryz.isAgg9)<|Nt (by exact opd_sgeq rfl rfl rfl)<|Nf pt' ?_
    refine Cq pf' ?_
    refine dc_nil ⟨by kernel_rfl, ?_⟩
    exact ⟨rfl, ⟨_, rfl, by rfl⟩, rfl, rfl, rfl⟩
   refine awp_drawc follows ?_
   refine Cq (fr' fo24_0)<|Cq (l1' Tryz.isAgg22)<|Cq mv'<|Cq (xp' so22)<|Cq (by exact opd_loadn_pad rfl Tryz.isAgg36 Tryz.sizeOf36 rfl (by omega) (by simp only [Zl, encTag, encObj, encStr, encInt]; rfl) rfl)<|Cq (by exact opr_call rfl rfl Tryz.call42 rfl (rObj_c o _ (hks o (List.mem_of_getElem? ho))))<|Cq no'<|Cq mv'<|Of<|Of<|Of<|Ou<|Ou<|Ou<|Ou<|Ou<|Ou<|Ou<|Ou<|Ou<|Ou<|Ou<|Ou<|Ou<|Ou<|Of<|Cq pt' ?_
   refine dc_nil ⟨by kernel_rfl, ?_⟩
   exact ⟨rfl, ⟨_, rfl, by rfl⟩, rfl, rfl, rfl⟩
  refine Cn (fun hc3 => ?_) fun hc3 => ?_
  ·rw [hbe] at hc3
   refine Sq<|Rg<|Dd as'<|Zz<|awp_ret ?_
   refine Rt ?_
   exact ⟨by rw [range_some hlt ((badAt_some ho).trans hc3)]; rfl, rfl⟩
  rw [hbe] at hc3
  refine awp_skip<|Rg<|Dd mv'<|Dd ad'<|Dd as'<|Zz ?_
  refine ⟨k + 1, ⟨by omega, fun j hj => ?_⟩, by omega, Wk⟩
  by_cases e : j = k
  ·subst e; exact (badAt_some ho).trans hc3
  exact hno j (by omega)
 have hge : k = m.length := by have := of_decide_eq_false hc2; omega
 subst hge
 refine awp_exit<|Sq<|Rg<|Dd as'<|Zz<|awp_ret ?_
 refine Rt ?_
 exact ⟨by rw [range_any hno]; rfl, rfl⟩
theorem rFind_c (m : List GObj) (id : ByteArray) (H : Heap) (hm : m.length < 4611686018427387904) : ACalls Tryz.prog 26 [.agg [.pv (slObjs m)], sv id] H (fun r H' => r = iv (gidx (idIs id) m) ∧ H' = H) := by
 refine ACalls.pure ?_ (by simp) H
 have hml : (m.map encObj).length = m.length := List.length_map _
 refine Bd Tryz.func26 rfl Tryz.ntmps26<|Sq<|Rg<|Dd (by exact opd_box (id := 2) rfl rfl rfl rfl rfl)<|Dd as'<|Zz<|Sq<|Sq<|Rg<|Dd as'<|Zz<|awp_block ?_
 refine awp_loop (σ := Nat) (fun k => ([(1, sv id), (2, .ref 2 0 0 0), (5, iv (k : Int))], [(2, bx 1 24 [.pv (slObjs m)])])) (fun k => k ≤ m.length ∧ ∀ j, j < k → ∀ b, m[j]? = some b → idIs id b = false) (fun k => m.length - k) 0 ⟨by omega, by omega⟩ ?_ ?_
 ·exact Wk
 rintro k ⟨hk, hno⟩
 refine Sq<|Sq<|Rg<|Dd mv'<|Dd (fr' fo24_0)<|Dd (l1' Tryz.isAgg22)<|Dd (ll' Tryz.underlying22)<|Dd lss'<|Zz ?_
 refine Cn (fun hc1 => ?_) fun hc1 => ?_
 ·have hlt : k < m.length := by have := of_decide_eq_true hc1; omega
  obtain ⟨o, ho⟩ := get_of_lt hlt
  have hi := map_get (f := encObj) ho
  refine awp_skip<|Sq<|awp_block<|Sq<|Rg<|Dd (fr' fo24_0)<|Dd (l1' Tryz.isAgg22)<|Dd mv'<|Dd (xp' so22)<|Dd (fp' fo36_0)<|Dd (lp' Tryz.isAgg9)<|Dd mv'<|Dd se'<|Zz ?_
  refine Cn (fun hc2 => ?_) fun hc2 => ?_
  ·have h : idIs id o = true := hc2
   refine Sq<|Rg<|Dd mv'<|Dd as'<|Zz<|awp_ret ?_
   refine Rt ?_
   exact ⟨by rw [gidx, fidx_some hno ho h], rfl⟩
  have h : idIs id o = false := hc2
  refine awp_skip<|Rg<|Dd mv'<|Dd ad'<|Dd as'<|Zz ?_
  exact ⟨k + 1, ⟨by omega, pre_succ hno ho h⟩, by omega, Wk⟩
 have hge : k = m.length := by have := of_decide_eq_false hc1; omega
 subst hge
 refine awp_exit<|Sq<|Rg<|Dd as'<|Zz<|awp_ret ?_
 refine Rt ?_
 exact ⟨by rw [gidx, fidx_none hno], rfl⟩
theorem rWanted_c (kind i : Int) (H : Heap) : ACalls Tryz.prog 56 [iv kind, iv i] H (fun r H' => r = iv (gWanted kind i) ∧ H' = H) := by
 refine ACalls.pure ?_ (by simp) H
 refine Bd Tryz.func56 rfl Tryz.ntmps56<|Sq<|Rg<|Dd as'<|Zz<|Sq<|Sq ?_
 refine awp_bool (t := 14) (n := 12) (X := decide (kind = 4) || (decide (kind = 5) && !decide (i = 1))) ?_ ?_
 ·all_goals refine Dd mv' ?_
  all_goals refine Dd eql' ?_
  all_goals refine Dd mv' ?_
  all_goals refine Sp 7 (fun h7 => ?_) fun h7 => ?_
  all_goals try contradiction
  all_goals first | refine Fo ?_ | refine On mv' ?_
  all_goals first | refine Fo ?_ | refine On eql' ?_
  all_goals first | refine Fo ?_ | refine On mv' ?_
  all_goals (first | refine Sp 10 (fun h10 => ?_) fun h10 => ?_ | refine al_dup (t := 10) rfl ?_)
  all_goals try contradiction
  all_goals first | refine Fo ?_ | refine Fu ?_ | refine On mv' ?_
  all_goals first | refine Fo ?_ | refine Fu ?_ | refine On ne' ?_
  all_goals first | refine Fo ?_ | refine On pk' ?_
  all_goals refine Dd pk' ?_
  all_goals refine al_nil ?_
  all_goals (exact ⟨⟨_, rfl, by (simp only [*, Zo]; done)⟩, rfl, rfl, rfl⟩)
 refine Cn (fun hc1 => ?_) fun hc1 => ?_
 ·skip
  refine Sq<|Rg<|Dd as'<|Zz<|awp_ret ?_
  refine Rt ?_
  exact ⟨by rw [gWanted, if_pos hc1], rfl⟩
 skip
 refine awp_skip<|Sq<|Rg<|Dd as'<|Zz<|awp_ret ?_
 refine Rt ?_
 exact ⟨by rw [gWanted, hc1]; rfl, rfl⟩
theorem rErr_c (m : List GObj) (o : GObj) (H : Heap) (hm : m.length < 4611686018427387904) (hl : o.refs.length < 4611686018427387904) : ACalls Tryz.prog 27 [.agg [.pv (slObjs m)], av (encObj o)] H (fun r H' => r = iv (refErr m o.kind 0 o.refs) ∧ H' = H) := by
 refine ACalls.pure ?_ (by simp) H
 have hml : (m.map encObj).length = m.length := List.length_map _
 have hrl : (o.refs.map encStr).length = o.refs.length := List.length_map _
 refine Bd Tryz.func27 rfl Tryz.ntmps27<|Sq<|Rg<|Dd (by exact opd_box (id := 2) rfl rfl rfl rfl rfl)<|Dd (by exact opd_box (id := 3) rfl rfl rfl rfl rfl)<|Dd as'<|Zz<|Sq<|Sq<|Rg<|Dd as'<|Zz<|awp_block ?_
 refine awp_loop (σ := Nat) (fun k => ([(2, .ref 2 0 0 0), (3, .ref 3 0 0 0), (5, iv (k : Int))], [(3, bx 6 36 ((encObj o).map .pv)), (2, bx 1 24 [.pv (slObjs m)])])) (fun k => k ≤ o.refs.length ∧ refErr m o.kind 0 o.refs = refErr m o.kind k (o.refs.drop k)) (fun k => o.refs.length - k) 0 ⟨by omega, rfl⟩ ?_ ?_
 ·exact Wk
 rintro k ⟨hk, hinv⟩
 refine Sq<|Sq<|Rg<|Dd mv'<|Dd (fr' fo36_3)<|Dd (l1' Tryz.isAgg33)<|Dd (ll' Tryz.underlying33)<|Dd lss'<|Zz ?_
 refine Cn (fun hc1 => ?_) fun hc1 => ?_
 ·have hlt : k < o.refs.length := by have := of_decide_eq_true hc1; omega
  obtain ⟨s, hs⟩ := get_of_lt hlt
  have hi := map_get (f := encStr) hs
  have hdr : o.refs.drop k = s :: o.refs.drop (k + 1) := by
   obtain ⟨hl1, he1⟩ := List.getElem?_eq_some_iff.1 hs
   rw [List.drop_eq_getElem_cons hl1, he1]
  rw [hdr, refErr] at hinv
  have hF := fun H => rFind_c m s H hm
  rcases gidx_cases (idIs s) m with ⟨hg, hf⟩ | ⟨j, ob, hg, hob, hf⟩
  ·have hko : kindOf m s = none := by rw [kindOf, hf]; rfl
   have hb : refBad m o.kind k s = 14 := by rw [refBad, hko]
   rw [hb, if_neg (by decide)] at hinv
   rw [hg] at hF
   refine awp_skip<|Sq<|awp_block<|Sq ?_
   refine awp_drawc follows ?_
   refine Cq (by exact opd_loadn_ref rfl Tryz.isAgg24 Tryz.sizeOf24 rfl rfl rfl rfl (by simp only [Zl, encTag, encObj, encStr, encInt]; rfl) rfl)<|Cq (fr' fo36_3)<|Cq (l1' Tryz.isAgg33)<|Cq mv'<|Cq (xp' so33)<|Cq (lp' Tryz.isAgg9)<|Cq (by exact opr_call rfl rfl Tryz.call26 rfl (hF _))<|Cq as' ?_
   refine dc_nil ⟨by kernel_rfl, ?_⟩
   refine Sq<|Sq<|Rg<|Dd mv'<|Dd lss'<|Zz ?_
   refine Cn (fun hc2 => ?_) fun hc2 => ?_
   ·skip
    refine Sq<|Rg<|Dd as'<|Zz<|awp_ret ?_
    refine Rt ?_
    exact ⟨by rw [hinv], rfl⟩
   cases hc2
  have hko : kindOf m s = some ob.kind := by rw [kindOf, hf]; rfl
  rw [hg] at hF
  have hio := map_get (f := encObj) hob
  refine awp_skip<|Sq<|awp_block<|Sq ?_
  refine awp_drawc follows ?_
  refine Cq (by exact opd_loadn_ref rfl Tryz.isAgg24 Tryz.sizeOf24 rfl rfl rfl rfl (by simp only [Zl, encTag, encObj, encStr, encInt]; rfl) rfl)<|Cq (fr' fo36_3)<|Cq (l1' Tryz.isAgg33)<|Cq mv'<|Cq (xp' so33)<|Cq (lp' Tryz.isAgg9)<|Cq (by exact opr_call rfl rfl Tryz.call26 rfl (hF _))<|Cq as' ?_
  refine dc_nil ⟨by kernel_rfl, ?_⟩
  refine Sq<|Sq<|Rg<|Dd mv'<|Dd lss'<|Zz ?_
  refine Cn (fun hc3 => ?_) fun hc3 => ?_
  ·have h := of_decide_eq_true hc3
   omega
  skip
  refine awp_skip<|Sq ?_
  refine awp_drawc follows ?_
  refine Cq (fr' fo24_0)<|Cq (l1' Tryz.isAgg22)<|Cq mv'<|Cq (xp' so22)<|Cq (fp' fo36_1)<|Cq (lp' Tryz.isAgg3)<|Cq (fr' fo36_1)<|Cq (l1' Tryz.isAgg3)<|Cq mv'<|Cq (by exact opr_call rfl rfl Tryz.call56 rfl (rWanted_c o.kind (k : Int) _))<|Cq ne' ?_
  refine dc_nil ⟨by kernel_rfl, ?_⟩
  refine Cn (fun hc4 => ?_) fun hc4 => ?_
  ·have hb : refBad m o.kind k s = 13 := by
    have h : (!decide (ob.kind = gWanted o.kind (k : Int))) = true := hc4
    rw [refBad, hko]
    exact if_neg (by simpa using h)
   rw [hb, if_neg (by decide)] at hinv
   refine Sq<|Rg<|Dd as'<|Zz<|awp_ret ?_
   refine Rt ?_
   exact ⟨by rw [hinv], rfl⟩
  have hb : refBad m o.kind k s = 0 := by
   have h : (!decide (ob.kind = gWanted o.kind (k : Int))) = false := hc4
   rw [refBad, hko]
   exact if_pos (by simpa using h)
  rw [if_pos hb] at hinv
  refine awp_skip<|Rg<|Dd mv'<|Dd ad'<|Dd as'<|Zz ?_
  exact ⟨k + 1, ⟨by omega, hinv⟩, by omega, Wk⟩
 have hge : k = o.refs.length := by have := of_decide_eq_false hc1; omega
 subst hge
 rw [List.drop_length, refErr] at hinv
 refine awp_exit<|Sq<|Rg<|Dd as'<|Zz<|awp_ret ?_
 refine Rt ?_
 exact ⟨by rw [hinv], rfl⟩
theorem rClosed_c (m : List GObj) (H : Heap) (hm : okM m) : ACalls Tryz.prog 25 [.agg [.pv (slObjs m)]] H (fun r H' => r = bv (closedB m) ∧ H' = H) := by
 refine ACalls.pure ?_ (by simp) H
 have hml : (m.map encObj).length = m.length := List.length_map _
 have hl := hm.1
 refine Bd Tryz.func25 rfl Tryz.ntmps25<|Sq<|Rg<|Dd (by exact opd_box (id := 1) rfl rfl rfl rfl rfl)<|Dd as'<|Zz<|Sq<|Sq<|Rg<|Dd (by exact opd_loadn_ref rfl Tryz.isAgg24 Tryz.sizeOf24 rfl rfl rfl rfl (by simp only [Zl, encTag, encObj, encStr, encInt]; rfl) rfl)<|Dd (by exact opr_call rfl rfl Tryz.call55 rfl (rMap_c m _ hm))<|Dd no'<|Zz ?_
 refine Cn (fun hc1 => ?_) fun hc1 => ?_
 ·have hg : gMap m = false := by
   have h : (!gMap m) = true := hc1
   simpa using h
  refine Sq<|Rg<|Dd as'<|Zz<|awp_ret ?_
  refine Rt ?_
  exact ⟨by rw [closedB, hg, Bool.false_and], rfl⟩
 have hg : gMap m = true := by
  have h : (!gMap m) = false := hc1
  simpa using h
 rw [closedB, hg, Bool.true_and]
 refine awp_skip<|Sq<|Sq<|Rg<|Dd as'<|Zz<|awp_block ?_
 refine awp_loop (σ := Nat) (fun k => ([(1, .ref 1 0 0 0), (3, iv (k : Int))], [(1, bx 1 24 [.pv (slObjs m)])])) (fun k => k ≤ m.length ∧ ∀ j, j < k → ∀ b, m[j]? = some b → (!decide (refErr m b.kind 0 b.refs = 0)) = false) (fun k => m.length - k) 0 ⟨by omega, by omega⟩ ?_ ?_
 ·exact Wk
 rintro k ⟨hk, hno⟩
 refine Sq<|Sq<|Rg<|Dd mv'<|Dd (fr' fo24_0)<|Dd (l1' Tryz.isAgg22)<|Dd (ll' Tryz.underlying22)<|Dd lss'<|Zz ?_
 refine Cn (fun hc2 => ?_) fun hc2 => ?_
 ·have hlt : k < m.length := by have := of_decide_eq_true hc2; omega
  obtain ⟨o, ho⟩ := get_of_lt hlt
  have hi := map_get (f := encObj) ho
  have hoo := hm.2 o (List.mem_of_getElem? ho)
  refine awp_skip<|Sq<|awp_block<|Sq ?_
  refine awp_drawc follows ?_
  refine Cq (by exact opd_loadn_ref rfl Tryz.isAgg24 Tryz.sizeOf24 rfl rfl rfl rfl (by simp only [Zl, encTag, encObj, encStr, encInt]; rfl) rfl)<|Cq (fr' fo24_0)<|Cq (l1' Tryz.isAgg22)<|Cq mv'<|Cq (xp' so22)<|Cq (by exact opd_loadn_pad rfl Tryz.isAgg36 Tryz.sizeOf36 rfl (by omega) (by simp only [Zl, encTag, encObj, encStr, encInt]; rfl) rfl)<|Cq (by exact opr_call rfl rfl Tryz.call27 rfl (rErr_c m o _ hl hoo.2.2.1))<|Cq ne' ?_
  refine dc_nil ⟨by kernel_rfl, ?_⟩
  refine Cn (fun hc3 => ?_) fun hc3 => ?_
  ·have hf : m.all (fun o => decide (refErr m o.kind 0 o.refs = 0)) = false := by
    rw [List.all_eq_false]
    exact ⟨o, List.mem_of_getElem? ho, by simpa using hc3⟩
   refine Sq<|Rg<|Dd as'<|Zz<|awp_ret ?_
   refine Rt ?_
   exact ⟨by rw [hf], rfl⟩
  skip
  refine awp_skip<|Rg<|Dd mv'<|Dd ad'<|Dd as'<|Zz ?_
  exact ⟨k + 1, ⟨by omega, pre_succ hno ho hc3⟩, by omega, Wk⟩
 have hge : k = m.length := by have := of_decide_eq_false hc2; omega
 subst hge
 have hf : m.all (fun o => decide (refErr m o.kind 0 o.refs = 0)) = true := by
  rw [List.all_eq_true]
  intro o ho
  obtain ⟨j, hj⟩ := List.mem_iff_getElem?.1 ho
  have := hno j (List.getElem?_eq_some_iff.1 hj).1 o hj
  simpa using this
 refine awp_exit<|Sq<|Rg<|Dd as'<|Zz<|awp_ret ?_
 refine Rt ?_
 exact ⟨by rw [hf], rfl⟩
end Go.Proofs.YtbbnllojhjlaoaaGreat
end
section
set_option linter.unusedVariables false
set_option linter.unusedSimpArgs false
set_option maxRecDepth 100000
namespace Go.Proofs.YtbbnllojhjlaoaaGreat
open Go.Abs
/-- The k-th elements are equal, for all k below n. -/
def eqTo {α : Type} (e : α → α → Bool) (a b : List α) : Bool := decide (a.length = b.length) && (List.range a.length).all fun k => match a[k]?, b[k]? with | some x, some y => e x y | _, _ => true
theorem eqTo_iff {α : Type} {e : α → α → Bool} (he : ∀ x y, e x y = true ↔ x = y) {a b : List α} : eqTo e a b = true ↔ a = b := by
 constructor
 ·intro h
  simp only [eqTo, Bool.and_eq_true, decide_eq_true_eq, List.all_eq_true, List.mem_range] at h
  apply List.ext_getElem h.1
  intro k h1 h2
  have := h.2 k h1
  rw [List.getElem?_eq_getElem h1, List.getElem?_eq_getElem h2] at this
  exact (he _ _).1 this
 rintro rfl
 simp only [eqTo, Bool.and_eq_true, decide_eq_true_eq, List.all_eq_true, List.mem_range, true_and]
 intro k hk
 rw [List.getElem?_eq_getElem hk]
 exact (he _ _).2 rfl
theorem eqTo_bad {α : Type} {e : α → α → Bool} {a b : List α} {k : Nat} {x y : α} (hx : a[k]? = some x) (hy : b[k]? = some y) (h : e x y = false) : eqTo e a b = false := by
 have hk := (List.getElem?_eq_some_iff.1 hx).1
 rw [eqTo, Bool.and_eq_false_iff]
 right
 rw [List.all_eq_false]
 exact ⟨k, List.mem_range.2 hk, by rw [hx, hy]; simp [h]⟩
theorem eqTo_len {α : Type} {e : α → α → Bool} {a b : List α} (h : ¬ a.length = b.length) : eqTo e a b = false := by simp [eqTo, h]
theorem eqTo_good {α : Type} {e : α → α → Bool} {a b : List α} (hl : a.length = b.length) (h : ∀ k, k < a.length → ∀ x y, a[k]? = some x → b[k]? = some y → e x y = true) : eqTo e a b = true := by
 simp only [eqTo, Bool.and_eq_true, decide_eq_true_eq, List.all_eq_true, List.mem_range]
 refine ⟨hl, fun k hk => ?_⟩
 rw [List.getElem?_eq_getElem hk, List.getElem?_eq_getElem (by omega)]
 exact h k hk _ _ (List.getElem?_eq_getElem hk) (List.getElem?_eq_getElem (by omega))
def strEq (a b : ByteArray) : Bool := decide (a = b)
theorem strEq_iff (a b : ByteArray) : strEq a b = true ↔ a = b := by simp [strEq]
def headEq (a b : GObj) : Bool := decide (a.id = b.id) && decide (a.kind = b.kind) && (decide (a.x = b.x) && decide (a.y = b.y)) && decide (a.refs.length = b.refs.length) && decide (a.tags.length = b.tags.length)
def gSameR (a b : GObj) : Bool := headEq a b && (eqTo strEq a.refs b.refs && eqTo tagEq a.tags b.tags)
theorem gSameR_iff {a b : GObj} : gSameR a b = true ↔ a = b := by
 rw [gSameR, Bool.and_eq_true, Bool.and_eq_true, eqTo_iff strEq_iff, eqTo_iff tagEq_iff]
 cases a; cases b
 simp only [headEq, Bool.and_eq_true, decide_eq_true_eq, GObj.mk.injEq]
 constructor
 ·rintro ⟨⟨⟨⟨⟨a1, a2⟩, a3, a4⟩, a5⟩, a6⟩, a7, a8⟩
  exact ⟨a1, a2, a3, a4, a7, a8⟩
 rintro ⟨a1, a2, a3, a4, a7, a8⟩
 exact ⟨⟨⟨⟨⟨a1, a2⟩, a3, a4⟩, by rw [a7]⟩, by rw [a8]⟩, a7, a8⟩
def headNe (a b : GObj) (n1 n2 n3 n4 : Int) : Bool := !decide (a.id = b.id) || !decide (a.kind = b.kind) || !(decide (a.x = b.x) && decide (a.y = b.y)) || !decide (n1 = n2) || !decide (n3 = n4)
theorem headNe_eq (a b : GObj) : headNe a b ((a.refs.map encStr).length : Int) ((b.refs.map encStr).length : Int) ((a.tags.map encTag).length : Int) ((b.tags.map encTag).length : Int) = !headEq a b := by
 simp only [headNe, headEq, List.length_map, Bool.not_and, Int.natCast_inj]
theorem same11_c (a b : GObj) (H : Heap) (ha : a.refs.length < 4611686018427387904) (ha2 : a.tags.length < 4611686018427387904) : ACalls Tryz.prog 36 [av (encObj a), av (encObj b)] H (fun r H' => r = bv (gSameR a b) ∧ H' = H) := by
 refine ACalls.pure ?_ (by simp) H
 have hra : (a.refs.map encStr).length = a.refs.length := List.length_map _
 have hta : (a.tags.map encTag).length = a.tags.length := List.length_map _
 refine Bd Tryz.func36 rfl Tryz.ntmps36<|Sq<|Rg<|Dd (by exact opd_box (id := 2) rfl rfl rfl rfl rfl)<|Dd (by exact opd_box (id := 3) rfl rfl rfl rfl rfl)<|Dd as'<|Zz<|Sq<|Sq ?_
 refine awp_bool (t := 43) (n := 41) (X := headNe a b ((a.refs.map encStr).length : Int) ((b.refs.map encStr).length : Int) ((a.tags.map encTag).length : Int) ((b.tags.map encTag).length : Int)) ?_ ?_
 ·all_goals refine Dd (fr' fo36_0) ?_
  all_goals refine Dd (l1' Tryz.isAgg9) ?_
  all_goals refine Dd (fr' fo36_0) ?_
  all_goals refine Dd (l1' Tryz.isAgg9) ?_
  all_goals refine Dd sn' ?_
  all_goals refine Dd mv' ?_
  all_goals refine Sp 12 (fun h12 => ?_) fun h12 => ?_
  all_goals try contradiction
  all_goals first | refine Fo ?_ | refine On (fr' fo36_1) ?_
  all_goals first | refine Fo ?_ | refine On (l1' Tryz.isAgg3) ?_
  all_goals first | refine Fo ?_ | refine On (fr' fo36_1) ?_
  all_goals first | refine Fo ?_ | refine On (l1' Tryz.isAgg3) ?_
  all_goals first | refine Fo ?_ | refine On ne' ?_
  all_goals refine Dd pk' ?_
  all_goals refine Dd mv' ?_
  all_goals refine Sp 19 (fun h19 => ?_) fun h19 => ?_
  all_goals try contradiction
  all_goals first | refine Fo ?_ | refine On (fr' fo36_2) ?_
  all_goals first | refine Fo ?_ | refine On (by exact opd_loadn_ref rfl Tryz.isAgg32 Tryz.sizeOf32 rfl rfl rfl rfl (by simp only [Zl, encTag, encObj, encStr]; rfl) rfl) ?_
  all_goals first | refine Fo ?_ | refine On (fr' fo36_2) ?_
  all_goals first | refine Fo ?_ | refine On (by exact opd_loadn_ref rfl Tryz.isAgg32 Tryz.sizeOf32 rfl rfl rfl rfl (by simp only [Zl, encTag, encObj, encStr]; rfl) rfl) ?_
  all_goals first | refine Fo ?_ | refine On (by exact opd_aneq rfl rfl rfl rfl rfl Tryz.eqGuardType32 (se32 _ _ _ _)) ?_
  all_goals refine Dd pk' ?_
  all_goals refine Dd mv' ?_
  all_goals refine Sp 26 (fun h26 => ?_) fun h26 => ?_
  all_goals try contradiction
  all_goals first | refine Fo ?_ | refine On (fr' fo36_3) ?_
  all_goals first | refine Fo ?_ | refine On (l1' Tryz.isAgg33) ?_
  all_goals first | refine Fo ?_ | refine On (ll' Tryz.underlying33) ?_
  all_goals first | refine Fo ?_ | refine On (fr' fo36_3) ?_
  all_goals first | refine Fo ?_ | refine On (l1' Tryz.isAgg33) ?_
  all_goals first | refine Fo ?_ | refine On (ll' Tryz.underlying33) ?_
  all_goals first | refine Fo ?_ | refine On ne' ?_
  all_goals refine Dd pk' ?_
  all_goals refine Dd mv' ?_
  all_goals refine Sp 35 (fun h35 => ?_) fun h35 => ?_
  all_goals try contradiction
  all_goals first | refine Fo ?_ | refine On (fr' fo36_4) ?_
  all_goals first | refine Fo ?_ | refine On (l1' Tryz.isAgg34) ?_
  all_goals first | refine Fo ?_ | refine On (ll' Tryz.underlying34) ?_
  all_goals first | refine Fo ?_ | refine On (fr' fo36_4) ?_
  all_goals first | refine Fo ?_ | refine On (l1' Tryz.isAgg34) ?_
  all_goals first | refine Fo ?_ | refine On (ll' Tryz.underlying34) ?_
  all_goals first | refine Fo ?_ | refine On ne' ?_
  all_goals refine Dd pk' ?_
  all_goals refine al_nil ?_
  all_goals (exact ⟨⟨_, rfl, by first | (simp only [headNe, *]; rfl) | (simp_all [headNe]; done)⟩, rfl, rfl, rfl⟩)
 refine Cn (fun hc1 => ?_) fun hc1 => ?_
 ·rw [headNe_eq] at hc1
  refine Sq<|Rg<|Dd as'<|Zz<|awp_ret ?_
  refine Rt ?_
  refine ⟨?_, rfl⟩
  have : headEq a b = false := by simpa using hc1
  rw [gSameR, this]; rfl
 rw [headNe_eq] at hc1
 have hh : headEq a b = true := by simpa using hc1
 have hlens : a.refs.length = b.refs.length ∧ a.tags.length = b.tags.length := by
  simp only [headEq, Bool.and_eq_true, decide_eq_true_eq] at hh
  exact ⟨hh.1.2, hh.2⟩
 obtain ⟨hl1, hl2⟩ := hlens
 rw [gSameR, hh, Bool.true_and]
 refine awp_skip<|Sq<|Sq<|Rg<|Dd as'<|Zz<|awp_block ?_
 refine awp_loop (σ := Nat) (fun k => ([(2, .ref 2 0 0 0), (3, .ref 3 0 0 0), (5, iv (k : Int))], [(3, bx 6 36 ((encObj b).map .pv)), (2, bx 6 36 ((encObj a).map .pv))])) (fun k => k ≤ a.refs.length ∧ ∀ j, j < k → ∀ x y, a.refs[j]? = some x → b.refs[j]? = some y → strEq x y = true) (fun k => a.refs.length - k) 0 ⟨by omega, by omega⟩ ?_ ?_
 ·exact Wk
 rintro k ⟨hk, hall⟩
 refine Sq<|Sq<|Rg<|Dd mv'<|Dd (fr' fo36_3)<|Dd (l1' Tryz.isAgg33)<|Dd (ll' Tryz.underlying33)<|Dd lss'<|Zz ?_
 refine Cn (fun hc2 => ?_) fun hc2 => ?_
 ·have hlt : k < a.refs.length := by have := of_decide_eq_true hc2; omega
  obtain ⟨x, hx⟩ := get_of_lt hlt
  obtain ⟨y, hy⟩ := get_of_lt (l := b.refs) (k := k) (by omega)
  have hi := map_get (f := encStr) hx
  have hi2 := map_get (f := encStr) hy
  refine awp_skip<|Sq<|awp_block<|Sq ?_
  refine awp_drawc follows ?_
  refine Cq (fr' fo36_3)<|Cq (l1' Tryz.isAgg33)<|Cq mv'<|Cq (xp' so33)<|Cq (lp' Tryz.isAgg9)<|Cq (fr' fo36_3)<|Cq (l1' Tryz.isAgg33)<|Cq mv'<|Cq (xp' so33)<|Cq (lp' Tryz.isAgg9)<|Cq sn' ?_
  refine dc_nil ⟨by kernel_rfl, ?_⟩
  refine Cn (fun hc3 => ?_) fun hc3 => ?_
  ·have ht : strEq x y = false := by
    have h : (!strEq x y) = true := hc3
    simpa using h
   refine Sq<|Rg<|Dd as'<|Zz<|awp_ret ?_
   refine Rt ?_
   exact ⟨by rw [eqTo_bad hx hy ht]; rfl, rfl⟩
  have ht : strEq x y = true := by
   have h : (!strEq x y) = false := hc3
   simpa using h
  refine awp_skip<|Rg<|Dd mv'<|Dd ad'<|Dd as'<|Zz ?_
  refine ⟨k + 1, ⟨by omega, fun j hj x' y' h1 h2 => ?_⟩, by omega, Wk⟩
  by_cases e : j = k
  ·subst e; rw [hx] at h1; rw [hy] at h2; cases h1; cases h2; exact ht
  exact hall j (by omega) x' y' h1 h2
 have hge : k = a.refs.length := by have := of_decide_eq_false hc2; omega
 subst hge
 rw [eqTo_good hl1 hall, Bool.true_and]
 refine awp_exit<|Sq<|Sq<|Rg<|Dd as'<|Zz<|awp_block ?_
 refine awp_loop (σ := Nat) (fun k => ([(2, .ref 2 0 0 0), (3, .ref 3 0 0 0), (6, iv (k : Int))], [(3, bx 6 36 ((encObj b).map .pv)), (2, bx 6 36 ((encObj a).map .pv))])) (fun k => k ≤ a.tags.length ∧ ∀ j, j < k → ∀ x y, a.tags[j]? = some x → b.tags[j]? = some y → tagEq x y = true) (fun k => a.tags.length - k) 0 ⟨by omega, by omega⟩ ?_ ?_
 ·exact Wk
 rintro k ⟨hk, hall2⟩
 refine Sq<|Sq<|Rg<|Dd mv'<|Dd (fr' fo36_4)<|Dd (l1' Tryz.isAgg34)<|Dd (ll' Tryz.underlying34)<|Dd lss'<|Zz ?_
 refine Cn (fun hc4 => ?_) fun hc4 => ?_
 ·have hlt : k < a.tags.length := by have := of_decide_eq_true hc4; omega
  obtain ⟨x, hx⟩ := get_of_lt hlt
  obtain ⟨y, hy⟩ := get_of_lt (l := b.tags) (k := k) (by omega)
  have hi := map_get (f := encTag) hx
  have hi2 := map_get (f := encTag) hy
  refine awp_skip<|Sq<|awp_block<|Sq ?_
  refine awp_drawc follows ?_
  refine Cq (fr' fo36_4)<|Cq (l1' Tryz.isAgg34)<|Cq mv'<|Cq (xp' so34)<|Cq (by exact opd_loadn_pad rfl Tryz.isAgg67 Tryz.sizeOf67 rfl (by omega) (by simp only [Zl, encTag, encObj, encStr]; rfl) rfl)<|Cq (fr' fo36_4)<|Cq (l1' Tryz.isAgg34)<|Cq mv'<|Cq (xp' so34)<|Cq (by exact opd_loadn_pad rfl Tryz.isAgg67 Tryz.sizeOf67 rfl (by omega) (by simp only [Zl, encTag, encObj, encStr]; rfl) rfl)<|Cq (by exact opd_aneq rfl rfl rfl rfl rfl Tryz.eqGuardType67 (se67 _ _ _ _)) ?_
  refine dc_nil ⟨by kernel_rfl, ?_⟩
  refine Cn (fun hc5 => ?_) fun hc5 => ?_
  ·have ht : tagEq x y = false := by
    have h : (!tagEq x y) = true := hc5
    simpa using h
   refine Sq<|Rg<|Dd as'<|Zz<|awp_ret ?_
   refine Rt ?_
   exact ⟨by rw [eqTo_bad hx hy ht], rfl⟩
  have ht : tagEq x y = true := by
   have h : (!tagEq x y) = false := hc5
   simpa using h
  refine awp_skip<|Rg<|Dd mv'<|Dd ad'<|Dd as'<|Zz ?_
  refine ⟨k + 1, ⟨by omega, fun j hj x' y' h1 h2 => ?_⟩, by omega, Wk⟩
  by_cases e : j = k
  ·subst e; rw [hx] at h1; rw [hy] at h2; cases h1; cases h2; exact ht
  exact hall2 j (by omega) x' y' h1 h2
 have hge : k = a.tags.length := by have := of_decide_eq_false hc4; omega
 subst hge
 refine awp_exit<|Sq<|Rg<|Dd as'<|Zz<|awp_ret ?_
 refine Rt ?_
 exact ⟨by rw [eqTo_good hl2 hall2], rfl⟩
def gSameM (a b : List GObj) : Bool := eqTo gSameR a b
theorem gSameM_iff {a b : List GObj} : gSameM a b = true ↔ a = b := eqTo_iff (fun _ _ => gSameR_iff)
def okL (m : List GObj) : Prop := m.length < 4611686018427387904 ∧ ∀ o ∈ m, o.refs.length < 4611686018427387904 ∧ o.tags.length < 4611686018427387904
theorem same12_c (a b : List GObj) (H : Heap) (ha : okL a) : ACalls Tryz.prog 10 [.agg [.pv (slObjs a)], .agg [.pv (slObjs b)]] H (fun r H' => r = bv (gSameM a b) ∧ H' = H) := by
 refine ACalls.pure ?_ (by simp) H
 have hma : (a.map encObj).length = a.length := List.length_map _
 have hmb : (b.map encObj).length = b.length := List.length_map _
 have hl := ha.1
 rw [gSameM]
 refine Bd Tryz.func10 rfl Tryz.ntmps10<|Sq<|Rg<|Dd (by exact opd_box (id := 2) rfl rfl rfl rfl rfl)<|Dd (by exact opd_box (id := 3) rfl rfl rfl rfl rfl)<|Dd as'<|Zz<|Sq<|Sq<|Rg<|Dd (fr' fo24_0)<|Dd (l1' Tryz.isAgg22)<|Dd (ll' Tryz.underlying22)<|Dd (fr' fo24_0)<|Dd (l1' Tryz.isAgg22)<|Dd (ll' Tryz.underlying22)<|Dd ne'<|Zz ?_
 refine Cn (fun hc1 => ?_) fun hc1 => ?_
 ·have hne : ¬ a.length = b.length := by
   simp only [hma, hmb, Bool.not_eq_true', decide_eq_false_iff_not] at hc1
   omega
  refine Sq<|Rg<|Dd as'<|Zz<|awp_ret ?_
  refine Rt ?_
  exact ⟨by rw [eqTo_len hne], rfl⟩
 have heq : a.length = b.length := by
  simp only [hma, hmb, Bool.not_eq_false', decide_eq_true_eq] at hc1
  omega
 refine awp_skip<|Sq<|Sq<|Rg<|Dd as'<|Zz<|awp_block ?_
 refine awp_loop (σ := Nat) (fun k => ([(2, .ref 2 0 0 0), (3, .ref 3 0 0 0), (5, iv (k : Int))], [(3, bx 1 24 [.pv (slObjs b)]), (2, bx 1 24 [.pv (slObjs a)])])) (fun k => k ≤ a.length ∧ ∀ j, j < k → ∀ x y, a[j]? = some x → b[j]? = some y → gSameR x y = true) (fun k => a.length - k) 0 ⟨by omega, by omega⟩ ?_ ?_
 ·exact Wk
 rintro k ⟨hk, hall⟩
 refine Sq<|Sq<|Rg<|Dd mv'<|Dd (fr' fo24_0)<|Dd (l1' Tryz.isAgg22)<|Dd (ll' Tryz.underlying22)<|Dd lss'<|Zz ?_
 refine Cn (fun hc2 => ?_) fun hc2 => ?_
 ·have hlt : k < a.length := by have := of_decide_eq_true hc2; omega
  obtain ⟨x, hx⟩ := get_of_lt hlt
  obtain ⟨y, hy⟩ := get_of_lt (l := b) (k := k) (by omega)
  have hi := map_get (f := encObj) hx
  have hi2 := map_get (f := encObj) hy
  have hox := ha.2 x (List.mem_of_getElem? hx)
  refine awp_skip<|Sq<|awp_block<|Sq ?_
  refine awp_drawc follows ?_
  refine Cq (fr' fo24_0)<|Cq (l1' Tryz.isAgg22)<|Cq mv'<|Cq (xp' so22)<|Cq (by exact opd_loadn_pad rfl Tryz.isAgg36 Tryz.sizeOf36 rfl (by omega) (by simp only [Zl, encTag, encObj, encStr]; rfl) rfl)<|Cq (fr' fo24_0)<|Cq (l1' Tryz.isAgg22)<|Cq mv'<|Cq (xp' so22)<|Cq (by exact opd_loadn_pad rfl Tryz.isAgg36 Tryz.sizeOf36 rfl (by omega) (by simp only [Zl, encTag, encObj, encStr]; rfl) rfl)<|Cq (by exact opr_call rfl rfl Tryz.call36 rfl (same11_c x y _ hox.1 hox.2))<|Cq no' ?_
  refine dc_nil ⟨by kernel_rfl, ?_⟩
  refine Cn (fun hc3 => ?_) fun hc3 => ?_
  ·have ht : gSameR x y = false := by
    have h : (!gSameR x y) = true := hc3
    simpa using h
   refine Sq<|Rg<|Dd as'<|Zz<|awp_ret ?_
   refine Rt ?_
   exact ⟨by rw [eqTo_bad hx hy ht], rfl⟩
  have ht : gSameR x y = true := by
   have h : (!gSameR x y) = false := hc3
   simpa using h
  refine awp_skip<|Rg<|Dd mv'<|Dd ad'<|Dd as'<|Zz ?_
  refine ⟨k + 1, ⟨by omega, fun j hj x' y' h1 h2 => ?_⟩, by omega, Wk⟩
  by_cases e : j = k
  ·subst e; rw [hx] at h1; rw [hy] at h2; cases h1; cases h2; exact ht
  exact hall j (by omega) x' y' h1 h2
 have hge : k = a.length := by have := of_decide_eq_false hc2; omega
 subst hge
 refine awp_exit<|Sq<|Rg<|Dd as'<|Zz<|awp_ret ?_
 refine Rt ?_
 exact ⟨by rw [eqTo_good heq hall], rfl⟩
theorem gSameR_eq (a b : GObj) : gSameR a b = gSameO a b := by rw [Bool.eq_iff_iff, gSameR_iff, gSameO_iff]
theorem rSame_c (a b : GObj) (H : Heap) (ha : a.refs.length < 4611686018427387904) (ha2 : a.tags.length < 4611686018427387904) : ACalls Tryz.prog 36 [av (encObj a), av (encObj b)] H (fun r H' => r = bv (gSameO a b) ∧ H' = H) := by
 rw [← gSameR_eq]
 exact same11_c a b H ha ha2
end Go.Proofs.YtbbnllojhjlaoaaGreat
end
section
set_option linter.unusedVariables false
set_option linter.unusedSimpArgs false
set_option maxRecDepth 100000
namespace Go.Proofs.YtbbnllojhjlaoaaGreat
open Go.Abs
theorem rGet_c (l : List GTag) (key : ByteArray) (H : Heap) (hl : l.length < 4611686018427387904) : ACalls Tryz.prog 33 [.pv (slTags l), sv key] H (fun r H' => r = .tup [sv ((gGet l key).getD sNil), bv (gGet l key).isSome] ∧ H' = H) := by
 refine ACalls.pure ?_ (by simp) H
 have hml : (l.map encTag).length = l.length := List.length_map _
 refine Bd Tryz.func33 rfl Tryz.ntmps33<|Sq<|Rg<|Dd as'<|Dd as'<|Zz<|Sq<|Sq<|Rg<|Dd as'<|Zz<|awp_block ?_
 refine awp_loop (σ := Nat) (fun k => ([(0, .pv (slTags l)), (1, sv key), (6, iv (k : Int))], [])) (fun k => k ≤ l.length ∧ ∀ j, j < k → ∀ b, l[j]? = some b → decide (b.key = key) = false) (fun k => l.length - k) 0 ⟨by omega, by omega⟩ ?_ ?_
 ·exact E0
 rintro k ⟨hk, hno⟩
 refine Sq<|Sq<|Rg<|Dd mv'<|Dd mv'<|Dd (ll' Tryz.underlying34)<|Dd lss'<|Zz ?_
 refine Cn (fun hc1 => ?_) fun hc1 => ?_
 ·have hlt : k < l.length := by have := of_decide_eq_true hc1; omega
  obtain ⟨o, ho⟩ := get_of_lt hlt
  have hi := map_get (f := encTag) ho
  refine awp_skip<|Sq<|awp_block<|Sq<|Rg<|Dd mv'<|Dd mv'<|Dd (xp' so34)<|Dd (fp' fo67_0)<|Dd (lp' Tryz.isAgg9)<|Dd mv'<|Dd se'<|Zz ?_
  refine Cn (fun hc2 => ?_) fun hc2 => ?_
  ·skip
   refine Sq<|Rg<|Dd mv'<|Dd mv'<|Dd (xp' so34)<|Dd (fp' fo67_1)<|Dd (lp' Tryz.isAgg9)<|Dd as'<|Dd as'<|Zz<|awp_ret ?_
   refine Ru ?_
   exact ⟨by rw [gGet, find_some hno ho hc2]; rfl, rfl⟩
  skip
  refine awp_skip<|Rg<|Dd mv'<|Dd ad'<|Dd as'<|Zz ?_
  exact ⟨k + 1, ⟨by omega, pre_succ hno ho hc2⟩, by omega, E0⟩
 have hge : k = l.length := by have := of_decide_eq_false hc1; omega
 subst hge
 refine awp_exit<|Sq<|Rg<|Dd as'<|Dd as'<|Zz<|awp_ret ?_
 refine Ru ?_
 exact ⟨by rw [gGet, find_none hno]; rfl, rfl⟩
def rIs (x y : Int) : Bool := ((decide (-2097152 ≤ x) && decide (x ≤ 2097152)) && decide (-2097152 ≤ y)) && decide (y ≤ 2097152)
end Go.Proofs.YtbbnllojhjlaoaaGreat
end
section
set_option linter.unusedVariables false
set_option linter.unusedSimpArgs false
set_option maxRecDepth 100000
namespace Go.Proofs.YtbbnllojhjlaoaaGreat
open Go.Abs
def noId (o : GObj) : GObj := ⟨sNil, o.kind, o.x, o.y, o.refs, o.tags⟩
def rFit (k : Nat) (a b : GEdit) : Bool := if k = 4 then !decide (a.obj.id = b.obj.id) && gSameO (noId a.obj) (noId b.obj) else !decide (a.id = b.id)
def rFirst (S : GEdit → Bool) (T : GEdit → GEdit → Bool) (l : List GEdit) (frm n : Nat) (x0 : GEdit) : List Nat := if S x0 then gr S T (l.drop frm) frm n [] else []
end Go.Proofs.YtbbnllojhjlaoaaGreat
end
