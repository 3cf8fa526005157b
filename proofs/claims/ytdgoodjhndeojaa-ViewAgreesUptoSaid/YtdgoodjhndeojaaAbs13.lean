/-
  THE ABSTRACT LOGIC, 13: a slice that is nil is owned from here on. Conditions: none.
-/
import Derived.Test.YtdgoodjhndeojaaAbs12
set_option linter.unusedVariables false
namespace Go.Abs
/-- Slots and cells in another writing: a nil slice becomes the owned object 'id' (of no rows), or a slice of no rows. -/
inductive Nz (H' : Heap) (id : Nat) : AV → AV → Prop
  | same {a : AV} (h : Clo H' a) : Nz H' id a a
  | own : Nz H' id (.pv .nils) (.osl id 0 0 0)
  | weak : Nz H' id (.pv .nils) (.pv (.sl []))
  | agg {cs cs' : List AV} (hl : cs.length = cs'.length) (h : ∀ (i : Nat) (a a' : AV), cs[i]? = some a → cs'[i]? = some a' → Nz H' id a a') : Nz H' id (.agg cs) (.agg cs')
  | tup {cs cs' : List AV} (hl : cs.length = cs'.length) (h : ∀ (i : Nat) (a a' : AV), cs[i]? = some a → cs'[i]? = some a' → Nz H' id a a') : Nz H' id (.tup cs) (.tup cs')
/-- The objects' marks are as they were. -/
def Alike (H H' : Heap) : Prop := ∀ j o', H'.get j = some o' → ∃ o, H.get j = some o ∧ o.g = o'.g ∧ o.sz = o'.sz ∧ o.ty = o'.ty ∧ o.rows.length = o'.rows.length
theorem VRel.alike {w : World} {I : Nat → Prop} {ι : Plc} {H H' : Heap} (hs : Alike H H') {v : Value} {a : AV} (h : VRel w I ι H v a) : Clo H' a → VRel w I ι H' v a := by
  induction h with
  | any v => exact fun _ => .any v
  | pv h => exact fun _ => .pv h
  | ref o hH hg h1 h =>
    intro hc
    rw [clo_ref] at hc
    obtain ⟨o', ho'⟩ := Option.isSome_iff_exists.1 hc
    obtain ⟨o2, e1, e2, e3, e4, e5⟩ := hs _ o' ho'
    rw [hH] at e1; cases e1
    exact .ref o' ho' (by omega) h1 (fun e => by rw [← e3]; exact h (by omega))
  | pad b off cap sz h hsz hlen cs hI hc hp => exact fun _ => .pad b off cap sz h hsz hlen cs hI hc hp
  | osl o hH hg h1 h =>
    intro hc
    rw [clo_osl] at hc
    obtain ⟨o', ho'⟩ := Option.isSome_iff_exists.1 hc
    obtain ⟨o2, e1, e2, e3, e4, e5⟩ := hs _ o' ho'
    rw [hH] at e1; cases e1
    exact .osl o' ho' (by omega) h1 (fun e => by rw [← e3, ← e5]; exact h (by omega))
  | clo hl h ih =>
    intro hc
    rw [clo_clo] at hc
    exact .clo hl (fun i v a hv ha => ih i v a hv ha (hc a (List.mem_of_getElem? ha)))
  | agg hl h1 h ih =>
    intro hc
    rw [clo_agg] at hc
    exact .agg hl h1 (fun i v a hv ha => ih i v a hv ha (hc a (List.mem_of_getElem? ha)))
  | tup hl h ih =>
    intro hc
    rw [clo_tup] at hc
    exact .tup hl (fun i v a hv ha => ih i v a hv ha (hc a (List.mem_of_getElem? ha)))
  | mp o hH hg h1 h =>
    intro hc
    rw [clo_mp] at hc
    obtain ⟨o', ho'⟩ := Option.isSome_iff_exists.1 hc
    obtain ⟨o2, e1, e2, e3, e4, e5⟩ := hs _ o' ho'
    rw [hH] at e1; cases e1
    exact .mp o' ho' (by omega) h1 (fun e => by rw [← e3]; exact h (by omega))
  | it o hH hg h1 h =>
    intro hc
    rw [clo_it] at hc
    obtain ⟨o', ho'⟩ := Option.isSome_iff_exists.1 hc
    obtain ⟨o2, e1, e2, e3, e4, e5⟩ := hs _ o' ho'
    rw [hH] at e1; cases e1
    exact .it o' ho' (by omega) h1 (fun e => by rw [← e3]; exact h (by omega))
theorem VRel.nz {w : World} {I : Nat → Prop} {ι : Plc} {H H' : Heap} {id : Nat} {ob : Ob} (hs : Alike H H') (hι : ι id = none) (hid : H'.get id = some ob) (hg : ob.g = 0) (hpos : 0 < ob.sz) {a a' : AV} (hn : Nz H' id a a') : ∀ {v : Value}, VRel w I ι H v a → VRel w I ι H' v a' := by
  induction hn with
  | same h => exact fun hv => hv.alike hs h
  | own =>
    intro v hv
    have := hv.pv_inv
    cases this
    exact .osl ob hid (by omega) rfl (fun _ => ⟨hpos, by omega, .inr ⟨hι, rfl, rfl, rfl⟩⟩)
  | weak =>
    intro v hv
    have := hv.pv_inv
    cases this
    exact .pv .nilsl
  | @agg cs cs' hl h ih =>
    intro v hv
    cases hv with
    | agg hl2 h1 h2 =>
      refine .agg (hl2.trans hl) h1 (fun i u a' hu ha' => ?_)
      have ha := List.getElem?_eq_getElem (l := cs) (i := i) (by have := (List.getElem?_eq_some_iff.1 ha').1; omega)
      exact ih i _ a' ha ha' (h2 i u _ hu ha)
  | @tup cs cs' hl h ih =>
    intro v hv
    cases hv with
    | tup hl2 h2 =>
      refine .tup (hl2.trans hl) (fun i u a' hu ha' => ?_)
      have ha := List.getElem?_eq_getElem (l := cs) (i := i) (by have := (List.getElem?_eq_some_iff.1 ha').1; omega)
      exact ih i _ a' ha ha' (h2 i u _ hu ha)
def NzL (H : Heap) (id : Nat) : List AV → List AV → Prop
  | [], [] => True
  | a :: l, b :: r => Nz H id a b ∧ NzL H id l r
  | _, _ => False
theorem NzL.spec {H : Heap} {id : Nat} : ∀ {l r : List AV}, NzL H id l r → l.length = r.length ∧ ∀ (k : Nat) (a b : AV), l[k]? = some a → r[k]? = some b → Nz H id a b
  | [], [], _ => ⟨rfl, fun k a b h => by simp at h⟩
  | a :: l, b :: r, h => ⟨by simp [(NzL.spec h.2).1], fun k x y h1 h2 => by
      cases k with
      | zero => cases h1; cases h2; exact h.1
      | succ k => exact (NzL.spec h.2).2 k x y h1 h2⟩
  | [], _ :: _, h => h.elim
  | _ :: _, [], h => h.elim
def NzR (H : Heap) (id : Nat) (rows rows' : List (List AV)) : Prop := (rows = rows' ∧ ∀ r ∈ rows', ∀ a ∈ r, Clo H a) ∨ ∃ r r', rows = [r] ∧ rows' = [r'] ∧ NzL H id r r'
theorem NzR.spec {H : Heap} {id : Nat} {rows rows' : List (List AV)} (h : NzR H id rows rows') : rows.length = rows'.length ∧ ∀ (i : Nat) (r' : List AV), rows'[i]? = some r' → ∃ r, rows[i]? = some r ∧ r.length = r'.length ∧ ∀ (k : Nat) (b : AV), r'[k]? = some b → ∃ a, r[k]? = some a ∧ Nz H id a b := by
  rcases h with ⟨rfl, hc⟩ | ⟨r, r', rfl, rfl, hl⟩
  · exact ⟨rfl, fun i r' hr => ⟨r', hr, rfl, fun k b hb => ⟨b, hb, .same (hc r' (List.mem_of_getElem? hr) b (List.mem_of_getElem? hb))⟩⟩⟩
  · refine ⟨rfl, fun i r2 hr => ?_⟩
    cases i with
    | zero =>
      cases hr
      obtain ⟨e1, e2⟩ := hl.spec
      refine ⟨r, rfl, e1, fun k b hb => ?_⟩
      have hlt := (List.getElem?_eq_some_iff.1 hb).1
      exact ⟨r[k], List.getElem?_eq_getElem (by omega), e2 k _ b (List.getElem?_eq_getElem (by omega)) hb⟩
    | succ i => simp at hr
def NzE (E : Env) (H : Heap) (id : Nat) : Env → Prop
  | [] => True
  | (t, v) :: r => (∃ v0, E.get t = some v0 ∧ Nz H id v0 v) ∧ NzE E H id r
theorem NzE.spec {E : Env} {H : Heap} {id : Nat} : ∀ {E' : Env}, NzE E H id E' → ∀ p ∈ E', ∃ v0, E.get p.1 = some v0 ∧ Nz H id v0 p.2
  | (t, v) :: r, h, p, hp => by
    rcases List.mem_cons.1 hp with e | e
    · subst e; exact h.1
    · exact NzE.spec h.2 p e
def NzH (H H2 : Heap) (id : Nat) : Heap → Prop
  | [] => True
  | (j, o') :: r => (∃ o, H.get j = some o ∧ o.g = o'.g ∧ o.sz = o'.sz ∧ o.ty = o'.ty ∧ NzR H2 id o.rows o'.rows) ∧ NzH H H2 id r
theorem NzH.spec {H H2 : Heap} {id : Nat} : ∀ {H' : Heap}, NzH H H2 id H' → ∀ p ∈ H', ∃ o, H.get p.1 = some o ∧ o.g = p.2.g ∧ o.sz = p.2.sz ∧ o.ty = p.2.ty ∧ NzR H2 id o.rows p.2.rows
  | (j, o') :: r, h, p, hp => by
    rcases List.mem_cons.1 hp with e | e
    · subst e; exact h.1
    · exact NzH.spec h.2 p e
/-- Nil slices are owned from here on, or are slices of no rows. -/
theorem Ent.nz {G0 : Heap} {E E' : Env} {H H' : Heap} (id sz ty : Nat) (hid : H.get id = none) (hsz : Nat.blt 0 sz = true) (hE : NzE E ((id, ⟨0, sz, ty, []⟩) :: H') id E') (hH : NzH H ((id, ⟨0, sz, ty, []⟩) :: H') id H') (hk : KOk ((id, ⟨0, sz, ty, []⟩) :: H') H G0) :
    Ent G0 E H E' ((id, ⟨0, sz, ty, []⟩) :: H') := by
  intro G hG N a w hs
  obtain ⟨I, ι, hr, hst, he⟩ := hs.rel
  obtain ⟨a1, a2⟩ := hr.adopt (sz := sz) (ty := ty) hid (by simpa [Nat.blt_eq] using hsz)
  have hpz : 0 < sz := by simpa [Nat.blt_eq] using hsz
  obtain ⟨ι', hι'⟩ : ∃ ι' : Plc, ι' = (fun j => if j = id then none else ι j) := ⟨_, rfl⟩
  rw [← hι'] at a1 a2
  have hιid : ι' id = none := by rw [hι']; simp
  obtain ⟨H1, hH1⟩ : ∃ H1 : Heap, H1 = (id, (⟨0, sz, ty, []⟩ : Ob)) :: H := ⟨_, rfl⟩
  obtain ⟨H2, hH2⟩ : ∃ H2 : Heap, H2 = (id, (⟨0, sz, ty, []⟩ : Ob)) :: H' := ⟨_, rfl⟩
  rw [← hH1] at a1 a2
  rw [← hH2] at hE hH hk ⊢
  have g1 : H1.get id = some ⟨0, sz, ty, []⟩ := by rw [hH1]; simp [Heap.get]
  have g2 : H2.get id = some ⟨0, sz, ty, []⟩ := by rw [hH2]; simp [Heap.get]
  have n1 : ∀ j, j ≠ id → H1.get j = H.get j := fun j e => by rw [hH1]; simp [Heap.get, beq_ne (Ne.symm e)]
  have n2 : ∀ j, j ≠ id → H2.get j = H'.get j := fun j e => by rw [hH2]; simp [Heap.get, beq_ne (Ne.symm e)]
  have hobj : ∀ j o', H2.get j = some o' → ∃ o, H1.get j = some o ∧ o.g = o'.g ∧ o.sz = o'.sz ∧ o.ty = o'.ty ∧ NzR H2 id o.rows o'.rows := by
    intro j o' ho
    by_cases e : j = id
    · subst e
      rw [g2] at ho; cases ho
      exact ⟨_, g1, rfl, rfl, rfl, .inl ⟨rfl, by simp⟩⟩
    · rw [n2 j e] at ho
      obtain ⟨o, e1, e2⟩ := hH.spec _ (mem_of_hget ho)
      exact ⟨o, (n1 j e).trans e1, e2⟩
  have hal : Alike H1 H2 := fun j o' ho => by
    obtain ⟨o, e1, e2, e3, e4, e5⟩ := hobj j o' ho
    exact ⟨o, e1, e2, e3, e4, e5.spec.1⟩
  have hown : ∀ b, Own ι' H2 b → Own ι' H1 b := by
    rintro b ⟨j, o', c, ho, hb⟩
    obtain ⟨o, e1, _⟩ := hobj j o' ho
    exact ⟨j, o, c, e1, hb⟩
  have hrel : Rel I ι' H2 w := by
    refine ⟨a1.imm, fun j o' ho => ?_, fun j j' o o' b c c' hj hj' => ?_⟩
    · obtain ⟨o, e1, e2, e3, e4, e5⟩ := hobj j o' ho
      obtain ⟨s1, s2⟩ := e5.spec
      refine (a1.obj j o e1).keepG e3.symm e4.symm s1.symm rfl (fun _ _ _ _ => ⟨rfl, fun h => h⟩) (fun i r' hi => ?_)
      obtain ⟨r, t1, t2, t3⟩ := s2 i r' hi
      refine ⟨r, t1, t2, fun k a a' h1 h2 v hv => ?_⟩
      obtain ⟨y, u1, u2⟩ := t3 k a' h2
      rw [h1] at u1; cases u1
      exact VRel.nz hal hιid g2 rfl hpz u2 hv
    · obtain ⟨o1, e1, _⟩ := hobj j o hj
      obtain ⟨o2, e2, _⟩ := hobj j' o' hj'
      exact a1.inj j j' o1 o2 b c c' e1 e2
  have hst1 := hst.trans a2
  have hst2 : Step G.I G.ι G.H G.w I ι' H2 w := by
    refine ⟨hst1.os, hst1.tape, hst1.output, hst1.size, hst1.froz, hst1.imm, hst1.immNew, fun b hb => hst1.own b (hown b hb), hst1.keep, fun j o hj => ?_⟩
    obtain ⟨o1, e1, e2⟩ := hst1.objs j o hj
    subst hG
    have hkk := hk.kept j (by rw [hj]; rfl)
    by_cases e : j = id
    · subst e
      obtain ⟨o0, e0, _⟩ := hst.objs j o hj
      rw [hid] at e0; cases e0
    · rw [n1 j e] at e1
      exact ⟨o1, hkk.trans e1, e2⟩
  refine ⟨hs.defers, hs.size, I, ι', hrel, hst2, fun t v hv => ?_⟩
  obtain ⟨v0, f1, f2⟩ := hE.spec _ (mem_of_get hv)
  obtain ⟨c, c1, c2⟩ := he t v0 f1
  exact ⟨c, c1, VRel.nz hal hιid g2 rfl hpz f2 (c2.mono hr a2)⟩
end Go.Abs
