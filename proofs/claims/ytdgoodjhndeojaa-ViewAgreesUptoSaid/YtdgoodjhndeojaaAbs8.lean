/-
  THE ABSTRACT LOGIC: slices that grow, slices that are made, copies, bytes as a string.
  Conditions: each rule's own premises.
-/
import Derived.Test.YtdgoodjhndeojaaAbs7
import Derived.Laws.BytesArg
set_option linter.unusedVariables false
set_option linter.unusedSimpArgs false
namespace Go.Abs

/-- What the rules ask of an element's type. -/
def EInfo (P : Program) (e : TypeId) (sz bytes : Nat) : Prop := ∃ i z, P.info? e = some i ∧ i.zero = some z ∧ i.size = sz ∧ i.bytes = bytes ∧ z.cells.size = sz ∧ 0 < sz

theorem range_list {α : Type} {f : Nat → α} {m j : Nat} {u : α} (h : ((List.range m).map f)[j]? = some u) : j < m ∧ u = f j := by
  rw [List.getElem?_map] at h
  by_cases hj : j < m
  · rw [List.getElem?_range hj] at h
    cases h
    exact ⟨hj, rfl⟩
  · rw [List.getElem?_eq_none (by simp; omega)] at h
    cases h
theorem range_get {α : Type} (f : Nat → α) {m j : Nat} (hj : j < m) : ((List.range m).map f)[j]? = some (f j) := by
  rw [List.getElem?_map, List.getElem?_range hj]; rfl

/-- A list of cells and the rows that it is. -/
def LRel (w : World) (I : Nat → Prop) (ι : Plc) (H : Heap) (sz : Nat) (l : List Value) (rows : List (List AV)) : Prop :=
  ∀ (i : Nat) (r : List AV), rows[i]? = some r → ∀ (k : Nat) (a : AV), r[k]? = some a → ∃ u, l[i * sz + k]? = some u ∧ u.oneCell' = true ∧ VRel w I ι H u a

theorem LRel.app {w : World} {I : Nat → Prop} {ι : Plc} {H : Heap} {sz : Nat} {l1 l2 l3 : List Value} {rows1 rows2 : List (List AV)} (h1 : LRel w I ι H sz l1 rows1) (hl1 : l1.length = rows1.length * sz) (h2 : LRel w I ι H sz l2 rows2) :
    LRel w I ι H sz (l1 ++ (l2 ++ l3)) (rows1 ++ rows2) := by
  intro i r hi k a hk
  by_cases c : i < rows1.length
  · rw [List.getElem?_append_left c] at hi
    obtain ⟨u, q1, q2, q3⟩ := h1 i r hi k a hk
    have hlt := (List.getElem?_eq_some_iff.1 q1).1
    exact ⟨u, by rw [List.getElem?_append_left hlt]; exact q1, q2, q3⟩
  · rw [List.getElem?_append_right (by omega)] at hi
    obtain ⟨u, q1, q2, q3⟩ := h2 _ r hi k a hk
    have hlt := (List.getElem?_eq_some_iff.1 q1).1
    have hm : (i - rows1.length) * sz + rows1.length * sz = i * sz := by rw [← Nat.add_mul]; congr 1; omega
    refine ⟨u, ?_, q2, q3⟩
    rw [List.getElem?_append_right (by omega), List.getElem?_append_left (by omega)]
    rw [hl1, show i * sz + k - rows1.length * sz = (i - rows1.length) * sz + k by omega]
    exact q1

/-- A slice that is read: its cells. -/
def Src (w : World) (I : Nat → Prop) (ι : Plc) (H : Heap) (sz : Nat) (v : Value) (rows : List (List AV)) : Prop :=
  (∃ a c news, v = .slice (some a) rows.length c ∧ news.length = rows.length * sz ∧ (∀ j u, news[j]? = some u → w.cell? (a.add j) = some u) ∧ (∀ u ∈ news, u.oneCell' = true) ∧ LRel w I ι H sz news rows) ∨
  (v = .slice none 0 0 ∧ rows = [])

theorem div_lt {j n sz : Nat} (h : j < n * sz) : j / sz < n := (Nat.div_lt_iff_lt_mul (by
  rcases Nat.eq_zero_or_pos sz with e | e
  · subst e; simp at h
  · exact e)).2 h
theorem idx_div {i k sz : Nat} (h : k < sz) : (i * sz + k) / sz = i := by
  rw [Nat.add_comm, Nat.add_mul_div_right _ _ (by omega), Nat.div_eq_of_lt h]; omega
theorem idx_mod {i k sz : Nat} (h : k < sz) : (i * sz + k) % sz = k := by
  rw [Nat.add_comm, Nat.add_mul_mod_self_right, Nat.mod_eq_of_lt h]

theorem src_pure {w : World} {I : Nat → Prop} {ι : Plc} {H : Heap} {sz : Nat} {v : Value} {ps : List (List PV)} (h : VRel w I ι H v (.pv (.sl ps))) (hsz : 0 < sz) (hl : ∀ r ∈ ps, r.length = sz) : Src w I ι H sz v (ps.map (·.map .pv)) := by
  have hp := h.pv_inv
  cases hp with
  | nilsl => exact .inr ⟨rfl, rfl⟩
  | empsl a => exact .inl ⟨a, 0, [], rfl, by simp, by simp, by simp, by intro i r hi; simp at hi⟩
  | sl b off cap sz' _ cs hI hsz' hlen hcap hc hpp =>
    by_cases hne : ps = []
    · subst hne
      exact .inl ⟨⟨b, off, none⟩, cap, [], rfl, by simp, by simp, by simp, by intro i r hi; simp at hi⟩
    · have he : sz' = sz := by
        obtain ⟨r, rs, e⟩ := List.exists_cons_of_ne_nil hne
        have hm : r ∈ ps := by rw [e]; simp
        rw [← hlen r hm, hl r hm]
      subst he
      let f : Nat → Value := fun j => cs (j / sz') (j % sz')
      have hget : ∀ j, j < ps.length * sz' → ∃ r p, ps[j / sz']? = some r ∧ r[j % sz']? = some p := by
        intro j hj
        have h1 := div_lt hj
        have hm : ps[j / sz'] ∈ ps := List.getElem_mem h1
        have h2 : j % sz' < ps[j / sz'].length := by rw [hlen _ hm]; exact Nat.mod_lt _ hsz'
        exact ⟨_, _, List.getElem?_eq_getElem h1, List.getElem?_eq_getElem h2⟩
      refine .inl ⟨⟨b, off, none⟩, cap, (List.range (ps.length * sz')).map f, by simp, by simp, ?_, ?_, ?_⟩
      · intro j u hu
        obtain ⟨hj, rfl⟩ := range_list hu
        obtain ⟨r, p, h1, h2⟩ := hget j hj
        rw [Addr.add_lit]
        have := hc _ r h1 _ p h2
        rw [show off + j / sz' * sz' + j % sz' = off + j by have := Nat.div_add_mod' j sz'; omega] at this
        exact this
      · intro u hu
        obtain ⟨j, hj0⟩ := List.mem_iff_getElem?.1 hu
        obtain ⟨hj, rfl⟩ := range_list hj0
        obtain ⟨r, p, h1, h2⟩ := hget j hj
        exact (hpp _ r h1 _ p h2).oneCell
      · intro i r hi k a hk
        rw [List.getElem?_map] at hi
        cases e : ps[i]? with
        | none => rw [e] at hi; cases hi
        | some q =>
          rw [e] at hi
          cases hi
          rw [List.getElem?_map] at hk
          cases e2 : q[k]? with
          | none => rw [e2] at hk; cases hk
          | some p =>
            rw [e2] at hk
            cases hk
            have hi2 : i < ps.length := (List.getElem?_eq_some_iff.1 e).1
            have hk2 : k < sz' := by rw [← hlen q (List.mem_of_getElem? e)]; exact (List.getElem?_eq_some_iff.1 e2).1
            have hlt : i * sz' + k < ps.length * sz' := by
              have : (i + 1) * sz' ≤ ps.length * sz' := Nat.mul_le_mul_right _ hi2
              rw [Nat.add_mul] at this; omega
            refine ⟨f (i * sz' + k), range_get f hlt, ?_, ?_⟩
            · simp only [f, idx_div hk2, idx_mod hk2]; exact (hpp i q e k p e2).oneCell
            · simp only [f, idx_div hk2, idx_mod hk2]; exact .pv (hpp i q e k p e2)

theorem src_osl {w : World} {I : Nat → Prop} {ι : Plc} {H : Heap} {sz id g off len : Nat} {ob : Ob} {v : Value} (hr : Rel I ι H w) (h : VRel w I ι H v (.osl id g off len)) (hH : H.get id = some ob) (hg : ob.g = g) (hsz : ob.sz = sz) :
    Src w I ι H sz v ((ob.rows.drop off).take len) := by
  obtain ⟨hle, ⟨b, cap, oo, h1, h2, h3⟩ | ⟨h1, h2, h3, h4⟩⟩ := osl_slice h hH hg
  · obtain ⟨p1, p2, ⟨b', cap', cs, e1, e2, e3, e4, e5, e5', e6⟩ | ⟨e1, _⟩⟩ := (hr.obj id ob hH).cells (osl_sz h hH hg)
    · rw [h1] at e1; cases e1
      subst hsz
      have hrl : ((ob.rows.drop off).take len).length = len := by simp; omega
      have hget : ∀ j, j < len * ob.sz → ∃ u, cs[off * ob.sz + j]? = some u ∧ u.oneCell' = true ∧ ∀ a r, ob.rows[off + j / ob.sz]? = some r → r[j % ob.sz]? = some a → VRel w I ι H u a := by
        intro j hj
        have h1' := div_lt hj
        have hlt : off + j / ob.sz < ob.rows.length := by omega
        have hm := List.getElem_mem hlt
        have h2' : j % ob.sz < ob.rows[off + j / ob.sz].length := by rw [p2 _ hm]; exact Nat.mod_lt _ p1
        obtain ⟨u, q1, q2, q3⟩ := e6 _ _ (List.getElem?_eq_getElem hlt) _ _ (List.getElem?_eq_getElem h2')
        refine ⟨u, ?_, q2, fun a r hr' ha => ?_⟩
        · rw [Nat.add_mul, show off * ob.sz + j / ob.sz * ob.sz + j % ob.sz = off * ob.sz + j by have := Nat.div_add_mod' j ob.sz; omega] at q1
          exact q1
        · rw [List.getElem?_eq_getElem hlt] at hr'
          cases hr'
          rw [List.getElem?_eq_getElem h2'] at ha
          cases ha
          exact q3
      let f : Nat → Value := fun j => (cs[off * ob.sz + j]?).getD undef
      have hf : ∀ j (hj : j < len * ob.sz), cs[off * ob.sz + j]? = some (f j) ∧ (f j).oneCell' = true ∧ ∀ a r, ob.rows[off + j / ob.sz]? = some r → r[j % ob.sz]? = some a → VRel w I ι H (f j) a := by
        intro j hj
        obtain ⟨u, q1, q2, q3⟩ := hget j hj
        have hfj : f j = u := by simp only [f, q1, Option.getD_some]
        rw [hfj]
        exact ⟨q1, q2, q3⟩
      by_cases hl0 : len = 0
      · subst hl0
        have : (ob.rows.drop off).take 0 = [] := by simp
        rw [this]
        exact .inl ⟨⟨b, oo, none⟩, cap - off, [], by rw [h2]; rfl, by simp, by simp, by simp, by intro i r hi; simp at hi⟩
      · have hoo := h3 (by omega)
        subst hoo
        refine .inl ⟨⟨b, off * ob.sz, none⟩, cap - off, (List.range (len * ob.sz)).map f, by rw [h2, hrl], by simp [hrl], ?_, ?_, ?_⟩
        · intro j u hu
          obtain ⟨hj, rfl⟩ := range_list hu
          rw [Addr.add_lit, cell_of_row w b _ cs ob.ty (0, 0) e2]
          exact (hf j hj).1
        · intro u hu
          obtain ⟨j, hj0⟩ := List.mem_iff_getElem?.1 hu
          obtain ⟨hj, rfl⟩ := range_list hj0
          exact (hf j hj).2.1
        · intro i r hi k a hk
          have hi2 : i < len := by rw [← hrl]; exact (List.getElem?_eq_some_iff.1 hi).1
          rw [List.getElem?_take, if_pos hi2, List.getElem?_drop] at hi
          have hk2 : k < ob.sz := by rw [← p2 r (List.mem_of_getElem? hi)]; exact (List.getElem?_eq_some_iff.1 hk).1
          have hlt : i * ob.sz + k < len * ob.sz := by
            have : (i + 1) * ob.sz ≤ len * ob.sz := Nat.mul_le_mul_right _ hi2
            rw [Nat.add_mul] at this; omega
          refine ⟨f (i * ob.sz + k), range_get f hlt, (hf _ hlt).2.1, (hf _ hlt).2.2 a r ?_ ?_⟩
          · rw [idx_div hk2]; exact hi
          · rw [idx_mod hk2]; exact hk
    · rw [h1] at e1; cases e1
  · subst h3 h4
    exact .inr ⟨h2, by simp⟩

section
variable {P : Program} {N : Nat} {o : Oper} {E : Env} {H : Heap} {T : TypeId} {x y : Operand}

theorem run_append_nilnil {t ty e : TypeId} {i : TypeInfo} {w : World} (ht : P.underlying t = some (.slice e)) (hi : P.info? e = some i) (b : Option Addr) (n c : Nat) (hn : n ≤ c) :
    (Builtin.append_ #[t, t] ty #[.slice b n c, .slice none 0 0]).run P w = .ok (.slice b n c) w := by
  cases b <;> simp [Builtin.append_, run_underlying ht, sizeOf, typeInfo, hi, Builtin.lenOf, hn, Builtin.firstCells, storeCells]

/-- append onto a slice of one's own. -/
theorem opd_append {e : TypeId} {id g n m sz bytes : Nat} {ob : Ob} {rows2 : List (List AV)} {H2 : Heap} (ho : o.op = .call { callee := .builtin .append, args := #[x, y], argTypes := #[T, T] }) (hT : P.underlying T = some (.slice e)) (hinf : EInfo P e sz bytes)
    (hx : aeval E x = some (.osl id g 0 n)) (hH : H.get id = some ob) (hg : ob.g = g) (hosz : ob.sz = sz) (hty : ob.ty = e) (hn : ob.rows.length = n)
    (hsrc : ∀ (a : Act) (w : World) (I : Nat → Prop) (ι : Plc), Rel I ι H w → ERel w I ι H E a → Src w I ι H sz (a.eval y) rows2) (hrl2 : ∀ r ∈ rows2, r.length = sz) (hm : rows2.length = m) (hbytes : (n + m) * bytes ≤ 140737488355328) (hmax : n + m ≤ 9223372036854775807)
    (hH2 : H.set id ⟨g + 1, sz, e, ob.rows ++ rows2⟩ = H2) : OpD P N o E H (.osl id (g + 1) 0 (n + m)) H2 := by
  intro a w I ι _ _ hr he K Q hk
  obtain ⟨i, z, hi, hz, hsize, hby, hzs, hsz0⟩ := hinf
  subst hg hosz hty hn hm hH2
  have hml : ob.rows.length + rows2.length ≤ maxLen := by simp only [maxLen]; omega
  have h1 : (H.set id ⟨ob.g + 1, ob.sz, ob.ty, ob.rows ++ rows2⟩).get id = some ⟨ob.g + 1, ob.sz, ob.ty, ob.rows ++ rows2⟩ := Heap.get_set_same _ _ _
  have h2 : ∀ j, j ≠ id → (H.set id ⟨ob.g + 1, ob.sz, ob.ty, ob.rows ++ rows2⟩).get j = H.get j := fun j hj => Heap.get_set_other _ _ hj
  have hpos : 0 < ob.sz := osl_sz (aeval_rel he hx) hH rfl
  have p2 := ((hr.obj id ob hH).cells hpos).2.1
  have hrl : ∀ r ∈ ob.rows ++ rows2, r.length = ob.sz := fun r hr' => by
    rcases List.mem_append.1 hr' with h | h
    · exact p2 r h
    · exact hrl2 r h
  have fin : ∀ (v' : Value) (w' : World) (ι' : Plc), (Builtin.append_ #[T, T] o.type #[a.eval x, a.eval y]).run P w = .ok v' w' → VRel w' I ι' (H.set id ⟨ob.g + 1, ob.sz, ob.ty, ob.rows ++ rows2⟩) v' (.osl id (ob.g + 1) 0 (ob.rows.length + rows2.length)) →
      Rel I ι' (H.set id ⟨ob.g + 1, ob.sz, ob.ty, ob.rows ++ rows2⟩) w' → Step I ι H w I ι' (H.set id ⟨ob.g + 1, ob.sz, ob.ty, ob.rows ++ rows2⟩) w' → o.wp P a w K Q := by
    intro v' w' ι' hrun k1 k2 k3
    unfold Oper.wp execOp
    simp only [ho, resolve, invoke, builtin, Sem.run_bind, Sem.run_pure, Result.andThen_ok, List.map_toArray, List.map_cons, List.map_nil, hrun]
    exact hk v' w' I ι' _ _ ⟨rfl, rfl⟩ k1 k2 k3
  have hs := hsrc a w I ι hr he
  have hvx := aeval_rel he hx
  obtain ⟨_, hcase⟩ := osl_slice hvx hH rfl
  rcases hcase with ⟨b, cap, oo, c1, c2, c3⟩ | ⟨c1, c2, _, c4⟩
  · obtain ⟨p1, _, ⟨b', cap', cs, e1, e2, e3, e4, e5, e5', e6⟩ | ⟨e1, _⟩⟩ := (hr.obj id ob hH).cells hpos
    · rw [c1] at e1; cases e1
      have hoo : oo = 0 := by rw [c3 (by omega)]; simp
      subst hoo
      rw [Nat.sub_zero] at c2
      have olds : LRel w I ι H ob.sz (cs.toList.take (ob.rows.length * ob.sz)) ob.rows := by
        intro i' r hi' k a' hk'
        obtain ⟨u, q1, q2, q3⟩ := e6 i' r hi' k a' hk'
        have hk2 : k < ob.sz := by rw [← p2 r (List.mem_of_getElem? hi')]; exact (List.getElem?_eq_some_iff.1 hk').1
        have hi2 : i' < ob.rows.length := (List.getElem?_eq_some_iff.1 hi').1
        have hlt : i' * ob.sz + k < ob.rows.length * ob.sz := by
          have : (i' + 1) * ob.sz ≤ ob.rows.length * ob.sz := Nat.mul_le_mul_right _ hi2
          rw [Nat.add_mul] at this; omega
        exact ⟨u, by rw [List.getElem?_take, if_pos hlt]; simpa using q1, q2, q3⟩
      have hle : ob.rows.length * ob.sz ≤ cs.size := by rw [e4]; exact Nat.mul_le_mul_right _ e5
      have holen : (cs.toList.take (ob.rows.length * ob.sz)).length = ob.rows.length * ob.sz := by simp; omega
      rcases hs with ⟨ad, c, news, s1, s2, s3, s4, s5⟩ | ⟨s1, s2⟩
      · by_cases hroom : ob.rows.length + rows2.length ≤ cap
        · -- there is room
          have hfit : ob.rows.length * i.size + news.length ≤ cs.size := by
            rw [s2, hsize, e4, ← Nat.add_mul]; exact Nat.mul_le_mul_right _ hroom
          have hrun := run_append_room (P := P) w T o.type ob.ty i hT hi b ob.rows.length cap cs e2 ad rows2.length c news (by rw [hsize]; exact s2) s3 s4 hroom hfit
          rw [hsize] at hrun
          obtain ⟨k2, k3⟩ := Rel.update (H' := H.set id ⟨ob.g + 1, ob.sz, ob.ty, ob.rows ++ rows2⟩) (ob' := ⟨ob.g + 1, ob.sz, ob.ty, ob.rows ++ rows2⟩)
            (cs' := (cs.toList.take (ob.rows.length * ob.sz) ++ news ++ cs.toList.drop (ob.rows.length * ob.sz + news.length)).toArray) hr hH c1 e2 (by simp) rfl rfl (fun e => by simp at e) (by
              rw [hsize] at hfit
              simp only [List.size_toArray, List.length_append, List.length_take, List.length_drop, Array.length_toList]
              omega) (by simpa using hroom) hrl (fun i' r hi' k a' hk' => by
                have := LRel.app (l3 := cs.toList.drop (ob.rows.length * ob.sz + news.length)) olds holen s5 i' r hi' k a' hk'
                simpa [List.append_assoc] using this) h1 h2
          exact fin _ _ ι (by rw [c2, s1]; exact hrun) (.osl _ h1 (Nat.le_refl _) rfl fun _ => ⟨hpos, by simp, .inl ⟨b, cap, 0, c1, by simp, fun _ => by simp⟩⟩) k2 k3
        · -- it grows
          have holds : ∀ j v, (cs.toList.take (ob.rows.length * ob.sz))[j]? = some v → w.cell? ((⟨b, 0, none⟩ : Addr).add j) = some v := by
            intro j v hv
            rw [Addr.add_lit, Nat.zero_add, cell_of_row w b _ cs ob.ty (0, 0) e2]
            rw [List.getElem?_take] at hv
            split at hv
            · simpa using hv
            · cases hv
          have hrun := run_append_grow (P := P) w T o.type ob.ty i z hT hi hz ⟨b, 0, none⟩ ob.rows.length cap _ (by rw [hsize]; exact holen) holds ad rows2.length c news (by rw [hsize]; exact s2) s3 (by omega) (by omega) (growslice_fits (by omega) (by rw [hby]; exact hbytes))
          have hge := grownCap_ge w (ob.rows.length + rows2.length) cap ob.ty
          have hcm := grownCap_le_maxLen w (ob.rows.length + rows2.length) cap ob.ty hml
          obtain ⟨k2, k3⟩ := Rel.place (H' := H.set id ⟨ob.g + 1, ob.sz, ob.ty, ob.rows ++ rows2⟩) (id := id) (cap := grownCap w (ob.rows.length + rows2.length) cap ob.ty) (ob' := ⟨ob.g + 1, ob.sz, ob.ty, ob.rows ++ rows2⟩)
            (cs' := (cs.toList.take (ob.rows.length * ob.sz)).toArray ++ news.toArray ++ Builtin.zeroCells z.cells (grownCap w (ob.rows.length + rows2.length) cap ob.ty - (ob.rows.length + rows2.length)))
            (w' := w.drew.alloc (.cells ((cs.toList.take (ob.rows.length * ob.sz)).toArray ++ news.toArray ++ Builtin.zeroCells z.cells (grownCap w (ob.rows.length + rows2.length) cap ob.ty - (ob.rows.length + rows2.length))) ob.ty)) hr rfl rfl rfl rfl
            (fun o' ho' => by rw [hH] at ho'; cases ho'; simp) p1 (by
              simp only [Array.size_append, List.size_toArray, size_zeroCells, hzs, holen, s2, ← Nat.add_mul]
              congr 1
              omega) (by simpa using hge) hcm hrl (fun i' r hi' k a' hk' => by
                obtain ⟨u, q1, q2, q3⟩ := LRel.app (l3 := (Builtin.zeroCells z.cells (grownCap w (ob.rows.length + rows2.length) cap ob.ty - (ob.rows.length + rows2.length))).toList) olds holen s5 i' r hi' k a' hk'
                refine ⟨u, ?_, q2, q3⟩
                rw [← Array.getElem?_toList]
                simpa [List.append_assoc] using q1) h1 h2
          exact fin _ _ _ (by rw [c2, s1]; exact hrun) (.osl _ h1 (Nat.le_refl _) rfl fun _ => ⟨hpos, by simp, .inl ⟨w.heap.size, _, 0, by simp; rfl, by simp, fun _ => by simp⟩⟩) k2 k3
      · -- nothing is appended
        subst s2
        have hrun := run_append_nilnil (P := P) (ty := o.type) (w := w) hT hi (some ⟨b, 0, none⟩) ob.rows.length cap e5
        obtain ⟨k2, k3⟩ := Rel.tick (H' := H.set id ⟨ob.g + 1, ob.sz, ob.ty, ob.rows ++ []⟩) (ob' := ⟨ob.g + 1, ob.sz, ob.ty, ob.rows ++ []⟩) hr hH (by simp) rfl rfl (by simp) h1 h2
        exact fin _ _ ι (by rw [c2, s1]; exact hrun) (.osl _ h1 (Nat.le_refl _) rfl fun _ => ⟨hpos, by simp, .inl ⟨b, cap, 0, c1, by simp, fun _ => by simp⟩⟩) k2 k3
    · rw [c1] at e1; cases e1
  · -- nil
    have hnil : ob.rows = [] := List.eq_nil_of_length_eq_zero c4
    have hticks : rows2 = [] → o.wp P a w K Q := by
      intro h0
      subst h0
      have hrun : (Builtin.append_ #[T, T] o.type #[a.eval x, a.eval y]).run P w = .ok (.slice none 0 0) w := by
        rcases hs with ⟨ad, c, news, s1, s2, s3, s4, s5⟩ | ⟨s1, s2⟩
        · rw [c2, s1]
          simp [Builtin.append_, run_underlying hT, sizeOf, typeInfo, hi, Builtin.lenOf, Builtin.firstCells, loadCells, loadCellsFrom]
        · rw [c2, s1]
          exact run_append_nilnil (P := P) (ty := o.type) (w := w) hT hi none 0 0 (Nat.le_refl _)
      obtain ⟨k2, k3⟩ := Rel.tick (H' := H.set id ⟨ob.g + 1, ob.sz, ob.ty, ob.rows ++ []⟩) (ob' := ⟨ob.g + 1, ob.sz, ob.ty, ob.rows ++ []⟩) hr hH (by simp) rfl rfl (by simp) h1 h2
      exact fin _ _ ι hrun (.osl _ h1 (Nat.le_refl _) rfl fun _ => ⟨hpos, by simp, .inr ⟨c1, rfl, rfl, by simp [hnil]⟩⟩) k2 k3
    by_cases h0 : rows2 = []
    · exact hticks h0
    · have hpos : 0 < rows2.length := List.length_pos_iff.2 h0
      rcases hs with ⟨ad, c, news, s1, s2, s3, s4, s5⟩ | ⟨s1, s2⟩
      · rw [hnil] at hbytes hml hmax
        simp only [List.length_nil, Nat.zero_add] at hbytes hml hmax
        have hrun := run_append_nil (P := P) w T o.type ob.ty i z hT hi hz ad rows2.length c news (by rw [hsize]; exact s2) s3 hpos (by omega) (by rw [hby]; omega)
        have hge := grownCap_ge w rows2.length 0 ob.ty
        have hcm := grownCap_le_maxLen w rows2.length 0 ob.ty hml
        obtain ⟨k2, k3⟩ := Rel.place (H' := H.set id ⟨ob.g + 1, ob.sz, ob.ty, ob.rows ++ rows2⟩) (id := id) (cap := grownCap w rows2.length 0 ob.ty) (ob' := ⟨ob.g + 1, ob.sz, ob.ty, ob.rows ++ rows2⟩)
          (cs' := news.toArray ++ Builtin.zeroCells z.cells (grownCap w rows2.length 0 ob.ty - rows2.length))
          (w' := w.drew.alloc (.cells (news.toArray ++ Builtin.zeroCells z.cells (grownCap w rows2.length 0 ob.ty - rows2.length)) ob.ty)) hr rfl rfl rfl rfl
          (fun o' ho' => by rw [hH] at ho'; cases ho'; simp) hsz0 (by
            simp only [Array.size_append, List.size_toArray, size_zeroCells, hzs, s2, ← Nat.add_mul]
            congr 1
            omega) (by simpa [hnil] using hge) hcm hrl (fun i' r hi' k a' hk' => by
              rw [hnil] at hi'
              simp only [List.nil_append] at hi'
              obtain ⟨u, q1, q2, q3⟩ := s5 i' r hi' k a' hk'
              have hlt := (List.getElem?_eq_some_iff.1 q1).1
              refine ⟨u, ?_, q2, q3⟩
              rw [Array.getElem?_append_left (by simpa using hlt)]
              simpa using q1) h1 h2
        refine fin _ _ _ (by rw [c2, s1]; exact hrun) (.osl _ h1 (Nat.le_refl _) rfl fun _ => ⟨(osl_sz (aeval_rel he hx) hH rfl : 0 < ob.sz), by simp, .inl ⟨w.heap.size, _, 0, by simp; rfl, by simp [hnil], fun _ => by simp⟩⟩) k2 k3
      · exact absurd s2 h0

/-- append of a slice that is only read. -/
theorem opd_append_pv {e : TypeId} {id g n m sz bytes : Nat} {ob : Ob} {ps : List (List PV)} {H2 : Heap} (ho : o.op = .call { callee := .builtin .append, args := #[x, y], argTypes := #[T, T] }) (hT : P.underlying T = some (.slice e)) (hinf : EInfo P e sz bytes)
    (hx : aeval E x = some (.osl id g 0 n)) (hH : H.get id = some ob) (hg : ob.g = g) (hosz : ob.sz = sz) (hty : ob.ty = e) (hn : ob.rows.length = n)
    (hy : aeval E y = some (.pv (.sl ps))) (hrl : ∀ r ∈ ps, r.length = sz) (hm : ps.length = m) (hbytes : (n + m) * bytes ≤ 140737488355328) (hmax : n + m ≤ 9223372036854775807)
    (hH2 : H.set id ⟨g + 1, sz, e, ob.rows ++ ps.map (·.map AV.pv)⟩ = H2) : OpD P N o E H (.osl id (g + 1) 0 (n + m)) H2 := by
  obtain ⟨i, z, h1, h2, h3, h4, h5, h6⟩ := hinf
  exact opd_append ho hT ⟨i, z, h1, h2, h3, h4, h5, h6⟩ hx hH hg hosz hty hn (fun a w I ι hr he => src_pure (aeval_rel he hy) h6 hrl) (fun r hr => by
    obtain ⟨q, q1, q2⟩ := List.mem_map.1 hr
    rw [← q2]; simpa using hrl q q1) (by simpa using hm) hbytes hmax hH2
/-- append of a slice of one's own. -/
theorem opd_append_osl {e : TypeId} {id g n m sz bytes id' g' off' : Nat} {ob ob' : Ob} {H2 : Heap} (ho : o.op = .call { callee := .builtin .append, args := #[x, y], argTypes := #[T, T] }) (hT : P.underlying T = some (.slice e)) (hinf : EInfo P e sz bytes)
    (hx : aeval E x = some (.osl id g 0 n)) (hH : H.get id = some ob) (hg : ob.g = g) (hosz : ob.sz = sz) (hty : ob.ty = e) (hn : ob.rows.length = n)
    (hy : aeval E y = some (.osl id' g' off' m)) (hH' : H.get id' = some ob') (hg' : ob'.g = g') (hsz' : ob'.sz = sz) (hrl : ∀ r ∈ ob'.rows, r.length = sz) (hm : off' + m ≤ ob'.rows.length) (hbytes : (n + m) * bytes ≤ 140737488355328) (hmax : n + m ≤ 9223372036854775807)
    (hH2 : H.set id ⟨g + 1, sz, e, ob.rows ++ (ob'.rows.drop off').take m⟩ = H2) : OpD P N o E H (.osl id (g + 1) 0 (n + m)) H2 := by
  exact opd_append ho hT hinf hx hH hg hosz hty hn (fun a w I ι hr he => src_osl hr (aeval_rel he hy) hH' hg' hsz') (fun r hr => hrl r (List.mem_of_mem_drop (List.mem_of_mem_take hr))) (by simp; omega) hbytes hmax hH2

/-- make. -/
theorem opd_makeSlice {e : TypeId} {id sz bytes l c : Nat} {k1 k2 : IntKind} {n1 n2 : Int} {z : Value} {v0 : AV} {row : List AV} (ho : o.op = .makeSlice T x y) (hT : P.underlying T = some (.slice e)) (hinf : EInfo P e sz bytes) (hz : ∀ w, (zeroValue e).run P w = .ok z w) (hv : ZV z v0) (hl0 : acl v0 = some row) (hrow : row.length = sz)
    (hx : aeval E x = some (.pv (.int k1 n1))) (hy : aeval E y = some (.pv (.int k2 n2))) (h1 : 0 ≤ n1) (h2 : n1 ≤ n2) (hl : n1.toNat = l) (hc : n2.toNat = c) (hb : bytes * c ≤ 281474976710656) (hmax : n2 ≤ 9223372036854775807) (hid : H.get id = none) :
    OpD P N o E H (.osl id 0 0 l) ((id, ⟨0, sz, e, List.replicate l row⟩) :: H) := by
  intro a w I ι _ _ hr he K Q hk
  obtain ⟨i, z', hi, hz', hsize, hby, hzs, hsz0⟩ := hinf
  have ezz : z' = z := by
    have := hz w
    simp [zeroValue, typeInfo, hi, hz'] at this
    exact this
  subst ezz hl hc
  have e1 := (aeval_rel he hx).int_inv
  have e2 := (aeval_rel he hy).int_inv
  have hb' : (i.bytes : Int) * n2 ≤ 281474976710656 := by
    have h := hb
    rw [← hby] at h
    have h3 : ((i.bytes * n2.toNat : Nat) : Int) ≤ 281474976710656 := by omega
    rw [Int.natCast_mul] at h3
    rwa [Int.toNat_of_nonneg (by omega)] at h3
  have hrun := run_make (P := P) w T e i z' hT hi hz' k1 k2 n1 n2 h1 h2 hb' hmax
  have hcr := CRel.of_cells (ZV.rel (w := w) (I := I) (ι := ι) (H := H) hv) hl0
  obtain ⟨k2', k3⟩ := Rel.place (H' := (id, ⟨0, sz, e, List.replicate n1.toNat row⟩) :: H) (id := id) (cap := n2.toNat) (ob' := ⟨0, sz, e, List.replicate n1.toNat row⟩) (cs' := madeCells z'.cells (n2.toNat * i.size))
    (w' := w.alloc (.cells (madeCells z'.cells (n2.toNat * i.size)) e)) hr rfl rfl rfl rfl (fun o ho => by rw [hid] at ho; cases ho) hsz0 (by rw [size_madeCells, hsize]) (by simp; omega) (by simp only [maxLen]; omega)
    (fun r hr' => by rw [(List.mem_replicate.1 hr').2]; exact hrow)
    (fun i' r hi' k a' hk' => by
      rw [List.getElem?_replicate] at hi'
      split at hi'
      · cases hi'
        rename_i hlt
        have hk2 : k < sz := by rw [← hrow]; exact (List.getElem?_eq_some_iff.1 hk').1
        obtain ⟨u, q1, q2, q3⟩ := hcr.2 k a' hk'
        refine ⟨u, ?_, q2, q3⟩
        have hfit : i' * sz + k < n2.toNat * sz := by
          have : (i' + 1) * sz ≤ n2.toNat * sz := Nat.mul_le_mul_right _ (by omega)
          rw [Nat.add_mul] at this; omega
        have hsz : k < z'.cells.size := by omega
        rw [Array.getElem?_eq_getElem hsz] at q1
        cases q1
        simp only [madeCells, Array.getElem?_map, hsize]
        rw [Array.getElem?_range]
        simp only [hfit, if_true, Option.map_some, hzs, idx_mod hk2]
        rw [getElem!_pos z'.cells k hsz]
      · cases hi') (get_cons_same _ _ _) (fun j hj => get_cons_other _ _ hj)
  unfold Oper.wp execOp
  simp only [ho, e1, e2, Sem.run_bind, hrun, Result.andThen_ok, Sem.run_pure]
  exact hk _ _ I _ _ _ ⟨rfl, rfl⟩ (.osl _ (get_cons_same _ _ _) (Nat.le_refl _) rfl fun _ => ⟨hsz0, by simp, .inl ⟨w.heap.size, n2.toNat, 0, by simp, by simp, fun _ => by simp⟩⟩) k2' k3

theorem Rel.congr {I : Nat → Prop} {ι : Plc} {H H' : Heap} {w : World} (hr : Rel I ι H w) (h : ∀ j, H'.get j = H.get j) : Rel I ι H' w ∧ Step I ι H w I ι H' w := by
  have hst : Step I ι H w I ι H' w := ⟨rfl, rfl, rfl, Nat.le_refl _, fun _ _ => rfl, fun _ h => h, fun _ h => .inl h, fun b ⟨j, o, c, h1, h2⟩ => .inl ⟨j, o, c, (h j).symm.trans h1, h2⟩, fun _ _ _ => rfl,
    fun j o hj => ⟨o, (h j).trans hj, Nat.le_refl _, fun _ => ⟨rfl, rfl, fun _ => Nat.le_refl _⟩⟩⟩
  refine ⟨⟨hr.imm, fun j o hj => ?_, fun j j' o o' b c c' h1 h2 => hr.inj j j' o o' b c c' ((h j).symm.trans h1) ((h j').symm.trans h2)⟩, hst⟩
  exact (hr.obj j o ((h j).symm.trans hj)).keep rfl (fun _ _ _ _ => ⟨rfl, fun h => h⟩) (fun r _ a _ v hv => hv.mono hr hst)

/-- The rows of a text's bytes. -/
def brows (s : List UInt8) : List (List AV) := s.map fun b => [.pv (.int .u8 b.toNat)]

/-- copy of a text. -/
theorem opd_copy_str {D S e : TypeId} {id g off len n : Nat} {ob : Ob} {s : ByteArray} {H2 : Heap} (ho : o.op = .call { callee := .builtin .copy, args := #[x, y], argTypes := #[D, S] }) (hD : P.underlying D = some (.slice e)) (hs : ∀ w, (sizeOf e).run P w = .ok 1 w)
    (hx : aeval E x = some (.osl id g off len)) (hH : H.get id = some ob) (hg : ob.g = g) (hsz : ob.sz = 1) (hy : aeval E y = some (.pv (.str s))) (hn : min s.size len = n)
    (hH2 : H.set id { ob with rows := ob.rows.take off ++ (brows (s.data.toList.take n) ++ ob.rows.drop (off + n)) } = H2) : OpD P N o E H (.pv (.int .i64 n)) H2 := by
  intro a w I ι _ _ hr he K Q hk
  have hvx := aeval_rel he hx
  have e2y := (aeval_rel he hy).str_inv
  obtain ⟨hle, hcase⟩ := osl_slice hvx hH hg
  subst hg
  have hpos : 0 < ob.sz := osl_sz hvx hH rfl
  have p2 := ((hr.obj id ob hH).cells hpos).2.1
  have hns : n ≤ s.size := by omega
  have hnl : n ≤ len := by omega
  have hcells : ((s.extract 0 n).data.map fun b => Value.int .u8 b.toNat).toList = (s.data.toList.take n).map fun b => Value.int .u8 b.toNat := by simp
  have hbl : (brows (s.data.toList.take n)).length = n := by simp [brows]; omega
  have hmin : Nat.min s.size len = n := hn
  have hlen' : (ob.rows.take off ++ (brows (s.data.toList.take n) ++ ob.rows.drop (off + n))).length = ob.rows.length := by
    simp [hbl]; omega
  have hrl : ∀ r ∈ ob.rows.take off ++ (brows (s.data.toList.take n) ++ ob.rows.drop (off + n)), r.length = ob.sz := by
    intro r hr'
    rcases List.mem_append.1 hr' with h | h
    · exact p2 r (List.mem_of_mem_take h)
    · rcases List.mem_append.1 h with h | h
      · simp only [brows, List.mem_map] at h
        obtain ⟨b, _, rfl⟩ := h
        simp [hsz]
      · exact p2 r (List.mem_of_mem_drop h)
  by_cases hn0 : n = 0
  · -- nothing is copied
    subst hn0
    have hrows : ob.rows.take off ++ (brows (s.data.toList.take 0) ++ ob.rows.drop (off + 0)) = ob.rows := by simp [brows]
    have hsame : ∀ j, H2.get j = H.get j := fun j => by
      rw [← hH2, hrows]
      by_cases e : j = id
      · subst e; rw [Heap.get_set_same, hH]
      · exact Heap.get_set_other _ _ e
    obtain ⟨k2, k3⟩ := hr.congr hsame
    have hrun : (execOp a.eval o).run P w = .ok (.value (.int .i64 ((0 : Nat) : Int))) w := by
      unfold execOp
      rcases hcase with ⟨b, cap, oo, c1, c2, c3⟩ | ⟨c1, c2, c3, c4⟩
      · simp only [ho, resolve, invoke, builtin, Sem.run_bind, Sem.run_pure, Result.andThen_ok, List.map_toArray, List.map_cons, List.map_nil, c2, e2y, Builtin.copy_, run_underlying hD, hs]
        simp only [List.getElem?_toArray, List.getElem?_cons_zero, List.getElem?_cons_succ, run_underlying hD, Builtin.lenOf, Builtin.firstCells, Sem.run_bind, Sem.run_pure, Result.andThen_ok, hs, hmin, hcells]
        simp [storeCells, goInt]
      · simp only [ho, resolve, invoke, builtin, Sem.run_bind, Sem.run_pure, Result.andThen_ok, List.map_toArray, List.map_cons, List.map_nil, c2, e2y, Builtin.copy_, run_underlying hD, hs]
        subst c4
        simp only [List.getElem?_toArray, List.getElem?_cons_zero, List.getElem?_cons_succ, run_underlying hD, Builtin.lenOf, Builtin.firstCells, Sem.run_bind, Sem.run_pure, Result.andThen_ok, hs, hmin, hcells]
        simp [goInt]
    unfold Oper.wp
    rw [hrun]
    exact hk _ _ I ι _ _ ⟨rfl, rfl⟩ (.pv (.int _ _)) k2 k3
  rcases hcase with ⟨b, cap, oo, c1, c2, c3⟩ | ⟨c1, c2, c3, c4⟩
  · obtain ⟨p1, _, ⟨b', cap', cs, e1, e2, e3, e4, e5, e5', e6⟩ | ⟨e1, _⟩⟩ := (hr.obj id ob hH).cells hpos
    · rw [c1] at e1; cases e1
      by_cases hz : off < cap ∨ off = 0
      · have hoo : oo = off := by rw [c3 hz, hsz]; omega
        subst hoo
        have hcs : cs.size = cap := by rw [e4, hsz]; omega
        have hst := run_storeCells_at P b oo ob.ty ((s.data.toList.take n).map fun b => Value.int .u8 b.toNat) 0 cs w e2 (by simp; omega) (by intro v hv; obtain ⟨b, _, rfl⟩ := List.mem_map.1 hv; rfl)
        simp only [Nat.add_zero, List.length_map, List.length_take, Array.length_toList] at hst
        have hmm : min n s.data.size = n := by have : s.data.size = s.size := rfl; omega
        rw [hmm] at hst
        obtain ⟨k2, k3⟩ := Rel.update (H' := H2) (ob' := { ob with rows := ob.rows.take oo ++ (brows (s.data.toList.take n) ++ ob.rows.drop (oo + n)) })
          (cs' := (cs.toList.take oo ++ (s.data.toList.take n).map (fun b => Value.int .u8 b.toNat) ++ cs.toList.drop (oo + n)).toArray) hr hH c1 e2 (Nat.le_refl _) rfl rfl (fun _ => by rw [hlen']; exact Nat.le_refl _) (by
            simp only [List.size_toArray, List.length_append, List.length_take, List.length_drop, List.length_map, Array.length_toList, hmm]
            rw [hsz]; omega) (by rw [hlen']; exact e5) hrl (fun i r hi k a' hk' => by
              have hk0 : k = 0 := by
                have h1 := hrl r (List.mem_of_getElem? hi)
                have h2 := (List.getElem?_eq_some_iff.1 hk').1
                omega
              subst hk0
              rw [hsz, Nat.mul_one, Nat.add_zero]
              simp only [List.getElem?_toArray]
              by_cases ci : i < oo
              · rw [List.getElem?_append_left (by simp; omega), List.getElem?_take, if_pos ci] at hi
                obtain ⟨u, q1, q2, q3⟩ := e6 i r hi 0 a' hk'
                rw [hsz, Nat.mul_one, Nat.add_zero] at q1
                refine ⟨u, ?_, q2, q3⟩
                rw [List.append_assoc, List.getElem?_append_left (by simp; omega), List.getElem?_take, if_pos ci]
                simpa using q1
              · have hml : min oo ob.rows.length = oo := by omega
                have hmc : min oo cs.size = oo := by omega
                by_cases cj : i < oo + n
                · rw [List.getElem?_append_right (by simp; omega), List.getElem?_append_left (by simp [hbl]; omega)] at hi
                  simp only [List.length_take, hml, brows, List.getElem?_map] at hi
                  cases e : (s.data.toList.take n)[i - oo]? with
                  | none => rw [e] at hi; cases hi
                  | some q =>
                    rw [e] at hi
                    cases hi
                    simp at hk'
                    subst hk'
                    refine ⟨.int .u8 q.toNat, ?_, rfl, .pv (.int _ _)⟩
                    rw [List.append_assoc, List.getElem?_append_right (by simp; omega), List.getElem?_append_left (by simp [hmm]; omega)]
                    simp only [List.length_take, Array.length_toList, hmc, List.getElem?_map, e, Option.map_some]
                · rw [List.getElem?_append_right (by simp; omega), List.getElem?_append_right (by simp [hbl]; omega), List.getElem?_drop] at hi
                  simp only [List.length_take, hml, hbl] at hi
                  rw [show oo + n + (i - oo - n) = i by omega] at hi
                  obtain ⟨u, q1, q2, q3⟩ := e6 i r hi 0 a' hk'
                  rw [hsz, Nat.mul_one, Nat.add_zero] at q1
                  refine ⟨u, ?_, q2, q3⟩
                  rw [List.append_assoc, List.getElem?_append_right (by simp; omega), List.getElem?_append_right (by simp [hmm]; omega), List.getElem?_drop]
                  simp only [List.length_take, Array.length_toList, hmc, List.length_map, hmm]
                  rw [show oo + n + (i - oo - n) = i by omega]
                  simpa using q1) (by rw [← hH2]; exact Heap.get_set_same _ _ _) (fun j hj => by rw [← hH2]; exact Heap.get_set_other _ _ hj)
        unfold Oper.wp execOp
        simp only [ho, resolve, invoke, builtin, Sem.run_bind, Sem.run_pure, Result.andThen_ok, List.map_toArray, List.map_cons, List.map_nil, c2, e2y, Builtin.copy_, run_underlying hD, hs]
        simp only [List.getElem?_toArray, List.getElem?_cons_zero, List.getElem?_cons_succ, run_underlying hD, Builtin.lenOf, Builtin.firstCells, Sem.run_bind, Sem.run_pure, Result.andThen_ok, hs, hmin, hcells, hst]
        exact hk _ _ I ι _ _ ⟨rfl, rfl⟩ (.pv (.int _ _)) k2 k3
      · omega
    · rw [c1] at e1; cases e1
  · omega

/-- A slice of bytes as a text. -/
theorem opd_bytes_str {S T e : TypeId} {id g off len : Nat} {ob : Ob} {bs : List UInt8} {r : ByteArray} (ho : o.op = .convert S T x) (hS : P.underlying S = some (.slice e)) (he' : P.underlying e = some (.int .u8)) (hT : P.underlying T = some .string)
    (hx : aeval E x = some (.osl id g off len)) (hH : H.get id = some ob) (hg : ob.g = g) (hsz : ob.sz = 1) (hb : (ob.rows.drop off).take len = brows bs) (hr : (⟨bs.toArray⟩ : ByteArray) = r) : OpD P N o E H (.pv (.str r)) H :=
  .of_run fun a w I ι hrel he => by
    have hvx := aeval_rel he hx
    have hsrc := src_osl hrel hvx hH hg hsz
    rw [hb] at hsrc
    subst hr
    refine ⟨.string ⟨bs.toArray⟩, ?_, .pv (.str _)⟩
    rcases hsrc with ⟨ad, c, news, s1, s2, s3, s4, s5⟩ | ⟨s1, s2⟩
    · have hnews : news = bs.map fun b => Value.int .u8 b.toNat := by
        apply List.ext_getElem?
        intro j
        by_cases hj : j < bs.length
        · obtain ⟨u, q1, q2, q3⟩ := s5 j [.pv (.int .u8 (bs[j]'hj).toNat)] (by simp [brows, List.getElem?_eq_getElem hj]) 0 _ (by simp; rfl)
          rw [Nat.mul_one, Nat.add_zero] at q1
          rw [q1, q3.int_inv]
          simp [List.getElem?_eq_getElem hj]
        · rw [List.getElem?_eq_none (by rw [s2]; simp [brows]; omega), List.getElem?_eq_none (by simp; omega)]
      have hl : (loadCells ad (brows bs).length).run P w = .ok ((bs.map fun b => (b.toNat : Int)).map (Value.int .u8)).toArray w := by
        have e1 : (bs.map fun b => (b.toNat : Int)).map (Value.int .u8) = news := by rw [hnews, List.map_map]; rfl
        have e2 : (brows bs).length = news.length := by rw [s2]; simp
        rw [e1, e2]
        exact run_loadCells_list (P := P) w ad news s3
      simp only [execOp, ho, s1, Sem.run_bind]
      rw [run_convert_bytes_string w S T e _ _ c hS he' hT, run_bytesToString w ad _ c _ hl, foldl_push_bytes]
      have e3 : (bs.map fun b => (b.toNat : Int)).map (fun n => UInt8.ofNat n.toNat) = bs := by
        rw [List.map_map]
        conv => rhs; rw [← List.map_id bs]
        refine List.map_congr_left fun b _ => ?_
        simp
      rw [e3]
      simp [ByteArray.empty, ByteArray.emptyWithCapacity]
      rfl
    · have : bs = [] := by simpa [brows] using s2
      subst this
      simp only [execOp, ho, s1, Sem.run_bind]
      rw [run_convert_bytes_string w S T e _ _ 0 hS he' hT]
      simp [Conv.bytesToString]
      rfl
end
end Go.Abs
