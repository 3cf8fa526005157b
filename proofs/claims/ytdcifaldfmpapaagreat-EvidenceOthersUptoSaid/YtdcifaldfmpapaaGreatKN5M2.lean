/-
  THE ABSTRACT LOGIC: slices that grow, slices that are made, copies, bytes as a string.
  Conditions: each rule's own premises.
  THE ABSTRACT LOGIC: regions whose order Go leaves open: one walk in the order of the text serves every order, if any two operations that touch the same slot or object are ordered by edges.
  Conditions: 'okDraw', a Bool over the region.
  THE ABSTRACT LOGIC: the rules in the form in which a walk uses them: facts on types in one piece, heaps by putting in front.
  Conditions: none.
  THE ABSTRACT LOGIC, 11: short names; objects that end with a call; a loop's next round. Conditions: none.
  THE ABSTRACT LOGIC, 12: calls that only read: owned slices are lent to them. Conditions: none.
  THE ABSTRACT LOGIC, 13: a slice that is nil is owned from here on. Conditions: none.
  THE BRIDGE: what an argument reads, as the abstract logic's pure values; and it reads so behind a call that leaves the old blocks. Conditions: types of booleans, integers, strings, slices and structs of such.
  THE BRIDGE, its end: a law whose call answers 'true' in the abstract logic meets its row: it returns true, and each argument reads behind the call as it did. Conditions: the types of the arguments are of pure values.
  THE FACTS ON THE TYPES OF THIS SEAT that the walks use, printed by a program (facts.py). Conditions: none.
  THE DATA OF THE MAP as plain Lean types, and how they lie in cells; plain laws on lists. Conditions: none.
-/
import Derived.Test.YtdcifaldfmpapaaGreatKN5M1
import Derived.Laws.BytesArg
import Derived.Test.YtdcifaldfmpapaaGreatRows
import Derived.OpenShut
import Derived.JoinedCond
import Derived.Carry
section
set_option linter.unusedVariables false
set_option linter.unusedSimpArgs false
namespace Go.Abs

/-- What the rules ask of an element's type. -/
def EInfo (P : Program) (e : TypeId) (sz bytes : Nat) : Prop := ∃ i z, P.info? e = some i ∧ i.zero = some z ∧ i.size = sz ∧ i.bytes = bytes ∧ z.cells.size = sz ∧ 0 < sz

theorem range_list {α : Type} {f : Nat → α} {m j : Nat} {u : α} (h : ((List.range m).map f)[j]? = some u) : j < m ∧ u = f j := by
  rw [List.getElem?_map] at h
  by_cases hj : j < m
  · rw [List.getElem?_range hj] at h
    cases h
    exact ⟨hj, rfl⟩
  · rw [List.getElem?_eq_none (by simp; omega)] at h
    cases h
theorem range_get {α : Type} (f : Nat → α) {m j : Nat} (hj : j < m) : ((List.range m).map f)[j]? = some (f j) := by
  rw [List.getElem?_map, List.getElem?_range hj]; rfl

/-- A list of cells and the rows that it is. -/
def LRel (w : World) (I : Nat → Prop) (ι : Plc) (H : Heap) (sz : Nat) (l : List Value) (rows : List (List AV)) : Prop :=
  ∀ (i : Nat) (r : List AV), rows[i]? = some r → ∀ (k : Nat) (a : AV), r[k]? = some a → ∃ u, l[i * sz + k]? = some u ∧ u.oneCell' = true ∧ VRel w I ι H u a

theorem LRel.app {w : World} {I : Nat → Prop} {ι : Plc} {H : Heap} {sz : Nat} {l1 l2 l3 : List Value} {rows1 rows2 : List (List AV)} (h1 : LRel w I ι H sz l1 rows1) (hl1 : l1.length = rows1.length * sz) (h2 : LRel w I ι H sz l2 rows2) :
    LRel w I ι H sz (l1 ++ (l2 ++ l3)) (rows1 ++ rows2) := by
  intro i r hi k a hk
  by_cases c : i < rows1.length
  · rw [List.getElem?_append_left c] at hi
    obtain ⟨u, q1, q2, q3⟩ := h1 i r hi k a hk
    have hlt := (List.getElem?_eq_some_iff.1 q1).1
    exact ⟨u, by rw [List.getElem?_append_left hlt]; exact q1, q2, q3⟩
  · rw [List.getElem?_append_right (by omega)] at hi
    obtain ⟨u, q1, q2, q3⟩ := h2 _ r hi k a hk
    have hlt := (List.getElem?_eq_some_iff.1 q1).1
    have hm : (i - rows1.length) * sz + rows1.length * sz = i * sz := by rw [← Nat.add_mul]; congr 1; omega
    refine ⟨u, ?_, q2, q3⟩
    rw [List.getElem?_append_right (by omega), List.getElem?_append_left (by omega)]
    rw [hl1, show i * sz + k - rows1.length * sz = (i - rows1.length) * sz + k by omega]
    exact q1

/-- A slice that is read: its cells. -/
def Src (w : World) (I : Nat → Prop) (ι : Plc) (H : Heap) (sz : Nat) (v : Value) (rows : List (List AV)) : Prop :=
  (∃ a c news, v = .slice (some a) rows.length c ∧ news.length = rows.length * sz ∧ (∀ j u, news[j]? = some u → w.cell? (a.add j) = some u) ∧ (∀ u ∈ news, u.oneCell' = true) ∧ LRel w I ι H sz news rows) ∨
  (v = .slice none 0 0 ∧ rows = [])

theorem div_lt {j n sz : Nat} (h : j < n * sz) : j / sz < n := (Nat.div_lt_iff_lt_mul (by
  rcases Nat.eq_zero_or_pos sz with e | e
  · subst e; simp at h
  · exact e)).2 h
theorem idx_div {i k sz : Nat} (h : k < sz) : (i * sz + k) / sz = i := by
  rw [Nat.add_comm, Nat.add_mul_div_right _ _ (by omega), Nat.div_eq_of_lt h]; omega
theorem idx_mod {i k sz : Nat} (h : k < sz) : (i * sz + k) % sz = k := by
  rw [Nat.add_comm, Nat.add_mul_mod_self_right, Nat.mod_eq_of_lt h]

theorem src_pure {w : World} {I : Nat → Prop} {ι : Plc} {H : Heap} {sz : Nat} {v : Value} {ps : List (List PV)} (h : VRel w I ι H v (.pv (.sl ps))) (hsz : 0 < sz) (hl : ∀ r ∈ ps, r.length = sz) : Src w I ι H sz v (ps.map (·.map .pv)) := by
  have hp := h.pv_inv
  cases hp with
  | nilsl => exact .inr ⟨rfl, rfl⟩
  | empsl a => exact .inl ⟨a, 0, [], rfl, by simp, by simp, by simp, by intro i r hi; simp at hi⟩
  | sl b off cap sz' _ cs hI hsz' hlen hcap hc hpp =>
    by_cases hne : ps = []
    · subst hne
      exact .inl ⟨⟨b, off, none⟩, cap, [], rfl, by simp, by simp, by simp, by intro i r hi; simp at hi⟩
    · have he : sz' = sz := by
        obtain ⟨r, rs, e⟩ := List.exists_cons_of_ne_nil hne
        have hm : r ∈ ps := by rw [e]; simp
        rw [← hlen r hm, hl r hm]
      subst he
      let f : Nat → Value := fun j => cs (j / sz') (j % sz')
      have hget : ∀ j, j < ps.length * sz' → ∃ r p, ps[j / sz']? = some r ∧ r[j % sz']? = some p := by
        intro j hj
        have h1 := div_lt hj
        have hm : ps[j / sz'] ∈ ps := List.getElem_mem h1
        have h2 : j % sz' < ps[j / sz'].length := by rw [hlen _ hm]; exact Nat.mod_lt _ hsz'
        exact ⟨_, _, List.getElem?_eq_getElem h1, List.getElem?_eq_getElem h2⟩
      refine .inl ⟨⟨b, off, none⟩, cap, (List.range (ps.length * sz')).map f, by simp, by simp, ?_, ?_, ?_⟩
      · intro j u hu
        obtain ⟨hj, rfl⟩ := range_list hu
        obtain ⟨r, p, h1, h2⟩ := hget j hj
        rw [Addr.add_lit]
        have := hc _ r h1 _ p h2
        rw [show off + j / sz' * sz' + j % sz' = off + j by have := Nat.div_add_mod' j sz'; omega] at this
        exact this
      · intro u hu
        obtain ⟨j, hj0⟩ := List.mem_iff_getElem?.1 hu
        obtain ⟨hj, rfl⟩ := range_list hj0
        obtain ⟨r, p, h1, h2⟩ := hget j hj
        exact (hpp _ r h1 _ p h2).oneCell
      · intro i r hi k a hk
        rw [List.getElem?_map] at hi
        cases e : ps[i]? with
        | none => rw [e] at hi; cases hi
        | some q =>
          rw [e] at hi
          cases hi
          rw [List.getElem?_map] at hk
          cases e2 : q[k]? with
          | none => rw [e2] at hk; cases hk
          | some p =>
            rw [e2] at hk
            cases hk
            have hi2 : i < ps.length := (List.getElem?_eq_some_iff.1 e).1
            have hk2 : k < sz' := by rw [← hlen q (List.mem_of_getElem? e)]; exact (List.getElem?_eq_some_iff.1 e2).1
            have hlt : i * sz' + k < ps.length * sz' := by
              have : (i + 1) * sz' ≤ ps.length * sz' := Nat.mul_le_mul_right _ hi2
              rw [Nat.add_mul] at this; omega
            refine ⟨f (i * sz' + k), range_get f hlt, ?_, ?_⟩
            · simp only [f, idx_div hk2, idx_mod hk2]; exact (hpp i q e k p e2).oneCell
            · simp only [f, idx_div hk2, idx_mod hk2]; exact .pv (hpp i q e k p e2)

theorem src_osl {w : World} {I : Nat → Prop} {ι : Plc} {H : Heap} {sz id g off len : Nat} {ob : Ob} {v : Value} (hr : Rel I ι H w) (h : VRel w I ι H v (.osl id g off len)) (hH : H.get id = some ob) (hg : ob.g = g) (hsz : ob.sz = sz) :
    Src w I ι H sz v ((ob.rows.drop off).take len) := by
  obtain ⟨hle, ⟨b, cap, oo, h1, h2, h3⟩ | ⟨h1, h2, h3, h4⟩⟩ := osl_slice h hH hg
  · obtain ⟨p1, p2, ⟨b', cap', cs, e1, e2, e3, e4, e5, e5', e6⟩ | ⟨e1, _⟩⟩ := (hr.obj id ob hH).cells (osl_sz h hH hg)
    · rw [h1] at e1; cases e1
      subst hsz
      have hrl : ((ob.rows.drop off).take len).length = len := by simp; omega
      have hget : ∀ j, j < len * ob.sz → ∃ u, cs[off * ob.sz + j]? = some u ∧ u.oneCell' = true ∧ ∀ a r, ob.rows[off + j / ob.sz]? = some r → r[j % ob.sz]? = some a → VRel w I ι H u a := by
        intro j hj
        have h1' := div_lt hj
        have hlt : off + j / ob.sz < ob.rows.length := by omega
        have hm := List.getElem_mem hlt
        have h2' : j % ob.sz < ob.rows[off + j / ob.sz].length := by rw [p2 _ hm]; exact Nat.mod_lt _ p1
        obtain ⟨u, q1, q2, q3⟩ := e6 _ _ (List.getElem?_eq_getElem hlt) _ _ (List.getElem?_eq_getElem h2')
        refine ⟨u, ?_, q2, fun a r hr' ha => ?_⟩
        · rw [Nat.add_mul, show off * ob.sz + j / ob.sz * ob.sz + j % ob.sz = off * ob.sz + j by have := Nat.div_add_mod' j ob.sz; omega] at q1
          exact q1
        · rw [List.getElem?_eq_getElem hlt] at hr'
          cases hr'
          rw [List.getElem?_eq_getElem h2'] at ha
          cases ha
          exact q3
      let f : Nat → Value := fun j => (cs[off * ob.sz + j]?).getD undef
      have hf : ∀ j (hj : j < len * ob.sz), cs[off * ob.sz + j]? = some (f j) ∧ (f j).oneCell' = true ∧ ∀ a r, ob.rows[off + j / ob.sz]? = some r → r[j % ob.sz]? = some a → VRel w I ι H (f j) a := by
        intro j hj
        obtain ⟨u, q1, q2, q3⟩ := hget j hj
        have hfj : f j = u := by simp only [f, q1, Option.getD_some]
        rw [hfj]
        exact ⟨q1, q2, q3⟩
      by_cases hl0 : len = 0
      · subst hl0
        have : (ob.rows.drop off).take 0 = [] := by simp
        rw [this]
        exact .inl ⟨⟨b, oo, none⟩, cap - off, [], by rw [h2]; rfl, by simp, by simp, by simp, by intro i r hi; simp at hi⟩
      · have hoo := h3 (by omega)
        subst hoo
        refine .inl ⟨⟨b, off * ob.sz, none⟩, cap - off, (List.range (len * ob.sz)).map f, by rw [h2, hrl], by simp [hrl], ?_, ?_, ?_⟩
        · intro j u hu
          obtain ⟨hj, rfl⟩ := range_list hu
          rw [Addr.add_lit, cell_of_row w b _ cs ob.ty (0, 0) e2]
          exact (hf j hj).1
        · intro u hu
          obtain ⟨j, hj0⟩ := List.mem_iff_getElem?.1 hu
          obtain ⟨hj, rfl⟩ := range_list hj0
          exact (hf j hj).2.1
        · intro i r hi k a hk
          have hi2 : i < len := by rw [← hrl]; exact (List.getElem?_eq_some_iff.1 hi).1
          rw [List.getElem?_take, if_pos hi2, List.getElem?_drop] at hi
          have hk2 : k < ob.sz := by rw [← p2 r (List.mem_of_getElem? hi)]; exact (List.getElem?_eq_some_iff.1 hk).1
          have hlt : i * ob.sz + k < len * ob.sz := by
            have : (i + 1) * ob.sz ≤ len * ob.sz := Nat.mul_le_mul_right _ hi2
            rw [Nat.add_mul] at this; omega
          refine ⟨f (i * ob.sz + k), range_get f hlt, (hf _ hlt).2.1, (hf _ hlt).2.2 a r ?_ ?_⟩
          · rw [idx_div hk2]; exact hi
          · rw [idx_mod hk2]; exact hk
    · rw [h1] at e1; cases e1
  · subst h3 h4
    exact .inr ⟨h2, by simp⟩

section
variable {P : Program} {N : Nat} {o : Oper} {E : Env} {H : Heap} {T : TypeId} {x y : Operand}

theorem run_append_nilnil {t ty e : TypeId} {i : TypeInfo} {w : World} (ht : P.underlying t = some (.slice e)) (hi : P.info? e = some i) (b : Option Addr) (n c : Nat) (hn : n ≤ c) :
    (Builtin.append_ #[t, t] ty #[.slice b n c, .slice none 0 0]).run P w = .ok (.slice b n c) w := by
  cases b <;> simp [Builtin.append_, run_underlying ht, sizeOf, typeInfo, hi, Builtin.lenOf, hn, Builtin.firstCells, storeCells]

/-- append onto a slice of one's own. -/
theorem opd_append {e : TypeId} {id g n m sz bytes : Nat} {ob : Ob} {rows2 : List (List AV)} {H2 : Heap} (ho : o.op = .call { callee := .builtin .append, args := #[x, y], argTypes := #[T, T] }) (hT : P.underlying T = some (.slice e)) (hinf : EInfo P e sz bytes)
    (hx : aeval E x = some (.osl id g 0 n)) (hH : H.get id = some ob) (hg : ob.g = g) (hosz : ob.sz = sz) (hty : ob.ty = e) (hn : ob.rows.length = n)
    (hsrc : ∀ (a : Act) (w : World) (I : Nat → Prop) (ι : Plc), Rel I ι H w → ERel w I ι H E a → Src w I ι H sz (a.eval y) rows2) (hrl2 : ∀ r ∈ rows2, r.length = sz) (hm : rows2.length = m) (hbytes : (n + m) * bytes ≤ 140737488355328) (hmax : n + m ≤ 9223372036854775807)
    (hH2 : H.set id ⟨g + 1, sz, e, ob.rows ++ rows2⟩ = H2) : OpD P N o E H (.osl id (g + 1) 0 (n + m)) H2 := by
  intro a w I ι _ _ hr he K Q hk
  obtain ⟨i, z, hi, hz, hsize, hby, hzs, hsz0⟩ := hinf
  subst hg hosz hty hn hm hH2
  have hml : ob.rows.length + rows2.length ≤ maxLen := by simp only [maxLen]; omega
  have h1 : (H.set id ⟨ob.g + 1, ob.sz, ob.ty, ob.rows ++ rows2⟩).get id = some ⟨ob.g + 1, ob.sz, ob.ty, ob.rows ++ rows2⟩ := Heap.get_set_same _ _ _
  have h2 : ∀ j, j ≠ id → (H.set id ⟨ob.g + 1, ob.sz, ob.ty, ob.rows ++ rows2⟩).get j = H.get j := fun j hj => Heap.get_set_other _ _ hj
  have hpos : 0 < ob.sz := osl_sz (aeval_rel he hx) hH rfl
  have p2 := ((hr.obj id ob hH).cells hpos).2.1
  have hrl : ∀ r ∈ ob.rows ++ rows2, r.length = ob.sz := fun r hr' => by
    rcases List.mem_append.1 hr' with h | h
    · exact p2 r h
    · exact hrl2 r h
  have fin : ∀ (v' : Value) (w' : World) (ι' : Plc), (Builtin.append_ #[T, T] o.type #[a.eval x, a.eval y]).run P w = .ok v' w' → VRel w' I ι' (H.set id ⟨ob.g + 1, ob.sz, ob.ty, ob.rows ++ rows2⟩) v' (.osl id (ob.g + 1) 0 (ob.rows.length + rows2.length)) →
      Rel I ι' (H.set id ⟨ob.g + 1, ob.sz, ob.ty, ob.rows ++ rows2⟩) w' → Step I ι H w I ι' (H.set id ⟨ob.g + 1, ob.sz, ob.ty, ob.rows ++ rows2⟩) w' → o.wp P a w K Q := by
    intro v' w' ι' hrun k1 k2 k3
    unfold Oper.wp execOp
    simp only [ho, resolve, invoke, builtin, Sem.run_bind, Sem.run_pure, Result.andThen_ok, List.map_toArray, List.map_cons, List.map_nil, hrun]
    exact hk v' w' I ι' _ _ ⟨rfl, rfl⟩ k1 k2 k3
  have hs := hsrc a w I ι hr he
  have hvx := aeval_rel he hx
  obtain ⟨_, hcase⟩ := osl_slice hvx hH rfl
  rcases hcase with ⟨b, cap, oo, c1, c2, c3⟩ | ⟨c1, c2, _, c4⟩
  · obtain ⟨p1, _, ⟨b', cap', cs, e1, e2, e3, e4, e5, e5', e6⟩ | ⟨e1, _⟩⟩ := (hr.obj id ob hH).cells hpos
    · rw [c1] at e1; cases e1
      have hoo : oo = 0 := by rw [c3 (by omega)]; simp
      subst hoo
      rw [Nat.sub_zero] at c2
      have olds : LRel w I ι H ob.sz (cs.toList.take (ob.rows.length * ob.sz)) ob.rows := by
        intro i' r hi' k a' hk'
        obtain ⟨u, q1, q2, q3⟩ := e6 i' r hi' k a' hk'
        have hk2 : k < ob.sz := by rw [← p2 r (List.mem_of_getElem? hi')]; exact (List.getElem?_eq_some_iff.1 hk').1
        have hi2 : i' < ob.rows.length := (List.getElem?_eq_some_iff.1 hi').1
        have hlt : i' * ob.sz + k < ob.rows.length * ob.sz := by
          have : (i' + 1) * ob.sz ≤ ob.rows.length * ob.sz := Nat.mul_le_mul_right _ hi2
          rw [Nat.add_mul] at this; omega
        exact ⟨u, by rw [List.getElem?_take, if_pos hlt]; simpa using q1, q2, q3⟩
      have hle : ob.rows.length * ob.sz ≤ cs.size := by rw [e4]; exact Nat.mul_le_mul_right _ e5
      have holen : (cs.toList.take (ob.rows.length * ob.sz)).length = ob.rows.length * ob.sz := by simp; omega
      rcases hs with ⟨ad, c, news, s1, s2, s3, s4, s5⟩ | ⟨s1, s2⟩
      · by_cases hroom : ob.rows.length + rows2.length ≤ cap
        · -- there is room
          have hfit : ob.rows.length * i.size + news.length ≤ cs.size := by
            rw [s2, hsize, e4, ← Nat.add_mul]; exact Nat.mul_le_mul_right _ hroom
          have hrun := run_append_room (P := P) w T o.type ob.ty i hT hi b ob.rows.length cap cs e2 ad rows2.length c news (by rw [hsize]; exact s2) s3 s4 hroom hfit
          rw [hsize] at hrun
          obtain ⟨k2, k3⟩ := Rel.update (H' := H.set id ⟨ob.g + 1, ob.sz, ob.ty, ob.rows ++ rows2⟩) (ob' := ⟨ob.g + 1, ob.sz, ob.ty, ob.rows ++ rows2⟩)
            (cs' := (cs.toList.take (ob.rows.length * ob.sz) ++ news ++ cs.toList.drop (ob.rows.length * ob.sz + news.length)).toArray) hr hH c1 e2 (by simp) rfl rfl (fun e => by simp at e) (by
              rw [hsize] at hfit
              simp only [List.size_toArray, List.length_append, List.length_take, List.length_drop, Array.length_toList]
              omega) (by simpa using hroom) hrl (fun i' r hi' k a' hk' => by
                have := LRel.app (l3 := cs.toList.drop (ob.rows.length * ob.sz + news.length)) olds holen s5 i' r hi' k a' hk'
                simpa [List.append_assoc] using this) h1 h2
          exact fin _ _ ι (by rw [c2, s1]; exact hrun) (.osl _ h1 (Nat.le_refl _) rfl fun _ => ⟨hpos, by simp, .inl ⟨b, cap, 0, c1, by simp, fun _ => by simp⟩⟩) k2 k3
        · -- it grows
          have holds : ∀ j v, (cs.toList.take (ob.rows.length * ob.sz))[j]? = some v → w.cell? ((⟨b, 0, none⟩ : Addr).add j) = some v := by
            intro j v hv
            rw [Addr.add_lit, Nat.zero_add, cell_of_row w b _ cs ob.ty (0, 0) e2]
            rw [List.getElem?_take] at hv
            split at hv
            · simpa using hv
            · cases hv
          have hrun := run_append_grow (P := P) w T o.type ob.ty i z hT hi hz ⟨b, 0, none⟩ ob.rows.length cap _ (by rw [hsize]; exact holen) holds ad rows2.length c news (by rw [hsize]; exact s2) s3 (by omega) (by omega) (growslice_fits (by omega) (by rw [hby]; exact hbytes))
          have hge := grownCap_ge w (ob.rows.length + rows2.length) cap ob.ty
          have hcm := grownCap_le_maxLen w (ob.rows.length + rows2.length) cap ob.ty hml
          obtain ⟨k2, k3⟩ := Rel.place (H' := H.set id ⟨ob.g + 1, ob.sz, ob.ty, ob.rows ++ rows2⟩) (id := id) (cap := grownCap w (ob.rows.length + rows2.length) cap ob.ty) (ob' := ⟨ob.g + 1, ob.sz, ob.ty, ob.rows ++ rows2⟩)
            (cs' := (cs.toList.take (ob.rows.length * ob.sz)).toArray ++ news.toArray ++ Builtin.zeroCells z.cells (grownCap w (ob.rows.length + rows2.length) cap ob.ty - (ob.rows.length + rows2.length)))
            (w' := w.drew.alloc (.cells ((cs.toList.take (ob.rows.length * ob.sz)).toArray ++ news.toArray ++ Builtin.zeroCells z.cells (grownCap w (ob.rows.length + rows2.length) cap ob.ty - (ob.rows.length + rows2.length))) ob.ty)) hr rfl rfl rfl rfl
            (fun o' ho' => by rw [hH] at ho'; cases ho'; simp) p1 (by
              simp only [Array.size_append, List.size_toArray, size_zeroCells, hzs, holen, s2, ← Nat.add_mul]
              congr 1
              omega) (by simpa using hge) hcm hrl (fun i' r hi' k a' hk' => by
                obtain ⟨u, q1, q2, q3⟩ := LRel.app (l3 := (Builtin.zeroCells z.cells (grownCap w (ob.rows.length + rows2.length) cap ob.ty - (ob.rows.length + rows2.length))).toList) olds holen s5 i' r hi' k a' hk'
                refine ⟨u, ?_, q2, q3⟩
                rw [← Array.getElem?_toList]
                simpa [List.append_assoc] using q1) h1 h2
          exact fin _ _ _ (by rw [c2, s1]; exact hrun) (.osl _ h1 (Nat.le_refl _) rfl fun _ => ⟨hpos, by simp, .inl ⟨w.heap.size, _, 0, by simp; rfl, by simp, fun _ => by simp⟩⟩) k2 k3
      · -- nothing is appended
        subst s2
        have hrun := run_append_nilnil (P := P) (ty := o.type) (w := w) hT hi (some ⟨b, 0, none⟩) ob.rows.length cap e5
        obtain ⟨k2, k3⟩ := Rel.tick (H' := H.set id ⟨ob.g + 1, ob.sz, ob.ty, ob.rows ++ []⟩) (ob' := ⟨ob.g + 1, ob.sz, ob.ty, ob.rows ++ []⟩) hr hH (by simp) rfl rfl (by simp) h1 h2
        exact fin _ _ ι (by rw [c2, s1]; exact hrun) (.osl _ h1 (Nat.le_refl _) rfl fun _ => ⟨hpos, by simp, .inl ⟨b, cap, 0, c1, by simp, fun _ => by simp⟩⟩) k2 k3
    · rw [c1] at e1; cases e1
  · -- nil
    have hnil : ob.rows = [] := List.eq_nil_of_length_eq_zero c4
    have hticks : rows2 = [] → o.wp P a w K Q := by
      intro h0
      subst h0
      have hrun : (Builtin.append_ #[T, T] o.type #[a.eval x, a.eval y]).run P w = .ok (.slice none 0 0) w := by
        rcases hs with ⟨ad, c, news, s1, s2, s3, s4, s5⟩ | ⟨s1, s2⟩
        · rw [c2, s1]
          simp [Builtin.append_, run_underlying hT, sizeOf, typeInfo, hi, Builtin.lenOf, Builtin.firstCells, loadCells, loadCellsFrom]
        · rw [c2, s1]
          exact run_append_nilnil (P := P) (ty := o.type) (w := w) hT hi none 0 0 (Nat.le_refl _)
      obtain ⟨k2, k3⟩ := Rel.tick (H' := H.set id ⟨ob.g + 1, ob.sz, ob.ty, ob.rows ++ []⟩) (ob' := ⟨ob.g + 1, ob.sz, ob.ty, ob.rows ++ []⟩) hr hH (by simp) rfl rfl (by simp) h1 h2
      exact fin _ _ ι hrun (.osl _ h1 (Nat.le_refl _) rfl fun _ => ⟨hpos, by simp, .inr ⟨c1, rfl, rfl, by simp [hnil]⟩⟩) k2 k3
    by_cases h0 : rows2 = []
    · exact hticks h0
    · have hpos : 0 < rows2.length := List.length_pos_iff.2 h0
      rcases hs with ⟨ad, c, news, s1, s2, s3, s4, s5⟩ | ⟨s1, s2⟩
      · rw [hnil] at hbytes hml hmax
        simp only [List.length_nil, Nat.zero_add] at hbytes hml hmax
        have hrun := run_append_nil (P := P) w T o.type ob.ty i z hT hi hz ad rows2.length c news (by rw [hsize]; exact s2) s3 hpos (by omega) (by rw [hby]; omega)
        have hge := grownCap_ge w rows2.length 0 ob.ty
        have hcm := grownCap_le_maxLen w rows2.length 0 ob.ty hml
        obtain ⟨k2, k3⟩ := Rel.place (H' := H.set id ⟨ob.g + 1, ob.sz, ob.ty, ob.rows ++ rows2⟩) (id := id) (cap := grownCap w rows2.length 0 ob.ty) (ob' := ⟨ob.g + 1, ob.sz, ob.ty, ob.rows ++ rows2⟩)
          (cs' := news.toArray ++ Builtin.zeroCells z.cells (grownCap w rows2.length 0 ob.ty - rows2.length))
          (w' := w.drew.alloc (.cells (news.toArray ++ Builtin.zeroCells z.cells (grownCap w rows2.length 0 ob.ty - rows2.length)) ob.ty)) hr rfl rfl rfl rfl
          (fun o' ho' => by rw [hH] at ho'; cases ho'; simp) hsz0 (by
            simp only [Array.size_append, List.size_toArray, size_zeroCells, hzs, s2, ← Nat.add_mul]
            congr 1
            omega) (by simpa [hnil] using hge) hcm hrl (fun i' r hi' k a' hk' => by
              rw [hnil] at hi'
              simp only [List.nil_append] at hi'
              obtain ⟨u, q1, q2, q3⟩ := s5 i' r hi' k a' hk'
              have hlt := (List.getElem?_eq_some_iff.1 q1).1
              refine ⟨u, ?_, q2, q3⟩
              rw [Array.getElem?_append_left (by simpa using hlt)]
              simpa using q1) h1 h2
        refine fin _ _ _ (by rw [c2, s1]; exact hrun) (.osl _ h1 (Nat.le_refl _) rfl fun _ => ⟨(osl_sz (aeval_rel he hx) hH rfl : 0 < ob.sz), by simp, .inl ⟨w.heap.size, _, 0, by simp; rfl, by simp [hnil], fun _ => by simp⟩⟩) k2 k3
      · exact absurd s2 h0

/-- append of a slice that is only read. -/
theorem opd_append_pv {e : TypeId} {id g n m sz bytes : Nat} {ob : Ob} {ps : List (List PV)} {H2 : Heap} (ho : o.op = .call { callee := .builtin .append, args := #[x, y], argTypes := #[T, T] }) (hT : P.underlying T = some (.slice e)) (hinf : EInfo P e sz bytes)
    (hx : aeval E x = some (.osl id g 0 n)) (hH : H.get id = some ob) (hg : ob.g = g) (hosz : ob.sz = sz) (hty : ob.ty = e) (hn : ob.rows.length = n)
    (hy : aeval E y = some (.pv (.sl ps))) (hrl : ∀ r ∈ ps, r.length = sz) (hm : ps.length = m) (hbytes : (n + m) * bytes ≤ 140737488355328) (hmax : n + m ≤ 9223372036854775807)
    (hH2 : H.set id ⟨g + 1, sz, e, ob.rows ++ ps.map (·.map AV.pv)⟩ = H2) : OpD P N o E H (.osl id (g + 1) 0 (n + m)) H2 := by
  obtain ⟨i, z, h1, h2, h3, h4, h5, h6⟩ := hinf
  exact opd_append ho hT ⟨i, z, h1, h2, h3, h4, h5, h6⟩ hx hH hg hosz hty hn (fun a w I ι hr he => src_pure (aeval_rel he hy) h6 hrl) (fun r hr => by
    obtain ⟨q, q1, q2⟩ := List.mem_map.1 hr
    rw [← q2]; simpa using hrl q q1) (by simpa using hm) hbytes hmax hH2
theorem Rel.congr {I : Nat → Prop} {ι : Plc} {H H' : Heap} {w : World} (hr : Rel I ι H w) (h : ∀ j, H'.get j = H.get j) : Rel I ι H' w ∧ Step I ι H w I ι H' w := by
  have hst : Step I ι H w I ι H' w := ⟨rfl, rfl, rfl, Nat.le_refl _, fun _ _ => rfl, fun _ h => h, fun _ h => .inl h, fun b ⟨j, o, c, h1, h2⟩ => .inl ⟨j, o, c, (h j).symm.trans h1, h2⟩, fun _ _ _ => rfl,
    fun j o hj => ⟨o, (h j).trans hj, Nat.le_refl _, fun _ => ⟨rfl, rfl, fun _ => Nat.le_refl _⟩⟩⟩
  refine ⟨⟨hr.imm, fun j o hj => ?_, fun j j' o o' b c c' h1 h2 => hr.inj j j' o o' b c c' ((h j).symm.trans h1) ((h j').symm.trans h2)⟩, hst⟩
  exact (hr.obj j o ((h j).symm.trans hj)).keep rfl (fun _ _ _ _ => ⟨rfl, fun h => h⟩) (fun r _ a _ v hv => hv.mono hr hst)

/-- The rows of a text's bytes. -/
def brows (s : List UInt8) : List (List AV) := s.map fun b => [.pv (.int .u8 b.toNat)]

end
end Go.Abs
end
section
set_option linter.unusedVariables false
set_option linter.unusedSimpArgs false
namespace Go.Abs

/-- What one operation yields, which objects it looks at ('none': any), and which it lays anew. -/
structure Rec where
  v : AV
  R : Option (List Nat)
  W : Heap

def memB : List Nat → Nat → Bool
  | [], _ => false
  | x :: r, t => cond (Nat.beq x t) true (memB r t)
theorem memB_iff {l : List Nat} {t : Nat} : memB l t = true ↔ t ∈ l := by
  induction l with
  | nil => simp [memB]
  | cons x r ih =>
    cases e : Nat.beq x t with
    | true =>
      have : x = t := Nat.eq_of_beq_eq_true e
      simp [memB, e, this]
    | false =>
      have : x ≠ t := fun h => by subst h; rw [beq_self] at e; cases e
      simp [memB, e, ih, Ne.symm this]

def memR : Option (List Nat) → Nat → Bool
  | none, _ => true
  | some l, t => memB l t

def otmps : List Operand → List Nat
  | [] => []
  | .tmp t :: r => t :: otmps r
  | _ :: r => otmps r
def olooks (ops : List Oper) (o : Oper) : List Nat :=
  match o.guard with
  | none => otmps o.op.operands.toList
  | some (j, _) => match gslot ops j with
    | some t => t :: otmps o.op.operands.toList
    | none => otmps o.op.operands.toList
def restr (E : Env) : List Nat → Env
  | [] => []
  | t :: r => match E.get t with
    | some v => (t, v) :: restr E r
    | none => restr E r

theorem restr_sub {E : Env} {l : List Nat} : ∀ p ∈ restr E l, E.get p.1 = some p.2 ∧ p.1 ∈ l := by
  induction l with
  | nil => simp [restr]
  | cons t r ih =>
    intro p hp
    unfold restr at hp
    split at hp
    · rename_i v e
      rcases List.mem_cons.1 hp with h | h
      · subst h; exact ⟨e, by simp⟩
      · exact ⟨(ih p h).1, by simp [(ih p h).2]⟩
    · exact ⟨(ih p hp).1, by simp [(ih p hp).2]⟩

/-- One operation of such a region, in the order of the text. -/
inductive DStep (P : Program) (N : Nat) (ops : List Oper) (o : Oper) (E : Env) (H : Heap) (r : Rec) : Prop
  | plain (hg : o.guard = none) (h : ∀ H1 : Heap, (∀ id, memR r.R id = true → H1.get id = H.get id) → OpD P N o (restr E (olooks ops o)) H1 r.v (r.W ++ H1))
  | on (j : Nat) (want : Bool) (t : Tmp) (b : Bool) (hg : o.guard = some (j, want)) (hj : gslot ops j = some t) (hb : E.get t = some (.pv (.bool b))) (hw : b = want)
      (h : ∀ H1 : Heap, (∀ id, memR r.R id = true → H1.get id = H.get id) → OpD P N o (restr E (olooks ops o)) H1 r.v (r.W ++ H1))
  | off (j : Nat) (want : Bool) (t : Tmp) (x : AV) (hg : o.guard = some (j, want)) (hj : gslot ops j = some t) (hb : E.get t = some x) (hw : offB want x = true) (hv : r.v = .tup []) (hW : r.W = [])

inductive DChain (P : Program) (N : Nat) (ops : List Oper) : List Oper → Env → Heap → List Rec → Env → Heap → Prop
  | nil {E : Env} {H : Heap} : DChain P N ops [] E H [] E H
  | cons {o : Oper} {rest : List Oper} {E E' : Env} {H H' : Heap} {r : Rec} {rs : List Rec} (h : DStep P N ops o E H r) (hd : dstOk N o.dst = true) (hr : DChain P N ops rest (putd E o.dst r.v) (r.W ++ H) rs E' H') :
      DChain P N ops (o :: rest) E H (r :: rs) E' H'

/-! ### what has been carried out -/
structure Ent2 where
  o : Oper
  r : Rec
def spE (E : Env) (l : List Ent2) (S : Nat → Bool) : Nat → Nat → Option AV
  | 0, t => E.get t
  | k + 1, t => match l[k]? with
    | some x => if S k = true ∧ x.o.dst = some t then some x.r.v else spE E l S k t
    | none => spE E l S k t
def spH (H : Heap) (l : List Ent2) (S : Nat → Bool) : Nat → Nat → Option Ob
  | 0, id => H.get id
  | k + 1, id => match l[k]? with
    | some x => if S k = true ∧ (x.r.W.get id).isSome = true then x.r.W.get id else spH H l S k id
    | none => spH H l S k id

theorem get_app (W H : Heap) (id : Nat) : Heap.get (W ++ H) id = match W.get id with | some o => some o | none => H.get id := by
  induction W with
  | nil => rfl
  | cons x r ih =>
    obtain ⟨i, o⟩ := x
    cases e : Nat.beq i id with
    | true => simp [Heap.get, e]
    | false => simpa [Heap.get, e] using ih

def hkeys (W : Heap) : List Nat := W.map (·.1)
/-- Two entries touch the same slot or object. -/
def clash (ops : List Oper) (x y : Ent2) : Bool :=
  (match x.o.dst with
   | some d => memB (olooks ops y.o) d || (match y.o.dst with | some e => Nat.beq e d | none => false)
   | none => false) ||
  (match y.o.dst with
   | some d => memB (olooks ops x.o) d
   | none => false) ||
  (hkeys x.r.W).any (fun i => memR y.r.R i || memB (hkeys y.r.W) i) ||
  (hkeys y.r.W).any (fun i => memR x.r.R i)

def edgeBits (acc : List Nat) : List Edge → Nat
  | [] => 0
  | e :: r => if Region.binds .any e then ((1 <<< e.on) ||| acc.getD e.on 0) ||| edgeBits acc r else edgeBits acc r
def befL : List Oper → List Nat → List Nat
  | [], acc => acc
  | o :: r, acc => befL r (acc ++ [edgeBits acc o.after.toList])

def okPairs (ops : List Oper) (bef : List Nat) : Nat → List Ent2 → List Ent2 → Bool
  | _, _, [] => true
  | j, prev, y :: r => (prev.zipIdx.all fun (x, i) => !clash ops x y || (bef.getD j 0).testBit i) && okPairs ops bef (j + 1) (prev ++ [y]) r

def okEdges : Nat → List Oper → Bool
  | _, [] => true
  | j, o :: r => (o.after.toList.all fun e => !Region.binds .any e || Nat.blt e.on j) && okEdges (j + 1) r

def okDraw (ops : List Oper) (rs : List Rec) : Bool :=
  okEdges 0 ops && okPairs ops (befL ops []) 0 [] (List.zipWith Ent2.mk ops rs)

/-- A set of indices that holds, with an operation, all that stand before it. -/
def Down (ops : List Oper) (S : Nat → Bool) : Prop := ∀ j o, ops[j]? = some o → S j = true → ∀ e ∈ o.after.toList, Region.binds .any e = true → S e.on = true
def Pre (ops : List Oper) (i j : Nat) : Prop := ∀ S, Down ops S → ∀ o, ops[j]? = some o → (∀ e ∈ o.after.toList, Region.binds .any e = true → S e.on = true) → S i = true

theorem edgeBits_spec {ops : List Oper} {acc : List Nat} (hacc : ∀ j, j < acc.length → ∀ i, (acc.getD j 0).testBit i = true → Pre ops i j) (hlen : acc.length ≤ ops.length) :
    ∀ (es : List Edge) (i : Nat), (edgeBits acc es).testBit i = true → ∀ S, Down ops S → (∀ e ∈ es, Region.binds .any e = true → S e.on = true) → S i = true := by
  intro es
  induction es with
  | nil => intro i h; simp [edgeBits] at h
  | cons e r ih =>
    intro i h S hS he
    unfold edgeBits at h
    split at h
    · rename_i hb
      rw [Nat.testBit_or, Nat.testBit_or, Bool.or_eq_true, Bool.or_eq_true] at h
      rcases h with (h | h) | h
      · have : e.on = i := by
          rw [Nat.testBit_shiftLeft] at h
          simp only [Bool.and_eq_true, decide_eq_true_eq] at h
          have h2 := h.2
          rw [Nat.testBit_one_eq_true_iff_self_eq_zero] at h2
          omega
        rw [← this]
        exact he e (by simp) hb
      · by_cases hj : e.on < acc.length
        · have hlt : e.on < ops.length := by omega
          have hon := he e (by simp) hb
          exact hacc e.on hj i h S hS _ (List.getElem?_eq_getElem hlt) (fun e' he' hb' => hS e.on _ (List.getElem?_eq_getElem hlt) hon e' he' hb')
        · simp [List.getD, List.getElem?_eq_none (show acc.length ≤ e.on by omega)] at h
      · exact ih i h S hS (fun e' he' => he e' (by simp [he']))
    · exact ih i h S hS (fun e' he' => he e' (by simp [he']))

theorem befL_spec {ops : List Oper} : ∀ (rest done : List Oper) (acc : List Nat), ops = done ++ rest → acc.length = done.length → (∀ j, j < acc.length → ∀ i, (acc.getD j 0).testBit i = true → Pre ops i j) →
    ∀ j i, ((befL rest acc).getD j 0).testBit i = true → Pre ops i j := by
  intro rest
  induction rest with
  | nil =>
    intro done acc h1 h2 h3 j i hb
    by_cases hj : j < acc.length
    · exact h3 j hj i hb
    · simp [befL, List.getD, List.getElem?_eq_none (show acc.length ≤ j by omega)] at hb
  | cons o r ih =>
    intro done acc h1 h2 h3
    refine ih (done ++ [o]) (acc ++ [edgeBits acc o.after.toList]) (by rw [h1]; simp) (by simp [h2]) ?_
    intro j hj i hb
    by_cases hlt : j < acc.length
    · have hb' : (acc.getD j 0).testBit i = true := by simpa [List.getD, List.getElem?_append_left hlt] using hb
      exact h3 j hlt i hb'
    · have hje : j = acc.length := by simp at hj; omega
      subst hje
      have hb : (edgeBits acc o.after.toList).testBit i = true := by simpa [List.getD] using hb
      intro S hS o' ho' he'
      have : o' = o := by
        rw [h1, List.getElem?_append_right (by omega), h2] at ho'
        simp at ho'
        exact ho'.symm
      subst this
      exact edgeBits_spec h3 (by rw [h1, h2]; simp) _ i hb S hS he'

theorem okPairs_spec {ops : List Oper} {bef : List Nat} : ∀ (rest prev : List Ent2), okPairs ops bef prev.length prev rest = true → ∀ i j, i < j → prev.length ≤ j → ∀ x y, (prev ++ rest)[i]? = some x → (prev ++ rest)[j]? = some y → clash ops x y = true → (bef.getD j 0).testBit i = true := by
  intro rest
  induction rest with
  | nil =>
    intro prev _ i j hij hj x y hx hy
    have := (List.getElem?_eq_some_iff.1 hy).1
    simp at this
    omega
  | cons z r ih =>
    intro prev h i j hij hj x y hx hy hc
    simp only [okPairs, Bool.and_eq_true] at h
    by_cases e : j = prev.length
    · subst e
      have hz : y = z := by
        rw [List.getElem?_append_right (by omega)] at hy
        simp at hy; exact hy.symm
      subst hz
      have hx' : prev[i]? = some x := by rw [List.getElem?_append_left hij] at hx; exact hx
      have hm : (x, i) ∈ prev.zipIdx := by rw [List.mem_zipIdx_iff_getElem?]; exact hx'
      have := List.all_eq_true.1 h.1 _ hm
      simpa [hc] using this
    · have h2 := h.2
      have hl : prev.length + 1 = (prev ++ [z]).length := by simp
      rw [hl] at h2
      have hr : prev ++ z :: r = (prev ++ [z]) ++ r := by simp
      rw [hr] at hx hy
      exact ih (prev ++ [z]) h2 i j hij (by simp; omega) x y hx hy hc

theorem okEdges_spec : ∀ (l : List Oper) (k : Nat), okEdges k l = true → ∀ j o, l[j]? = some o → ∀ e ∈ o.after.toList, Region.binds .any e = true → e.on < k + j := by
  intro l
  induction l with
  | nil => intro k _ j o h; simp at h
  | cons x r ih =>
    intro k h j o ho e he hb
    simp only [okEdges, Bool.and_eq_true] at h
    cases j with
    | zero =>
      simp at ho; subst ho
      have := List.all_eq_true.1 h.1 e he
      simpa [hb, Nat.blt_eq] using this
    | succ j =>
      simp at ho
      have := ih (k + 1) h.2 j o ho e he hb
      omega

section
variable {P : Program} {N : Nat} {ops : List Oper} {E : Env} {H : Heap}

/-- The states of the walk in the order of the text. -/
theorem DChain.spec {rest : List Oper} {E' : Env} {H' : Heap} {rs : List Rec} (h : DChain P N ops rest E H rs E' H') : rs.length = rest.length ∧
    (∀ k x, (List.zipWith Ent2.mk rest rs)[k]? = some x → dstOk N x.o.dst = true ∧ ∃ Ek Hk, (∀ t, Ek.get t = spE E (List.zipWith Ent2.mk rest rs) (fun _ => true) k t) ∧ (∀ id, Hk.get id = spH H (List.zipWith Ent2.mk rest rs) (fun _ => true) k id) ∧ DStep P N ops x.o Ek Hk x.r) ∧
    (∀ t, E'.get t = spE E (List.zipWith Ent2.mk rest rs) (fun _ => true) rest.length t) ∧ (∀ id, H'.get id = spH H (List.zipWith Ent2.mk rest rs) (fun _ => true) rest.length id) := by
  induction h with
  | nil => exact ⟨rfl, by simp, fun t => rfl, fun id => rfl⟩
  | @cons o rest E E' H H' r rs hs hd hr ih =>
    obtain ⟨h1, h2, h3, h4⟩ := ih
    have shE : ∀ (l : List Ent2) k t, spE (putd E o.dst r.v) l (fun _ => true) k t = spE E (⟨o, r⟩ :: l) (fun _ => true) (k + 1) t := by
      intro l k t
      induction k with
      | zero =>
        simp only [spE, List.getElem?_cons_zero]
        cases hdst : o.dst with
        | none => simp [putd]
        | some d =>
          simp only [putd]
          by_cases e : d = t
          · subst e; simp [Env.get_cons_same]
          · rw [Env.get_cons_other _ _ e]; simp [e]
      | succ k ih =>
        rw [spE, spE]
        simp only [List.getElem?_cons_succ]
        cases l[k]? with
        | none => exact ih
        | some x => simp only [ih]
    have shH : ∀ (l : List Ent2) k id, spH (r.W ++ H) l (fun _ => true) k id = spH H (⟨o, r⟩ :: l) (fun _ => true) (k + 1) id := by
      intro l k id
      induction k with
      | zero =>
        simp only [spH, List.getElem?_cons_zero, get_app]
        cases hw : r.W.get id <;> simp
      | succ k ih =>
        rw [spH, spH]
        simp only [List.getElem?_cons_succ]
        cases l[k]? with
        | none => exact ih
        | some x => simp only [ih]
    refine ⟨by simp [h1], ?_, ?_, ?_⟩
    · intro k x hx
      cases k with
      | zero =>
        simp at hx; subst hx
        exact ⟨hd, E, H, fun t => rfl, fun id => rfl, hs⟩
      | succ k =>
        simp at hx
        obtain ⟨g0, Ek, Hk, g1, g2, g3⟩ := h2 k x (by simpa using hx)
        exact ⟨g0, Ek, Hk, fun t => (g1 t).trans (shE _ k t), fun id => (g2 id).trans (shH _ k id), g3⟩
    · intro t
      rw [h3 t, shE]
      rfl
    · intro id
      rw [h4 id, shH]
      rfl

theorem spE_agree {l : List Ent2} {S : Nat → Bool} {t : Nat} : ∀ (n k : Nat), k ≤ n → (∀ j x, l[j]? = some x → x.o.dst = some t → (j < k → S j = true) ∧ (k ≤ j → j < n → S j = false)) → spE E l S n t = spE E l (fun _ => true) k t := by
  intro n
  induction n with
  | zero => intro k hk h; have : k = 0 := by omega
            subst this; rfl
  | succ n ih =>
    intro k hk h
    by_cases e : k = n + 1
    · subst e
      rw [spE, spE]
      cases hl : l[n]? with
      | none => exact ih n (Nat.le_refl _) (fun j x hj hx => ⟨fun hlt => (h j x hj hx).1 (by omega), fun h1 h2 => by omega⟩)
      | some x =>
        simp only
        by_cases hd : x.o.dst = some t
        · have := (h n x hl hd).1 (by omega)
          simp [this, hd]
        · simp only [hd, and_false, if_false]
          exact ih n (Nat.le_refl _) (fun j x hj hx => ⟨fun hlt => (h j x hj hx).1 (by omega), fun h1 h2 => by omega⟩)
    · rw [spE]
      have hk' : k ≤ n := by omega
      have hrec := ih k hk' (fun j x hj hx => ⟨(h j x hj hx).1, fun h1 h2 => (h j x hj hx).2 h1 (by omega)⟩)
      cases hl : l[n]? with
      | none => exact hrec
      | some x =>
        simp only
        by_cases hd : x.o.dst = some t
        · have := (h n x hl hd).2 (by omega) (by omega)
          simp [this, hrec]
        · simp [hd, hrec]
theorem spH_agree {l : List Ent2} {S : Nat → Bool} {id : Nat} : ∀ (n k : Nat), k ≤ n → (∀ j x, l[j]? = some x → (x.r.W.get id).isSome = true → (j < k → S j = true) ∧ (k ≤ j → j < n → S j = false)) → spH H l S n id = spH H l (fun _ => true) k id := by
  intro n
  induction n with
  | zero => intro k hk h; have : k = 0 := by omega
            subst this; rfl
  | succ n ih =>
    intro k hk h
    by_cases e : k = n + 1
    · subst e
      rw [spH, spH]
      cases hl : l[n]? with
      | none => exact ih n (Nat.le_refl _) (fun j x hj hx => ⟨fun hlt => (h j x hj hx).1 (by omega), fun h1 h2 => by omega⟩)
      | some x =>
        simp only
        by_cases hd : (x.r.W.get id).isSome = true
        · have := (h n x hl hd).1 (by omega)
          simp [this, hd]
        · rw [if_neg (fun hh => hd hh.2), if_neg (fun hh => hd hh.2)]
          exact ih n (Nat.le_refl _) (fun j x hj hx => ⟨fun hlt => (h j x hj hx).1 (by omega), fun h1 h2 => by omega⟩)
    · rw [spH]
      have hk' : k ≤ n := by omega
      have hrec := ih k hk' (fun j x hj hx => ⟨(h j x hj hx).1, fun h1 h2 => (h j x hj hx).2 h1 (by omega)⟩)
      cases hl : l[n]? with
      | none => exact hrec
      | some x =>
        simp only
        by_cases hd : (x.r.W.get id).isSome = true
        · have := (h n x hl hd).2 (by omega) (by omega)
          simp [this, hrec]
        · simp [hd, hrec]
end

theorem OpD.restr {P : Program} {N : Nat} {o : Oper} {E E1 : Env} {H1 H2 : Heap} {l : List Nat} {v : AV} (h : OpD P N o (restr E l) H1 v H2) (hE : ∀ t, t ∈ l → E1.get t = E.get t) : OpD P N o E1 H1 v H2 := by
  intro a w I ι hd hs hr he K Q hk
  refine h a w I ι hd hs hr (fun t v ht => ?_) K Q hk
  have hp := restr_sub (E := E) (l := l) _ (mem_of_get ht)
  exact he t v ((hE t hp.2).trans hp.1)

theorem Ent.get {G0 : Heap} {E E' : Env} {H H' : Heap} (hE : ∀ t, E'.get t = E.get t) (hH : ∀ j, H'.get j = H.get j) : Ent G0 E H E' H' := by
  intro G hG N a w hs
  obtain ⟨I, ι, hr, hst, he⟩ := hs.rel
  obtain ⟨k2, k3⟩ := hr.congr hH
  refine ⟨hs.defers, hs.size, I, ι, k2, hst.trans k3, fun t v ht => ?_⟩
  obtain ⟨c, hc, hv⟩ := he t v ((hE t).symm.trans ht)
  exact ⟨c, hc, hv.mono hr k3⟩

theorem clash_dst_looks {ops : List Oper} {x y : Ent2} {d : Nat} (h : x.o.dst = some d) (h' : d ∈ olooks ops y.o) : clash ops x y = true := by
  simp [clash, h, memB_iff.2 h']
theorem clash_dst_dst {ops : List Oper} {x y : Ent2} {d : Nat} (h : x.o.dst = some d) (h' : y.o.dst = some d) : clash ops x y = true := by
  simp [clash, h, h', beq_self]
theorem clash_looks_dst {ops : List Oper} {x y : Ent2} {d : Nat} (h : y.o.dst = some d) (h' : d ∈ olooks ops x.o) : clash ops x y = true := by
  simp [clash, h, memB_iff.2 h']
theorem key_of_some {W : Heap} {id : Nat} (h : (W.get id).isSome = true) : id ∈ hkeys W := by
  obtain ⟨o, ho⟩ := Option.isSome_iff_exists.1 h
  exact List.mem_map.2 ⟨_, mem_of_hget ho, rfl⟩
theorem clash_W_R {ops : List Oper} {x y : Ent2} {id : Nat} (h : (x.r.W.get id).isSome = true) (h' : memR y.r.R id = true) : clash ops x y = true := by
  have : (hkeys x.r.W).any (fun i => memR y.r.R i || memB (hkeys y.r.W) i) = true := List.any_eq_true.2 ⟨id, key_of_some h, by simp [h']⟩
  simp [clash, this]
theorem clash_W_W {ops : List Oper} {x y : Ent2} {id : Nat} (h : (x.r.W.get id).isSome = true) (h' : (y.r.W.get id).isSome = true) : clash ops x y = true := by
  have : (hkeys x.r.W).any (fun i => memR y.r.R i || memB (hkeys y.r.W) i) = true := List.any_eq_true.2 ⟨id, key_of_some h, by simp [memB_iff.2 (key_of_some h')]⟩
  simp [clash, this]
theorem clash_R_W {ops : List Oper} {x y : Ent2} {id : Nat} (h : (y.r.W.get id).isSome = true) (h' : memR x.r.R id = true) : clash ops x y = true := by
  have : (hkeys y.r.W).any (fun i => memR x.r.R i) = true := List.any_eq_true.2 ⟨id, key_of_some h, h'⟩
  simp [clash, this]

/-- An operation that leaves the heap, in a region in which all do. -/
theorem OpD.any_heap {P : Program} {N : Nat} {o : Oper} {E : Env} {H H1 : Heap} {v : AV} (h : OpD P N o E H v H) (he : ∀ j, H1.get j = H.get j) : OpD P N o E H1 v H1 := by
  intro a w I ι hd hs hr hE K Q hk
  obtain ⟨k2, k3⟩ := hr.congr (fun j => (he j).symm)
  refine h a w I ι hd hs k2 (fun t v ht => let ⟨c, h1, h2⟩ := hE t v ht; ⟨c, h1, h2.mono hr k3⟩) K Q ?_
  rintro c w' I' ι' r H' ⟨rfl, rfl⟩ hv hr' hst
  obtain ⟨q2, q3⟩ := hr'.congr he
  exact hk c w' I' ι' _ _ ⟨rfl, rfl⟩ (hv.mono hr' q3) q2 ((k3.trans hst).trans q3)
theorem DStep.q {P : Program} {N : Nat} {ops : List Oper} {o : Oper} {E : Env} {H : Heap} {v : AV} (hg : o.guard = none) (h : OpD P N o (restr E (olooks ops o)) H v H) : DStep P N ops o E H ⟨v, none, []⟩ :=
  .plain hg fun H1 hH => h.any_heap fun j => hH j rfl
theorem DStep.qon {P : Program} {N : Nat} {ops : List Oper} {o : Oper} {E : Env} {H : Heap} {v : AV} {j : Nat} {want : Bool} {t : Tmp} {b : Bool} (hg : o.guard = some (j, want)) (hj : gslot ops j = some t) (hb : E.get t = some (.pv (.bool b))) (hw : b = want) (h : OpD P N o (restr E (olooks ops o)) H v H) : DStep P N ops o E H ⟨v, none, []⟩ :=
  .on j want t b hg hj hb hw fun H1 hH => h.any_heap fun j => hH j rfl
theorem DStep.qoff {P : Program} {N : Nat} {ops : List Oper} {o : Oper} {E : Env} {H : Heap} {j : Nat} {want : Bool} {t : Tmp} {x : AV} (hg : o.guard = some (j, want)) (hj : gslot ops j = some t) (hb : E.get t = some x) (hw : offB want x = true) : DStep P N ops o E H ⟨.tup [], some [], []⟩ :=
  .off j want t x hg hj hb hw rfl rfl

/-- THE REGION, IN WHATEVER ORDER. -/
theorem awp_draw {P : Program} {G0 : Heap} {N id : Nat} {Q : Exit → Env → Heap → Prop} {ops : Array Oper} {E E' : Env} {H H' : Heap} {rs : List Rec} (hm : P.follows .mixedOrders = true) (hc : DChain P N ops.toList ops.toList E H rs E' H') (hok : okDraw ops.toList rs = true)
    (hK : Q .normal E' H') : AWp P G0 N (.region id ops true) Q E H := by
  intro G hG a w hs
  refine wp_region_any hm ?_
  obtain ⟨hlen, hst, hE', hH'⟩ := hc.spec
  obtain ⟨l, hl⟩ : ∃ l, l = List.zipWith Ent2.mk ops.toList rs := ⟨_, rfl⟩
  rw [← hl] at hst hE' hH'
  simp only [okDraw, Bool.and_eq_true, ← hl] at hok
  obtain ⟨hok1, hok2⟩ := hok
  have hll : l.length = ops.size := by rw [hl]; simp [hlen]
  have hlo : ∀ (i : Nat) (x : Ent2), l[i]? = some x → ops.toList[i]? = some x.o := by
    intro i x hx
    rw [hl, List.getElem?_zipWith] at hx
    cases e1 : ops.toList[i]? with
    | none => simp [e1] at hx
    | some o =>
      cases e2 : rs[i]? with
      | none => simp [e1, e2] at hx
      | some r => simp [e1, e2] at hx; rw [← hx]
  have hedge := okEdges_spec ops.toList 0 hok1
  have hbef : ∀ (i j : Nat) (x y : Ent2), i < j → l[i]? = some x → l[j]? = some y → clash ops.toList x y = true → Pre ops.toList i j := fun i j x y hij hx hy hcl =>
    befL_spec ops.toList [] [] rfl rfl (by simp) j i (okPairs_spec l [] hok2 i j hij (Nat.zero_le _) x y hx hy hcl)
  -- the states
  have main : ∀ (fuel : Nat) (listed : Array Bool) (a : Act) (w : World) (E1 : Env) (H1 : Heap), listed.size = ops.size → ((List.range ops.size).filter fun i => !listed.getD i true).length ≤ fuel →
      Down ops.toList (fun i => listed.getD i false) → St G N E1 H1 a w → (∀ t, E1.get t = spE E l (fun i => listed.getD i false) ops.size t) → (∀ j, H1.get j = spH H l (fun i => listed.getD i false) ops.size j) →
      wpAny P .any ops (fun e a w => ∃ E H, Q e E H ∧ St G N E H a w) fuel listed a w := by
    intro fuel
    induction fuel with
    | zero =>
      intro listed a w E1 H1 hsz hcnt hdown hst1 hE1 hH1
      have hall : ∀ i, i < ops.size → listed.getD i false = true := by
        intro i hi
        have hnil := List.eq_nil_of_length_eq_zero (Nat.le_zero.1 hcnt)
        have := List.filter_eq_nil_iff.1 hnil i (List.mem_range.2 hi)
        have hi' : i < listed.size := by omega
        simp [Array.getD, hi'] at this ⊢
        exact this
      refine ⟨?_, E', H', hK, ?_⟩
      · unfold Region.ready
        refine List.filter_eq_nil_iff.2 fun i hi => ?_
        have := hall i (List.mem_range.1 hi)
        have hi' : i < listed.size := by have := List.mem_range.1 hi; omega
        simp [Array.getD, hi'] at this
        simp [Array.getD, hi', this]
      · refine Ent.get (G0 := G0) (fun t => ?_) (fun j => ?_) G hG N a w hst1
        · rw [hE' t, hE1 t, Array.length_toList]
          exact (spE_agree (E := E) ops.size ops.size (Nat.le_refl _) (fun j x hj _ => ⟨fun hlt => hall j hlt, fun h1 h2 => by omega⟩)).symm
        · rw [hH' j, hH1 j, Array.length_toList]
          exact (spH_agree (H := H) ops.size ops.size (Nat.le_refl _) (fun i x hi _ => ⟨fun hlt => hall i hlt, fun h1 h2 => by omega⟩)).symm
    | succ fuel ih =>
      intro listed a w E1 H1 hsz hcnt hdown hst1 hE1 hH1
      refine ⟨fun hnil => ?_, fun i hi => ?_⟩
      · -- nothing is left
        have hall : ∀ i, i < ops.size → listed.getD i false = true := by
          intro i
          induction i using Nat.strongRecOn with
          | _ i ihi =>
            intro hi
            refine Classical.byContradiction fun hno => ?_
            have hi' : i < listed.size := by omega
            have hno' : listed.getD i true = false := by
              simp [Array.getD, hi'] at hno ⊢
              exact hno
            have hlt : i < ops.toList.length := by simpa using hi
            have hr : i ∈ Region.ready .any ops listed := by
              unfold Region.ready
              refine List.mem_filter.2 ⟨List.mem_range.2 hi, ?_⟩
              have ho : ops[i]? = some ops[i] := Array.getElem?_eq_getElem hi
              simp only [hno', Bool.not_false, Bool.true_and, ho, Option.map_some, Option.getD_some]
              rw [Array.all_eq_true']
              intro e he
              cases hb : Region.binds .any e with
              | false => simp
              | true =>
                have hon := hedge i ops[i] (by simp [ho]) e (by simpa using he) hb
                simp only [Bool.not_true, Bool.false_or]
                exact ihi e.on (by omega) (by omega)
            rw [hnil] at hr
            cases hr
        refine ⟨E', H', hK, ?_⟩
        refine Ent.get (G0 := G0) (fun t => ?_) (fun j => ?_) G hG N a w hst1
        · rw [hE' t, hE1 t, Array.length_toList]
          exact (spE_agree (E := E) ops.size ops.size (Nat.le_refl _) (fun j x hj _ => ⟨fun hlt => hall j hlt, fun h1 h2 => by omega⟩)).symm
        · rw [hH' j, hH1 j, Array.length_toList]
          exact (spH_agree (H := H) ops.size ops.size (Nat.le_refl _) (fun i x hi _ => ⟨fun hlt => hall i hlt, fun h1 h2 => by omega⟩)).symm
      · -- operation i comes up
        have hi1 := List.mem_filter.1 hi
        have hilt : i < ops.size := List.mem_range.1 hi1.1
        have hi' : i < listed.size := by omega
        have ho : ops[i]? = some ops[i] := Array.getElem?_eq_getElem hilt
        have hi2 := hi1.2
        simp only [ho, Option.map_some, Option.getD_some, Bool.and_eq_true] at hi2
        obtain ⟨hnl, hpreds⟩ := hi2
        have hnl' : listed.getD i false = false := by
          simp [Array.getD, hi'] at hnl ⊢
          exact hnl
        have hpre : ∀ e ∈ (ops[i]).after.toList, Region.binds .any e = true → listed.getD e.on false = true := by
          intro e he hb
          have := (Array.all_eq_true'.1 hpreds) e (by simpa using he)
          simpa [hb] using this
        have hil : i < l.length := by omega
        obtain ⟨x, hx⟩ : ∃ x, l[i]? = some x := ⟨_, List.getElem?_eq_getElem hil⟩
        have hxo : x.o = ops[i] := by
          have := hlo i x hx
          simp [ho] at this
          exact this.symm
        obtain ⟨hdok, Ek, Hk, hEk, hHk, hdst⟩ := hst i x hx
        -- what stands before it is done, what stands behind it is not
        have hbefore : ∀ (j : Nat) (y : Ent2), j < i → l[j]? = some y → clash ops.toList y x = true → listed.getD j false = true := by
          intro j y hj hy hcl
          exact hbef j i y x hj hy hx hcl _ hdown ops[i] (by simp [ho]) hpre
        have hbehind : ∀ (j : Nat) (y : Ent2), i < j → l[j]? = some y → clash ops.toList x y = true → listed.getD j false = false := by
          intro j y hj hy hcl
          cases hjl : listed.getD j false with
          | false => rfl
          | true =>
            have hjlt : j < l.length := (List.getElem?_eq_some_iff.1 hy).1
            have hjo : ops.toList[j]? = some y.o := hlo j y hy
            have := hbef i j x y hj hx hy hcl _ hdown y.o hjo (fun e he hb => hdown j y.o hjo hjl e he hb)
            rw [hnl'] at this
            cases this
        have agreeE : ∀ t, (∀ (j : Nat) (y : Ent2), l[j]? = some y → y.o.dst = some t → (j < i → clash ops.toList y x = true) ∧ (i < j → clash ops.toList x y = true)) → E1.get t = Ek.get t := by
          intro t ht
          rw [hE1 t, hEk t]
          refine spE_agree (E := E) ops.size i (by omega) (fun j y hj hd => ⟨fun hlt => hbefore j y hlt hj ((ht j y hj hd).1 hlt), fun h1 h2 => ?_⟩)
          by_cases e : j = i
          · subst e; exact hnl'
          · exact hbehind j y (by omega) hj ((ht j y hj hd).2 (by omega))
        have agreeH : ∀ k, (∀ (j : Nat) (y : Ent2), l[j]? = some y → (y.r.W.get k).isSome = true → (j < i → clash ops.toList y x = true) ∧ (i < j → clash ops.toList x y = true)) → H1.get k = Hk.get k := by
          intro k hk
          rw [hH1 k, hHk k]
          refine spH_agree (H := H) ops.size i (by omega) (fun j y hj hd => ⟨fun hlt => hbefore j y hlt hj ((hk j y hj hd).1 hlt), fun h1 h2 => ?_⟩)
          by_cases e : j = i
          · subst e; exact hnl'
          · exact hbehind j y (by omega) hj ((hk j y hj hd).2 (by omega))
        have hlooks : ∀ t, t ∈ olooks ops.toList x.o → E1.get t = Ek.get t := fun t ht =>
          agreeE t fun j y hj hd => ⟨fun _ => clash_dst_looks hd ht, fun _ => clash_looks_dst hd ht⟩
        have hreads : ∀ k, memR x.r.R k = true → H1.get k = Hk.get k := fun k hk =>
          agreeH k fun j y hj hd => ⟨fun _ => clash_W_R hd hk, fun _ => clash_R_W hd hk⟩
        -- the next state
        have hlist : ∀ j, (listed.setIfInBounds i true).getD j false = if j = i then true else listed.getD j false := by
          intro j
          by_cases e : j = i
          · subst e; simp [Array.getD, hi']
          · simp only [Array.getD_eq_getD_getElem?, Array.getElem?_setIfInBounds_ne (Ne.symm e), e, if_false]
        have hdown' : Down ops.toList (fun j => (listed.setIfInBounds i true).getD j false) := by
          intro j o hj hjl e he hb
          simp only [hlist] at hjl ⊢
          by_cases ej : j = i
          · subst ej
            have : o = ops[j] := by simp [ho] at hj; exact hj.symm
            subst this
            have := hpre e he hb
            simp [this]
          · simp only [ej, if_false] at hjl
            have := hdown j o hj hjl e he hb
            simp only at this
            simp [this]
        have hcnt' : ((List.range ops.size).filter fun j => !(listed.setIfInBounds i true).getD j true).length ≤ fuel := by
          have hlist' : ∀ j, (listed.setIfInBounds i true).getD j true = if j = i then true else listed.getD j true := by
            intro j
            by_cases e : j = i
            · subst e; simp [Array.getD, hi']
            · simp only [Array.getD_eq_getD_getElem?, Array.getElem?_setIfInBounds_ne (Ne.symm e), e, if_false]
          have h1 : ((List.range ops.size).filter fun j => !(listed.setIfInBounds i true).getD j true) = ((List.range ops.size).filter fun j => !listed.getD j true).filter fun j => j != i := by
            rw [List.filter_filter]
            refine List.filter_congr fun j _ => ?_
            rw [hlist']
            by_cases e : j = i <;> simp [e]
          rw [h1]
          have h2 := List.length_filter_lt_length_iff_exists (p := fun j => j != i) (l := (List.range ops.size).filter fun j => !listed.getD j true) |>.2 ⟨i, List.mem_filter.2 ⟨hi1.1, by simpa using hnl⟩, by simp⟩
          omega
        have next : ∀ (r : AV) (a' : Act) (w' : World), r = x.r.v → St G N (putd E1 x.o.dst x.r.v) (x.r.W ++ H1) a' w' → wpAny P .any ops (fun e a w => ∃ E H, Q e E H ∧ St G N E H a w) fuel (listed.setIfInBounds i true) a' w' := by
          intro r a' w' _ hst'
          refine ih _ a' w' _ _ (by simp [hsz]) hcnt' hdown' hst' (fun t => ?_) (fun k => ?_)
          · -- slots
            by_cases hd : x.o.dst = some t
            · have e1 : Env.get (putd E1 x.o.dst x.r.v) t = some x.r.v := by rw [hd]; simp [putd, Env.get_cons_same]
              rw [e1]
              have e2 := spE_agree (E := E) (l := l) (S := fun j => (listed.setIfInBounds i true).getD j false) (t := t) ops.size (i + 1) (by omega) (fun j y hj hyd => ⟨fun hlt => ?_, fun h1 h2 => ?_⟩)
              · rw [e2, spE, hx]
                simp [hd]
              · simp only [hlist]
                by_cases ej : j = i
                · simp [ej]
                · simp only [ej, if_false]
                  exact hbefore j y (by omega) hj (clash_dst_dst hyd hd)
              · simp only [hlist]
                rw [if_neg (by omega)]
                exact hbehind j y (by omega) hj (clash_dst_dst hd hyd)
            · have e1 : Env.get (putd E1 x.o.dst x.r.v) t = E1.get t := by
                cases hdd : x.o.dst with
                | none => rfl
                | some d => exact Env.get_cons_other _ _ (fun e => hd (by rw [hdd, e]))
              rw [e1, hE1 t]
              have : ∀ n, spE E l (fun i => listed.getD i false) n t = spE E l (fun j => (listed.setIfInBounds i true).getD j false) n t := by
                intro n
                induction n with
                | zero => rfl
                | succ n ihn =>
                  rw [spE, spE]
                  cases hn : l[n]? with
                  | none => exact ihn
                  | some y =>
                    simp only
                    by_cases en : n = i
                    · subst en
                      rw [hx] at hn; cases hn
                      rw [if_neg (fun h => hd h.2), if_neg (fun h => hd h.2)]
                      exact ihn
                    · have hS : (listed.setIfInBounds i true).getD n false = listed.getD n false := by rw [hlist, if_neg en]
                      rw [hS, ihn]
              exact this _
          · -- objects
            rw [get_app]
            by_cases hd : (x.r.W.get k).isSome = true
            · obtain ⟨ob, hob⟩ := Option.isSome_iff_exists.1 hd
              rw [hob]
              have e2 := spH_agree (H := H) (l := l) (S := fun j => (listed.setIfInBounds i true).getD j false) (id := k) ops.size (i + 1) (by omega) (fun j y hj hyd => ⟨fun hlt => ?_, fun h1 h2 => ?_⟩)
              · rw [e2, spH, hx]
                simp [hob]
              · simp only [hlist]
                by_cases ej : j = i
                · simp [ej]
                · simp only [ej, if_false]
                  exact hbefore j y (by omega) hj (clash_W_W hyd hd)
              · simp only [hlist]
                rw [if_neg (by omega)]
                exact hbehind j y (by omega) hj (clash_W_W hd hyd)
            · have hnone : x.r.W.get k = none := by simpa using hd
              rw [hnone]
              simp only
              rw [hH1 k]
              have : ∀ n, spH H l (fun i => listed.getD i false) n k = spH H l (fun j => (listed.setIfInBounds i true).getD j false) n k := by
                intro n
                induction n with
                | zero => rfl
                | succ n ihn =>
                  rw [spH, spH]
                  cases hn : l[n]? with
                  | none => exact ihn
                  | some y =>
                    simp only
                    by_cases en : n = i
                    · subst en
                      rw [hx] at hn; cases hn
                      rw [if_neg (fun h => hd h.2), if_neg (fun h => hd h.2)]
                      exact ihn
                    · have hS : (listed.setIfInBounds i true).getD n false = listed.getD n false := by rw [hlist, if_neg en]
                      rw [hS, ihn]
              exact this _
        -- the operation itself
        unfold wpOp
        simp only [ho]
        rw [hxo] at hdst hlooks hdok
        rw [hxo] at next
        have hgE : ∀ (j : Nat) (want : Bool) (t : Tmp) (b : Bool), (ops[i]).guard = some (j, want) → gslot ops.toList j = some t → Ek.get t = some (.pv (.bool b)) → yielded ops a.tmps j = some b := by
          intro j want t b hg hj hb
          have hmem : t ∈ olooks ops.toList ops[i] := by simp [olooks, hg, hj]
          exact guard_yields (E := E1) hj ((hlooks t hmem).trans hb) hst1.rel.choose_spec.choose_spec.2.2
        cases hdst with
        | plain hg h =>
          have hw : Region.wanted ops[i] (yielded ops a.tmps) = true := by simp [Region.wanted, hg]
          simp only [hw, if_true]
          refine .inl (hst1.op hdok ((h H1 hreads).restr hlooks) ?_)
          rintro r H2 a' w' ⟨rfl, rfl⟩ hs'
          exact next _ a' w' rfl hs'
        | on j want t b hg hj hb hw h =>
          have hy := hgE j want t b hg hj hb
          have hw : Region.wanted ops[i] (yielded ops a.tmps) = true := by simp [Region.wanted, hg, hy, hw]
          simp only [hw, if_true]
          refine .inl (hst1.op hdok ((h H1 hreads).restr hlooks) ?_)
          rintro r H2 a' w' ⟨rfl, rfl⟩ hs'
          exact next _ a' w' rfl hs'
        | off j want t x' hg hj hb hw hv hW =>
          have hmem : t ∈ olooks ops.toList ops[i] := by simp [olooks, hg, hj]
          have hw : Region.wanted ops[i] (yielded ops a.tmps) = false :=
            guard_off (E := E1) hg hj ((hlooks t hmem).trans hb) hw hst1.rel.choose_spec.choose_spec.2.2
          simp only [hw, Bool.false_eq_true, if_false]
          refine next (.tup []) _ w hv.symm ?_
          obtain ⟨I, ι, hr, hst2, he⟩ := hst1.rel
          rw [hv, hW]
          refine ⟨?_, ?_, I, ι, hr, hst2, ERel.put hr (Step.refl _ _ _ _) he ERel.skip (by rw [hst1.size]; exact hdok)⟩
          · have := hst1.defers
            cases (ops[i]).dst <;> simpa [Act.put] using this
          · have := hst1.size
            cases (ops[i]).dst <;> simpa [Act.put] using this
  have hs' : St G N E H a { w with drawn := w.drawn + 1 } := by
    obtain ⟨I, ι, hr, hst2, he⟩ := hs.rel
    obtain ⟨k2, k3⟩ := hr.drawn (w' := { w with drawn := w.drawn + 1 }) rfl rfl rfl rfl
    exact ⟨hs.defers, hs.size, I, ι, k2, hst2.trans k3, fun t v ht => let ⟨c, h1, h2⟩ := he t v ht; ⟨c, h1, h2.mono hr k3⟩⟩
  refine main ops.size (Array.replicate ops.size false) a _ E H (by simp) (by
    have := List.length_filter_le (fun i => !(Array.replicate ops.size false).getD i true) (List.range ops.size)
    simpa using this) (fun j o hj hjl => by simp [Array.getD] at hjl) hs' (fun t => ?_) (fun k => ?_)
  · have : ∀ n, spE E l (fun i => (Array.replicate ops.size false).getD i false) n t = E.get t := by
      intro n
      induction n with
      | zero => rfl
      | succ n ihn =>
        rw [spE]
        cases l[n]? with
        | none => exact ihn
        | some y =>
          have hf : (Array.replicate ops.size false).getD n false = false := by simp [Array.getD]
          simp only [hf, Bool.false_eq_true, false_and, if_false]
          exact ihn
    exact (this _).symm
  · have : ∀ n, spH H l (fun i => (Array.replicate ops.size false).getD i false) n k = H.get k := by
      intro n
      induction n with
      | zero => rfl
      | succ n ihn =>
        rw [spH]
        cases l[n]? with
        | none => exact ihn
        | some y =>
          have hf : (Array.replicate ops.size false).getD n false = false := by simp [Array.getD]
          simp only [hf, Bool.false_eq_true, false_and, if_false]
          exact ihn
    exact (this _).symm
end Go.Abs
end
section
set_option linter.unusedVariables false
set_option linter.unusedSimpArgs false
namespace Go.Abs

def ZeroOf (P : Program) (T : TypeId) (cells : List AV) : Prop := ∃ z v, (∀ w, (zeroValue T).run P w = .ok z w) ∧ ZV z v ∧ acl v = some cells
def BuildOf (P : Program) (T : TypeId) (places : List (Nat × Nat)) (l0 : List AV) : Prop :=
  ∃ fs pl z v, P.underlying T = some (.struct fs) ∧ (∀ w, (zeroValue T).run P w = .ok z w) ∧ ZV z v ∧ acl v = some l0 ∧ (∀ w, ((fs.mapM fun f => do pure (f.offset, ← sizeOf f.type)) : Sem (Array (Nat × Nat))).run P w = .ok pl w) ∧ pl.toList = places
def ArrayOf (P : Program) (T : TypeId) (sz : Nat) (l0 : List AV) : Prop :=
  ∃ n e z v, P.underlying T = some (.array n e) ∧ (∀ w, (zeroValue T).run P w = .ok z w) ∧ ZV z v ∧ acl v = some l0 ∧ ∀ w, (sizeOf e).run P w = .ok sz w
def SliceOf (P : Program) (T e sz : TypeId) : Prop := P.underlying T = some (.slice e) ∧ (∀ w, (sizeOf e).run P w = .ok sz w) ∧ 0 < sz ∧ ∃ z, ∀ w, (zeroValue e).run P w = .ok z w
def EI (P : Program) (e : TypeId) (sz bytes : Nat) : Prop := EInfo P e sz bytes ∧ 0 < bytes
theorem EI.mk {P : Program} {e : TypeId} {sz bytes : Nat} {z : Value} (h : (P.info? e).map (fun i => (i.zero, i.size, i.bytes)) = some (some z, sz, bytes)) (hz : z.cells.size = sz) (h0 : 0 < sz) (hb : 0 < bytes) : EI P e sz bytes := by
  refine ⟨?_, hb⟩
  cases hi : P.info? e with
  | none => rw [hi] at h; cases h
  | some i =>
    rw [hi] at h
    simp only [Option.map_some, Option.some.injEq, Prod.mk.injEq] at h
    obtain ⟨h1, h2, h3⟩ := h
    exact ⟨i, z, hi, h1, h2, h3, hz, h0⟩

theorem OpD.congr {P : Program} {N : Nat} {o : Oper} {E : Env} {H H2 H3 : Heap} {v : AV} (h : OpD P N o E H v H2) (he : ∀ j, H3.get j = H2.get j) : OpD P N o E H v H3 := by
  intro a w I ι hd hs hr hE K Q hk
  refine h a w I ι hd hs hr hE K Q ?_
  rintro c w' I' ι' r H' ⟨rfl, rfl⟩ hv hr' hst
  obtain ⟨k2, k3⟩ := hr'.congr he
  exact hk c w' I' ι' _ _ ⟨rfl, rfl⟩ (hv.mono hr' k3) k2 (hst.trans k3)
theorem set_cons (H : Heap) (id : Nat) (o : Ob) : ∀ j, Heap.get ((id, o) :: H) j = (H.set id o).get j := by
  intro j
  by_cases e : j = id
  · subst e; rw [Heap.get_set_same, get_cons_same]
  · rw [Heap.get_set_other _ _ e, get_cons_other _ _ e]

section
variable {P : Program} {N : Nat} {o : Oper} {E : Env} {H : Heap} {T : TypeId} {x y : Operand}

theorem x_alloc {cells : List AV} {id n : Nat} (ho : o.op = .alloc T) (hZ : ZeroOf P T cells) (hn : cells.length = n + 1) (hid : H.get id = none) : OpD P N o E H (.ref id 0 0 0) ((id, ⟨0, n + 1, T, [cells]⟩) :: H) :=
  let ⟨_, _, h1, h2, h3⟩ := hZ; opd_alloc ho h1 h2 h3 hn hid
theorem x_build {parts : Array (Nat × Operand)} {places : List (Nat × Nat)} {l0 l : List AV} {aps : List (Nat × AV)} (ho : o.op = .build T parts) (hB : BuildOf P T places l0) (hp : aparts E parts.toList = some aps) (hf : afills (fun i => places[i]?) l0 aps = some l) :
    OpD P N o E H (.agg l) H := by
  obtain ⟨fs, pl, z, v, h1, h2, h3, h4, h5, h6⟩ := hB
  refine opd_build ho h1 h2 h3 h4 h5 hp ?_
  have : (fun (i : Nat) => pl[i]?) = fun (i : Nat) => places[i]? := by
    funext i; rw [← h6]; simp
  rw [this]; exact hf
theorem x_build_arr {parts : Array (Nat × Operand)} {sz : Nat} {l0 l : List AV} {aps : List (Nat × AV)} (ho : o.op = .build T parts) (hB : ArrayOf P T sz l0) (hp : aparts E parts.toList = some aps) (hf : afills (fun i => some (i * sz, sz)) l0 aps = some l) :
    OpD P N o E H (.agg l) H :=
  let ⟨_, _, _, _, h1, h2, h3, h4, h5⟩ := hB; opd_build_arr ho h1 h2 h3 h4 h5 hp hf
theorem x_buildSlice {e sz n : Nat} {parts : Array (Nat × Operand)} {aps : List (Nat × AV)} {rows : List (List AV)} (ps : List (List PV)) (ho : o.op = .buildSlice T n parts) (hS : SliceOf P T e sz) (hn : Nat.ble (n * sz) 16777216 = true) (hp : aparts E parts.toList = some aps) (hr : arows 0 aps = some rows)
    (hps : ps.map (·.map AV.pv) = rows) (hlen : ps.length = n) (hrl : ∀ r ∈ ps, r.length = sz) : OpD P N o E H (.pv (.sl ps)) H :=
  let ⟨h1, h2, h3, _, h4⟩ := hS; opd_buildSlice ho h1 h2 h4 (Nat.le_of_ble_eq_true hn) h3 hp hr hps hlen hrl
theorem x_buildSlice_own {e sz n id : Nat} {parts : Array (Nat × Operand)} {aps : List (Nat × AV)} {rows : List (List AV)} (ho : o.op = .buildSlice T n parts) (hS : SliceOf P T e sz) (hn : Nat.ble (n * sz) 16777216 = true) (hp : aparts E parts.toList = some aps) (hr : arows 0 aps = some rows)
    (hlen : rows.length = n) (hrl : ∀ r ∈ rows, r.length = sz) (hid : H.get id = none) : OpD P N o E H (.osl id 0 0 n) ((id, ⟨0, sz, e, rows⟩) :: H) :=
  let ⟨h1, h2, h3, _, h4⟩ := hS; opd_buildSlice_own ho h1 h2 h4 (Nat.le_of_ble_eq_true hn) h3 hp hr hlen hrl hid

/-- The whole of a variable is stored. -/
theorem x_store_all {v : AV} {cells r : List AV} {id g n : Nat} {ob : Ob} (ho : o.op = .store T x y) (hs : ∀ w, (sizeOf T).run P w = .ok n w) (hx : aeval E x = some (.ref id g 0 0)) (hy : aeval E y = some v) (hc : acl v = some cells)
    (hn : cells.length = n) (hH : H.get id = some ob) (hg : ob.g = g) (hi : ob.rows = [r]) (hk : r.length = n) : OpD P N o E H .any ((id, ⟨g, ob.sz, ob.ty, [cells]⟩) :: H) := by
  subst hg
  refine OpD.congr (opd_store (r' := cells) ho hx hy hc hs hn hH rfl (by rw [hi]; rfl) (by omega) ?_ rfl) (fun j => ?_)
  · rw [List.take_zero, List.nil_append, List.drop_eq_nil_of_le (by omega), List.append_nil]
  · rw [set_cons]
    simp [hi]
/-- One cell is stored. -/
theorem x_store1 {v : AV} {r r' : List AV} {id g i k : Nat} {ob : Ob} {rows' : List (List AV)} (ho : o.op = .store T x y) (hs : ∀ w, (sizeOf T).run P w = .ok 1 w) (hx : aeval E x = some (.ref id g i k)) (hy : aeval E y = some v) (hc : acl v = some [v])
    (hH : H.get id = some ob) (hg : ob.g = g) (hi : ob.rows[i]? = some r) (hk : k < r.length) (hr' : r.set k v = r') (hrows : ob.rows.set i r' = rows') : OpD P N o E H .any ((id, ⟨g, ob.sz, ob.ty, rows'⟩) :: H) := by
  subst hg hrows
  refine OpD.congr (opd_store (r' := r') ho hx hy hc hs rfl hH rfl hi (by omega) ?_ rfl) (fun j => set_cons _ _ _ j)
  rw [← hr', List.set_eq_take_append_cons_drop, if_pos hk]
  rfl
/-- Some cells are stored. -/
theorem x_store {v : AV} {cells r r' : List AV} {id g i k n : Nat} {ob : Ob} {rows' : List (List AV)} (ho : o.op = .store T x y) (hs : ∀ w, (sizeOf T).run P w = .ok n w) (hx : aeval E x = some (.ref id g i k)) (hy : aeval E y = some v) (hc : acl v = some cells)
    (hn : cells.length = n) (hH : H.get id = some ob) (hg : ob.g = g) (hi : ob.rows[i]? = some r) (hk : k + n ≤ r.length) (hr' : r.take k ++ (cells ++ r.drop (k + n)) = r') (hrows : ob.rows.set i r' = rows') : OpD P N o E H .any ((id, ⟨g, ob.sz, ob.ty, rows'⟩) :: H) := by
  subst hg hrows
  exact OpD.congr (opd_store (r' := r') ho hx hy hc hs hn hH rfl hi hk hr' rfl) (fun j => set_cons _ _ _ j)

theorem small_of {n m bytes : Nat} (hb : 0 < bytes) (h : (n + m) * bytes ≤ 140737488355328) : n + m ≤ 9223372036854775807 := by
  have : n + m ≤ (n + m) * bytes := Nat.le_mul_of_pos_right _ hb
  omega
theorem x_append {e : TypeId} {id g n m k sz bytes : Nat} {ob : Ob} {ps : List (List PV)} {rows' : List (List AV)} (ho : o.op = .call { callee := .builtin .append, args := #[x, y], argTypes := #[T, T] }) (hS : SliceOf P T e sz) (hinf : EI P e sz bytes)
    (hx : aeval E x = some (.osl id g 0 n)) (hH : H.get id = some ob) (hg : ob.g = g) (hosz : ob.sz = sz) (hty : ob.ty = e) (hn : ob.rows.length = n)
    (hy : aeval E y = some (.pv (.sl ps))) (hrl : ∀ r ∈ ps, r.length = sz) (hm : ps.length = m) (hbytes : (n + m) * bytes ≤ 140737488355328) (hk : n + m = k) (hrows : ob.rows ++ ps.map (·.map AV.pv) = rows') :
    OpD P N o E H (.osl id (g + 1) 0 k) ((id, ⟨g + 1, sz, e, rows'⟩) :: H) := by
  subst hk hrows
  exact OpD.congr (opd_append_pv ho hS.1 hinf.1 hx hH hg hosz hty hn hy hrl hm hbytes (small_of hinf.2 hbytes) rfl) (fun j => set_cons _ _ _ j)
theorem x_index_pad {e : TypeId} {rows : List (List PV)} {r : List PV} {kk : IntKind} {n : Int} {m sz : Nat} (ho : o.op = .indexAddr T x y) (hS : SliceOf P T e sz)
    (hx : aeval E x = some (.pv (.sl rows))) (hy : aeval E y = some (.pv (.int kk n))) (h0 : 0 ≤ n) (hm : n.toNat = m) (hi : rows[m]? = some r) (hl : r.length = sz) : OpD P N o E H (.pad rows m 0) H :=
  opd_index_pad ho hS.1 hS.2.1 hx hy h0 hm hi hl
theorem x_index_osl {e : TypeId} {kk : IntKind} {n : Int} {m m2 sz id g off len : Nat} {ob : Ob} (ho : o.op = .indexAddr T x y) (hS : SliceOf P T e sz)
    (hx : aeval E x = some (.osl id g off len)) (hH : H.get id = some ob) (hg : ob.g = g) (hsz : ob.sz = sz) (hy : aeval E y = some (.pv (.int kk n))) (h0 : 0 ≤ n) (hm : n.toNat = m) (hi : m < len) (hm2 : off + m = m2) : OpD P N o E H (.ref id g m2 0) H :=
  opd_index_osl ho hS.1 hS.2.1 hx hH hg hsz hy h0 hm hi hm2
end

section
variable {P : Program} {G0 : Heap} {N : Nat} {E : Env} {H : Heap} {ops : Array Oper} {K : Env → Heap → Prop} {o : Oper} {rest : List Oper}
theorem al_ond {j : Nat} {want b : Bool} {t d : Tmp} {v : AV} {H2 : Heap} (hg : o.guard = some (j, want)) (hj : gslot ops.toList j = some t) (hb : E.get t = some (.pv (.bool b))) (hw : b = want) (hd : o.dst = some d) (hn : Nat.blt d N = true) (h : OpD P N o E H v H2)
    (hk : AL P G0 N ops K rest ((d, v) :: E) H2) : AL P G0 N ops K (o :: rest) E H :=
  al_on hg hj hb hw (by rw [hd]; exact hn) h fun r H' ⟨e1, e2⟩ => by subst e1 e2; rw [hd]; exact hk
theorem opd_pickt {c x y : Operand} {b : Bool} {v : AV} (ho : o.op = .pick c x y) (hc : aeval E c = some (.pv (.bool b))) (hb : b = true) (hv : aeval E x = some v) : OpD P N o E H v H := opd_pick ho hc (by rw [hb]; exact hv)
theorem opd_pickf {c x y : Operand} {b : Bool} {v : AV} (ho : o.op = .pick c x y) (hc : aeval E c = some (.pv (.bool b))) (hb : b = false) (hv : aeval E y = some v) : OpD P N o E H v H := opd_pick ho hc (by rw [hb]; exact hv)
end
section
variable {P : Program} {G0 : Heap} {N : Nat} {E : Env} {H : Heap} {ops : Array Oper} {K : Env → Heap → Prop}
theorem Ent.sub {E' : Env} (h : ∀ k v, E'.get k = some v → E.get k = some v) : Ent G0 E H E' H := by
  intro G hG N a w hs
  obtain ⟨I, ι, hr, hst, he⟩ := hs.rel
  exact ⟨hs.defers, hs.size, I, ι, hr, hst, fun t v ht => he t v (h t v ht)⟩
/-- A test's two ways, its slot read anew. -/
theorem al_split {l : List Oper} {t : Tmp} {b : Bool} (hb : E.get t = some (.pv (.bool b))) (h1 : b = true → AL P G0 N ops K l ((t, .pv (.bool true)) :: E) H) (h2 : b = false → AL P G0 N ops K l ((t, .pv (.bool false)) :: E) H) : AL P G0 N ops K l E H := by
  have key : ∀ c, b = c → AL P G0 N ops K l ((t, .pv (.bool c)) :: E) H → AL P G0 N ops K l E H := by
    rintro c rfl h G hG a w hs
    refine h G hG a w (Ent.sub (G0 := G0) (fun k v hk => ?_) G hG N a w hs)
    by_cases e : t = k
    · subst e
      rw [Env.get_cons_same] at hk
      rw [hb, hk]
    · rwa [Env.get_cons_other _ _ e] at hk
  cases b
  · exact key false rfl (h2 rfl)
  · exact key true rfl (h1 rfl)

/-- The keys of two lists are apart. -/
def disjB (t : Nat) (D E : Env) : Bool := D.all fun p => Nat.beq p.1 t || E.all fun q => !(Nat.beq p.1 q.1)
/-- What a region with tests leaves: one slot's truth; all that stood before. -/
def Merge (n t : Nat) (X : Bool) (E : Env) (H : Heap) (E1 : Env) (H1 : Heap) : Prop := (∃ b, E1.get t = some (.pv (.bool b)) ∧ b = X) ∧ H1 = H ∧ E1.drop n = E ∧ disjB t (E1.take n) E = true
theorem env_app (D E : Env) (k : Nat) : Env.get (D ++ E) k = match D.get k with | some v => some v | none => E.get k := by
  induction D with
  | nil => rfl
  | cons x r ih =>
    obtain ⟨i, v⟩ := x
    cases e : Nat.beq i k with
    | true => simp [Env.get, e]
    | false => simpa [Env.get, e] using ih
theorem Merge.ent {n t : Nat} {X : Bool} {E1 : Env} {H1 : Heap} (h : Merge n t X E H E1 H1) : Ent G0 E1 H1 ((t, .pv (.bool X)) :: E) H := by
  obtain ⟨⟨b, h1, rfl⟩, rfl, h2, h3⟩ := h
  refine Ent.sub fun k v hk => ?_
  by_cases e : t = k
  · subst e
    rw [Env.get_cons_same] at hk
    rw [h1, hk]
  · rw [Env.get_cons_other _ _ e] at hk
    have happ : E1.take n ++ E = E1 := by rw [← h2]; exact List.take_append_drop n E1
    rw [← happ, env_app]
    cases hd : Env.get (E1.take n) k with
    | none => exact hk
    | some u =>
      have m1 := mem_of_get hd
      have m2 := mem_of_get hk
      have h4 := List.all_eq_true.1 h3 _ m1
      simp only [beq_ne (Ne.symm e), Bool.false_or] at h4
      have := List.all_eq_true.1 h4 _ m2
      simp [beq_self] at this
/-- A region with tests: its ways join. -/
theorem awp_mergeR {id n t : Nat} {d : Bool} {X : Bool} {Q : Exit → Env → Heap → Prop} (h : AWp P G0 N (.region id ops d) (fun e E1 H1 => e = .normal ∧ Merge n t X E H E1 H1) E H) (hk : Q .normal ((t, .pv (.bool X)) :: E) H) : AWp P G0 N (.region id ops d) Q E H := by
  intro G hG a w hs
  refine wp_mono (h G hG a w hs) ?_
  rintro e a' w' ⟨E1, H1, ⟨rfl, hm⟩, hs'⟩
  exact ⟨_, _, hk, (hm.ent (G0 := G0)) G hG N a' w' hs'⟩
theorem awp_bool {id n t : Nat} {X : Bool} {Q : Exit → Env → Heap → Prop} (h : AL P G0 N ops (fun E1 H1 => Merge n t X E H E1 H1) ops.toList E H) (hk : Q .normal ((t, .pv (.bool X)) :: E) H) : AWp P G0 N (.region id ops false) Q E H :=
  awp_mergeR (awp_region (Q := fun e E1 H1 => e = .normal ∧ Merge n t X E H E1 H1) (fun G hG a w hs Q' hq => h G hG a w hs Q' (fun E1 H1 a1 w1 hm hs1 => hq E1 H1 a1 w1 ⟨rfl, hm⟩ hs1))) hk
end
section
variable {P : Program} {N : Nat} {ops : List Oper} {o : Oper} {E : Env} {H : Heap} {v : AV} {j : Nat} {t : Tmp} {b : Bool} {r : Rec}
theorem q_on_t (hg : o.guard = some (j, true)) (hj : gslot ops j = some t) (hb : E.get t = some (.pv (.bool b))) (hw : b = true) (h : OpD P N o (restr E (olooks ops o)) H v H) : DStep P N ops o E H ⟨v, none, []⟩ := .qon hg hj hb hw h
theorem q_on_f (hg : o.guard = some (j, false)) (hj : gslot ops j = some t) (hb : E.get t = some (.pv (.bool b))) (hw : b = false) (h : OpD P N o (restr E (olooks ops o)) H v H) : DStep P N ops o E H ⟨v, none, []⟩ := .qon hg hj hb hw h
theorem q_off_t (hg : o.guard = some (j, true)) (hj : gslot ops j = some t) (hb : E.get t = some (.pv (.bool b))) (hw : b = false) : DStep P N ops o E H ⟨.tup [], some [], []⟩ := .qoff hg hj hb (by simp [offB, hw])
theorem q_off_f (hg : o.guard = some (j, false)) (hj : gslot ops j = some t) (hb : E.get t = some (.pv (.bool b))) (hw : b = true) : DStep P N ops o E H ⟨.tup [], some [], []⟩ := .qoff hg hj hb (by simp [offB, hw])
theorem l_on_t (hg : o.guard = some (j, true)) (hj : gslot ops j = some t) (hb : E.get t = some (.pv (.bool b))) (hw : b = true) (h : ∀ H1 : Heap, (∀ id, memR r.R id = true → H1.get id = H.get id) → OpD P N o (restr E (olooks ops o)) H1 r.v (r.W ++ H1)) : DStep P N ops o E H r := .on j true t b hg hj hb hw h
end
/-- A contract that is handed nothing of the heap holds at every heap. -/
theorem ACalls.pure {P : Program} {f : FuncId} {args : List AV} {r0 : AV} (h : ACalls P f args [] (fun r H => r = r0 ∧ H = [])) (hp : ∀ a ∈ args, Clo [] a) (H : Heap) : ACalls P f args H (fun r H' => r = r0 ∧ H' = H) :=
  (h.frame0 hp (fun _ _ hq => hq.2) H).mono fun _ _ ⟨⟨h1, _⟩, h2⟩ => ⟨h1, h2⟩

/-! ### function values -/
/-- A function value is called. -/
def CallsV (P : Program) (fv : AV) (args : List AV) (H : Heap) (Q : AV → Heap → Prop) : Prop :=
  ∃ F caps, (fv = .clo F caps ∨ (fv = .pv (.fn F) ∧ caps = [])) ∧ (∀ (args : Array Value) (w : World), (callFunc F args).run P w = .ok (.enter F args) w) ∧ ACalls P F (args ++ caps) H Q
theorem CallsV.clo {P : Program} {F : FuncId} {caps args : List AV} {H : Heap} {Q : AV → Heap → Prop} (hc : ∀ (args : Array Value) (w : World), (callFunc F args).run P w = .ok (.enter F args) w) (h : ACalls P F (args ++ caps) H Q) : CallsV P (.clo F caps) args H Q := ⟨F, caps, .inl rfl, hc, h⟩
theorem CallsV.fn {P : Program} {F : FuncId} {args : List AV} {H : Heap} {Q : AV → Heap → Prop} (hc : ∀ (args : Array Value) (w : World), (callFunc F args).run P w = .ok (.enter F args) w) (h : ACalls P F args H Q) : CallsV P (.pv (.fn F)) args H Q := ⟨F, [], .inr ⟨rfl, rfl⟩, hc, by simpa using h⟩
theorem opr_callV {P : Program} {N : Nat} {o : Oper} {E : Env} {H : Heap} {Q : AV → Heap → Prop} {f : Operand} {args : Array Operand} {at_ : Array TypeId} {vs : List AV} {fv : AV} (ho : o.op = .call { callee := .value f, args := args, argTypes := at_ }) (hf : aeval E f = some fv)
    (hv : aargs E args.toList = some vs) (h : CallsV P fv vs H Q) : OpR P N o E H Q := by
  obtain ⟨F, caps, hfv, hc, hcall⟩ := h
  rcases hfv with rfl | ⟨rfl, rfl⟩
  · exact opr_call_clo ho hf hc hv hcall
  · exact opr_call ho hf hc hv (by simpa using hcall)

/-! ### states by their slots, the heap as it is -/
def EOk0 (E : Env) : Env → Prop
  | [] => True
  | (t, v) :: r => (∃ v0, E.get t = some v0 ∧ v0 = v) ∧ EOk0 E r
theorem Ent.e0 {G0 : Heap} {E E' : Env} {H : Heap} (h : EOk0 E E') : Ent G0 E H E' H := by
  refine Ent.env ?_
  induction E' with
  | nil => simp
  | cons x r ih =>
    obtain ⟨t, v⟩ := x
    obtain ⟨⟨v0, h1, rfl⟩, h2⟩ := h
    intro p hp
    rcases List.mem_cons.1 hp with e | e
    · subst e; exact h1
    · exact ih h2 p e
theorem Fin.refl {G0 H : Heap} {r : AV} : Fin G0 H r H r := fun _ _ I ι _ _ h1 h2 h3 => ⟨I, ι, h1, h2, h3⟩

/-! ### structs that are compared -/
def fval : AV → Option Value
  | .pv (.int k n) => some (.int k n)
  | .pv (.bool b) => some (.bool b)
  | .pv (.str s) => some (.string s)
  | _ => none
def fvals : List AV → Option (List Value)
  | [] => some []
  | a :: r => match fval a, fvals r with
    | some v, some vs => some (v :: vs)
    | _, _ => none
theorem fval_eq {w : World} {I : Nat → Prop} {ι : Plc} {H : Heap} {c v : Value} {a : AV} (h : VRel w I ι H c a) (hf : fval a = some v) : c = v := by
  unfold fval at hf
  split at hf <;> cases hf
  · exact h.int_inv
  · exact h.bool_inv
  · exact h.str_inv
theorem fvals_eq {w : World} {I : Nat → Prop} {ι : Plc} {H : Heap} {c : Value} {l : List AV} {vs : List Value} (h : VRel w I ι H c (.agg l)) (hf : fvals l = some vs) : c = .agg vs.toArray := by
  cases h with
  | @agg us _ hl h1 h2 =>
    congr 1
    have key : ∀ (l : List AV) (vs us : List Value), us.length = l.length → (∀ (i : Nat) (v : Value) (a : AV), us[i]? = some v → l[i]? = some a → VRel w I ι H v a) → fvals l = some vs → us = vs := by
      intro l
      induction l with
      | nil => intro vs us h1 _ h3; simp [fvals] at h3; subst h3; exact List.eq_nil_of_length_eq_zero h1
      | cons a r ih =>
        intro vs us h1 h2 h3
        unfold fvals at h3
        split at h3
        · rename_i v vs' e1 e2
          cases h3
          cases us with
          | nil => simp at h1
          | cons u us =>
            have hu : u = v := fval_eq (h2 0 u a rfl rfl) e1
            rw [hu, ih vs' us (by simpa using h1) (fun i v a hv ha => h2 (i + 1) v a (by simpa using hv) (by simpa using ha)) e2]
        · cases h3
    have := key l vs us.toList (by simpa using hl) (fun i v a hv ha => h2 i v a (by simpa using hv) ha) hf
    rw [← this]
section
variable {P : Program} {N : Nat} {o : Oper} {E : Env} {H : Heap} {T t' : TypeId} {x y : Operand} {l1 l2 : List AV} {xs ys : List Value} {b : Bool}
theorem opd_aeql (ho : o.op = .binOp .eql T x y t') (hx : aeval E x = some (.agg l1)) (hy : aeval E y = some (.agg l2)) (h1 : fvals l1 = some xs) (h2 : fvals l2 = some ys) (hG : P.eqGuardType P.depth T = false)
    (hE : ∀ w, (Op.equalIn 10000 T (.agg xs.toArray) (.agg ys.toArray)).run P w = .ok b w) : OpD P N o E H (.pv (.bool b)) H :=
  .of_run fun a w I ι _ he => ⟨.bool b, by
    have e1 := fvals_eq (aeval_rel he hx) h1
    have e2 := fvals_eq (aeval_rel he hy) h2
    simp only [execOp, ho, e1, e2, Sem.run_bind, run_eqGuard_agg w _ _ _ _ _ _ hG, Result.andThen_ok, run_eql_struct w, hE, Sem.run_pure], .pv (.bool _)⟩
theorem opd_aneq (ho : o.op = .binOp .neq T x y t') (hx : aeval E x = some (.agg l1)) (hy : aeval E y = some (.agg l2)) (h1 : fvals l1 = some xs) (h2 : fvals l2 = some ys) (hG : P.eqGuardType P.depth T = false)
    (hE : ∀ w, (Op.equalIn 10000 T (.agg xs.toArray) (.agg ys.toArray)).run P w = .ok b w) : OpD P N o E H (.pv (.bool (!b))) H :=
  .of_run fun a w I ι _ he => ⟨.bool (!b), by
    have e1 := fvals_eq (aeval_rel he hx) h1
    have e2 := fvals_eq (aeval_rel he hy) h2
    simp only [execOp, ho, e1, e2, Sem.run_bind, run_eqGuard_agg w _ _ _ _ _ _ hG, Result.andThen_ok, run_neq_struct w, hE, Sem.run_pure], .pv (.bool _)⟩
end

/-! ### numbers that fit -/
theorem w64 {n : Int} (h0 : -9223372036854775808 ≤ n) (h1 : n ≤ 9223372036854775807) : IntKind.i64.wrap n = n := by rw [IntKind.wrap_i64]; omega
theorem wu8 {n : Int} (h0 : 0 ≤ n) (h1 : n ≤ 255) : IntKind.u8.wrap n = n := by
  simp only [IntKind.wrap, IntKind.bits, IntKind.signed]
  simp
  omega
end Go.Abs
end
section
set_option linter.unusedVariables false
namespace Go.Abs
abbrev iv (n : Int) : AV := .pv (.int .i64 n)
abbrev bv (b : Bool) : AV := .pv (.bool b)
abbrev sv (s : ByteArray) : AV := .pv (.str s)
abbrev lv (l : List (List PV)) : AV := .pv (.sl l)
abbrev av (l : List PV) : AV := .agg (l.map .pv)
/-- An object of one row. -/
abbrev bx (n T : Nat) (r : List AV) : Ob := ⟨0, n, T, [r]⟩
theorem Closed.of {H : Heap} (h : ∀ p ∈ H, ∀ r ∈ p.2.rows, ∀ a ∈ r, Clo H a) : Closed H := fun _ _ ho => h _ (mem_of_hget ho)
theorem Sub.app {D H : Heap} (hD : ∀ p ∈ D, H.get p.1 = none) : Sub H (D ++ H) := fun id o ho => by
  rw [get_app]
  cases e : D.get id with
  | none => exact ho
  | some o' => exact absurd (hD _ (mem_of_hget e)) (by rw [ho]; simp)
theorem Sub.kept {D H : Heap} (hD : ∀ p ∈ D, H.get p.1 = none) : Kept H H (D ++ H) := fun id hi => by
  obtain ⟨o, ho⟩ := Option.isSome_iff_exists.1 hi
  rw [ho, Sub.app hD id o ho]
/-- The objects in front end with the call. -/
theorem Fin.pops {H : Heap} {r : AV} (D : Heap) (hr : Clo H r) (hc : Closed H) (hD : ∀ p ∈ D, H.get p.1 = none) : Fin H (D ++ H) r H r := by
  intro G hG I ι w v h1 h2 h3
  subst hG
  exact ⟨I, ι, h1.restrict (Sub.app hD) hc, h2.restrict (Sub.app hD) (Sub.kept hD), h3.restrict (Sub.app hD) hr⟩
/-! ### the chain of a region that draws, step by step -/
def DC (P : Program) (N : Nat) (ops rest : List Oper) (E : Env) (H : Heap) (K : List Rec → Env → Heap → Prop) : Prop := ∃ rs E' H', DChain P N ops rest E H rs E' H' ∧ K rs E' H'
theorem dc_nil {P : Program} {N : Nat} {ops : List Oper} {E : Env} {H : Heap} {K : List Rec → Env → Heap → Prop} (h : K [] E H) : DC P N ops [] E H K := ⟨_, _, _, .nil, h⟩
theorem dc_cons {P : Program} {N : Nat} {ops rest : List Oper} {o : Oper} {E : Env} {H : Heap} {K : List Rec → Env → Heap → Prop} {r : Rec} (h : DStep P N ops o E H r) (hd : dstOk N o.dst = true)
    (hk : DC P N ops rest (putd E o.dst r.v) (r.W ++ H) (fun rs E' H' => K (r :: rs) E' H')) : DC P N ops (o :: rest) E H K := by
  obtain ⟨rs, E', H', h1, h2⟩ := hk
  exact ⟨_, _, _, .cons h hd h1, h2⟩
theorem awp_drawc {P : Program} {G0 : Heap} {N id : Nat} {Q : Exit → Env → Heap → Prop} {ops : Array Oper} {E : Env} {H : Heap} (hm : P.follows .mixedOrders = true)
    (h : DC P N ops.toList ops.toList E H (fun rs E' H' => okDraw ops.toList rs = true ∧ Q .normal E' H')) : AWp P G0 N (.region id ops true) Q E H := by
  obtain ⟨rs, E', H', h1, h2, h3⟩ := h
  exact awp_draw hm h1 h2 h3
end Go.Abs
end
section
set_option linter.unusedVariables false
namespace Go.Abs
def flatP : PV → Bool
  | .int _ _ => true
  | .bool _ => true
  | .str _ => true
  | _ => false
/-- A call that only reads. -/
def RO (P : Program) (f : FuncId) (args : List AV) (H : Heap) (p : PV) : Prop :=
  ∀ (I : Nat → Prop) (ι : Plc) (w : World) (vs : Array Value), Rel I ι H w → vs.size = args.length → (∀ (i : Nat) (v : Value) (a : AV), vs[i]? = some v → args[i]? = some a → VRel w I ι H v a) →
    Calls P f vs w fun e w' => ∃ v, e = .returned v ∧ (∀ w2 I2, PRep w2 I2 v p) ∧ w'.os = w.os ∧ w'.tape = w.tape ∧ w'.output = w.output ∧ w.heap.size ≤ w'.heap.size ∧
      (∀ a, a.block < w.heap.size → w'.frozen? a = w.frozen? a) ∧ ∀ b, b < w.heap.size → w'.heap[b]? = w.heap[b]?
theorem awp_loop2 {P : Program} {G0 : Heap} {N : Nat} {Q : Exit → Env → Heap → Prop} {E : Env} {H : Heap} {cc : Code} {α β : Type} (S : α → β → Env × Heap) (J : α → β → Prop) (μ : α → β → Nat) (a0 : α) (b0 : β) (h0 : J a0 b0) (hin : Ent G0 E H (S a0 b0).1 (S a0 b0).2)
    (round : ∀ a b, J a b → AWp P G0 N cc (AThen (fun E' H' => ∃ a' b', J a' b' ∧ μ a' b' < μ a b ∧ Ent G0 E' H' (S a' b').1 (S a' b').2) Q) (S a b).1 (S a b).2) : AWp P G0 N (.loop cc) Q E H := by
  refine awp_loop (σ := α × β) (fun s => S s.1 s.2) (fun s => J s.1 s.2) (fun s => μ s.1 s.2) (a0, b0) h0 hin ?_
  intro s hs
  have h := round s.1 s.2 hs
  have e : (fun (E' : Env) (H' : Heap) => ∃ s' : α × β, J s'.1 s'.2 ∧ μ s'.1 s'.2 < μ s.1 s.2 ∧ Ent G0 E' H' (S s'.1 s'.2).1 (S s'.1 s'.2).2) = (fun E' H' => ∃ a' b', J a' b' ∧ μ a' b' < μ s.1 s.2 ∧ Ent G0 E' H' (S a' b').1 (S a' b').2) := by
    funext E' H'
    exact propext ⟨fun ⟨s', h⟩ => ⟨s'.1, s'.2, h⟩, fun ⟨a', b', h⟩ => ⟨(a', b'), h⟩⟩
  rw [e]; exact h
theorem awp_loop5 {P : Program} {G0 : Heap} {N : Nat} {Q : Exit → Env → Heap → Prop} {E : Env} {H : Heap} {cc : Code} {α β γ δ ε : Type} (S : α → β → γ → δ → ε → Env × Heap) (J : α → β → γ → δ → ε → Prop) (μ : α → β → γ → δ → ε → Nat) (a0 : α) (b0 : β) (c0 : γ) (d0 : δ) (e0 : ε) (h0 : J a0 b0 c0 d0 e0) (hin : Ent G0 E H (S a0 b0 c0 d0 e0).1 (S a0 b0 c0 d0 e0).2)
    (round : ∀ a b c d e, J a b c d e → AWp P G0 N cc (AThen (fun E' H' => ∃ a' b' c' d' e', J a' b' c' d' e' ∧ μ a' b' c' d' e' < μ a b c d e ∧ Ent G0 E' H' (S a' b' c' d' e').1 (S a' b' c' d' e').2) Q) (S a b c d e).1 (S a b c d e).2) : AWp P G0 N (.loop cc) Q E H := by
  refine awp_loop (σ := α × β × γ × δ × ε) (fun s => S s.1 s.2.1 s.2.2.1 s.2.2.2.1 s.2.2.2.2) (fun s => J s.1 s.2.1 s.2.2.1 s.2.2.2.1 s.2.2.2.2) (fun s => μ s.1 s.2.1 s.2.2.1 s.2.2.2.1 s.2.2.2.2) (a0, b0, c0, d0, e0) h0 hin ?_
  intro s hs
  have h := round s.1 s.2.1 s.2.2.1 s.2.2.2.1 s.2.2.2.2 hs
  have e : (fun (E' : Env) (H' : Heap) => ∃ s' : α × β × γ × δ × ε, J s'.1 s'.2.1 s'.2.2.1 s'.2.2.2.1 s'.2.2.2.2 ∧ μ s'.1 s'.2.1 s'.2.2.1 s'.2.2.2.1 s'.2.2.2.2 < μ s.1 s.2.1 s.2.2.1 s.2.2.2.1 s.2.2.2.2 ∧ Ent G0 E' H' (S s'.1 s'.2.1 s'.2.2.1 s'.2.2.2.1 s'.2.2.2.2).1 (S s'.1 s'.2.1 s'.2.2.1 s'.2.2.2.1 s'.2.2.2.2).2) = (fun E' H' => ∃ a' b' c' d' e', J a' b' c' d' e' ∧ μ a' b' c' d' e' < μ s.1 s.2.1 s.2.2.1 s.2.2.2.1 s.2.2.2.2 ∧ Ent G0 E' H' (S a' b' c' d' e').1 (S a' b' c' d' e').2) := by
    funext E' H'
    exact propext ⟨fun ⟨s', h⟩ => ⟨s'.1, s'.2.1, s'.2.2.1, s'.2.2.2.1, s'.2.2.2.2, h⟩, fun ⟨a', b', c', d', e', h⟩ => ⟨(a', b', c', d', e'), h⟩⟩
  rw [e]; exact h
theorem clo_map {α : Type} (f : α → List PV) (l : List α) (H : Heap) : ∀ r ∈ l.map (fun e => (f e).map AV.pv), ∀ a ∈ r, Clo H a := by
  intro r hr a ha
  obtain ⟨e, _, rfl⟩ := List.mem_map.1 hr
  obtain ⟨p, _, rfl⟩ := List.mem_map.1 ha
  exact .pv p
/-- Arguments by pairs. -/
theorem fz_nil {H : Heap} {id g : Nat} {ps : List (List PV)} : ∀ (i : Nat) (a a' : AV), ([] : List AV)[i]? = some a → ([] : List AV)[i]? = some a' → Fz H id g ps a a' := fun i a a' h => by cases h
theorem fz_cons {H : Heap} {id g : Nat} {ps : List (List PV)} {x x' : AV} {l l' : List AV} (h : Fz H id g ps x x') (hr : ∀ (i : Nat) (a a' : AV), l[i]? = some a → l'[i]? = some a' → Fz H id g ps a a') :
    ∀ (i : Nat) (a a' : AV), (x :: l)[i]? = some a → (x' :: l')[i]? = some a' → Fz H id g ps a a'
  | 0, a, a', h1, h2 => by cases h1; cases h2; exact h
  | i + 1, a, a', h1, h2 => hr i a a' h1 h2
end Go.Abs
end
section
set_option linter.unusedVariables false
namespace Go.Abs
/-- Slots and cells in another writing: a nil slice becomes the owned object 'id' (of no rows), or a slice of no rows. -/
inductive Nz (H' : Heap) (id : Nat) : AV → AV → Prop
  | same {a : AV} (h : Clo H' a) : Nz H' id a a
  | own : Nz H' id (.pv .nils) (.osl id 0 0 0)
  | weak : Nz H' id (.pv .nils) (.pv (.sl []))
  | agg {cs cs' : List AV} (hl : cs.length = cs'.length) (h : ∀ (i : Nat) (a a' : AV), cs[i]? = some a → cs'[i]? = some a' → Nz H' id a a') : Nz H' id (.agg cs) (.agg cs')
  | tup {cs cs' : List AV} (hl : cs.length = cs'.length) (h : ∀ (i : Nat) (a a' : AV), cs[i]? = some a → cs'[i]? = some a' → Nz H' id a a') : Nz H' id (.tup cs) (.tup cs')
/-- The objects' marks are as they were. -/
def Alike (H H' : Heap) : Prop := ∀ j o', H'.get j = some o' → ∃ o, H.get j = some o ∧ o.g = o'.g ∧ o.sz = o'.sz ∧ o.ty = o'.ty ∧ o.rows.length = o'.rows.length
theorem VRel.alike {w : World} {I : Nat → Prop} {ι : Plc} {H H' : Heap} (hs : Alike H H') {v : Value} {a : AV} (h : VRel w I ι H v a) : Clo H' a → VRel w I ι H' v a := by
  induction h with
  | any v => exact fun _ => .any v
  | pv h => exact fun _ => .pv h
  | ref o hH hg h1 h =>
    intro hc
    rw [clo_ref] at hc
    obtain ⟨o', ho'⟩ := Option.isSome_iff_exists.1 hc
    obtain ⟨o2, e1, e2, e3, e4, e5⟩ := hs _ o' ho'
    rw [hH] at e1; cases e1
    exact .ref o' ho' (by omega) h1 (fun e => by rw [← e3]; exact h (by omega))
  | pad b off cap sz h hsz hlen cs hI hc hp => exact fun _ => .pad b off cap sz h hsz hlen cs hI hc hp
  | osl o hH hg h1 h =>
    intro hc
    rw [clo_osl] at hc
    obtain ⟨o', ho'⟩ := Option.isSome_iff_exists.1 hc
    obtain ⟨o2, e1, e2, e3, e4, e5⟩ := hs _ o' ho'
    rw [hH] at e1; cases e1
    exact .osl o' ho' (by omega) h1 (fun e => by rw [← e3, ← e5]; exact h (by omega))
  | clo hl h ih =>
    intro hc
    rw [clo_clo] at hc
    exact .clo hl (fun i v a hv ha => ih i v a hv ha (hc a (List.mem_of_getElem? ha)))
  | agg hl h1 h ih =>
    intro hc
    rw [clo_agg] at hc
    exact .agg hl h1 (fun i v a hv ha => ih i v a hv ha (hc a (List.mem_of_getElem? ha)))
  | tup hl h ih =>
    intro hc
    rw [clo_tup] at hc
    exact .tup hl (fun i v a hv ha => ih i v a hv ha (hc a (List.mem_of_getElem? ha)))
  | mp o hH hg h1 h =>
    intro hc
    rw [clo_mp] at hc
    obtain ⟨o', ho'⟩ := Option.isSome_iff_exists.1 hc
    obtain ⟨o2, e1, e2, e3, e4, e5⟩ := hs _ o' ho'
    rw [hH] at e1; cases e1
    exact .mp o' ho' (by omega) h1 (fun e => by rw [← e3]; exact h (by omega))
  | it o hH hg h1 h =>
    intro hc
    rw [clo_it] at hc
    obtain ⟨o', ho'⟩ := Option.isSome_iff_exists.1 hc
    obtain ⟨o2, e1, e2, e3, e4, e5⟩ := hs _ o' ho'
    rw [hH] at e1; cases e1
    exact .it o' ho' (by omega) h1 (fun e => by rw [← e3]; exact h (by omega))
  | osc o hH hg h1 h =>
    intro hc
    rw [clo_osc] at hc
    obtain ⟨o', ho'⟩ := Option.isSome_iff_exists.1 hc
    obtain ⟨o2, e1, e2, e3, e4, e5⟩ := hs _ o' ho'
    rw [hH] at e1; cases e1
    exact .osc o' ho' (by omega) h1 (fun e => by rw [← e3]; exact h (by omega))
theorem VRel.nz {w : World} {I : Nat → Prop} {ι : Plc} {H H' : Heap} {id : Nat} {ob : Ob} (hs : Alike H H') (hι : ι id = none) (hid : H'.get id = some ob) (hg : ob.g = 0) (hpos : 0 < ob.sz) {a a' : AV} (hn : Nz H' id a a') : ∀ {v : Value}, VRel w I ι H v a → VRel w I ι H' v a' := by
  induction hn with
  | same h => exact fun hv => hv.alike hs h
  | own =>
    intro v hv
    have := hv.pv_inv
    cases this
    exact .osl ob hid (by omega) rfl (fun _ => ⟨hpos, by omega, .inr ⟨hι, rfl, rfl, rfl⟩⟩)
  | weak =>
    intro v hv
    have := hv.pv_inv
    cases this
    exact .pv .nilsl
  | @agg cs cs' hl h ih =>
    intro v hv
    cases hv with
    | agg hl2 h1 h2 =>
      refine .agg (hl2.trans hl) h1 (fun i u a' hu ha' => ?_)
      have ha := List.getElem?_eq_getElem (l := cs) (i := i) (by have := (List.getElem?_eq_some_iff.1 ha').1; omega)
      exact ih i _ a' ha ha' (h2 i u _ hu ha)
  | @tup cs cs' hl h ih =>
    intro v hv
    cases hv with
    | tup hl2 h2 =>
      refine .tup (hl2.trans hl) (fun i u a' hu ha' => ?_)
      have ha := List.getElem?_eq_getElem (l := cs) (i := i) (by have := (List.getElem?_eq_some_iff.1 ha').1; omega)
      exact ih i _ a' ha ha' (h2 i u _ hu ha)
def NzL (H : Heap) (id : Nat) : List AV → List AV → Prop
  | [], [] => True
  | a :: l, b :: r => Nz H id a b ∧ NzL H id l r
  | _, _ => False
theorem NzL.spec {H : Heap} {id : Nat} : ∀ {l r : List AV}, NzL H id l r → l.length = r.length ∧ ∀ (k : Nat) (a b : AV), l[k]? = some a → r[k]? = some b → Nz H id a b
  | [], [], _ => ⟨rfl, fun k a b h => by simp at h⟩
  | a :: l, b :: r, h => ⟨by simp [(NzL.spec h.2).1], fun k x y h1 h2 => by
      cases k with
      | zero => cases h1; cases h2; exact h.1
      | succ k => exact (NzL.spec h.2).2 k x y h1 h2⟩
  | [], _ :: _, h => h.elim
  | _ :: _, [], h => h.elim
def NzR (H : Heap) (id : Nat) (rows rows' : List (List AV)) : Prop := (rows = rows' ∧ ∀ r ∈ rows', ∀ a ∈ r, Clo H a) ∨ ∃ r r', rows = [r] ∧ rows' = [r'] ∧ NzL H id r r'
theorem NzR.spec {H : Heap} {id : Nat} {rows rows' : List (List AV)} (h : NzR H id rows rows') : rows.length = rows'.length ∧ ∀ (i : Nat) (r' : List AV), rows'[i]? = some r' → ∃ r, rows[i]? = some r ∧ r.length = r'.length ∧ ∀ (k : Nat) (b : AV), r'[k]? = some b → ∃ a, r[k]? = some a ∧ Nz H id a b := by
  rcases h with ⟨rfl, hc⟩ | ⟨r, r', rfl, rfl, hl⟩
  · exact ⟨rfl, fun i r' hr => ⟨r', hr, rfl, fun k b hb => ⟨b, hb, .same (hc r' (List.mem_of_getElem? hr) b (List.mem_of_getElem? hb))⟩⟩⟩
  · refine ⟨rfl, fun i r2 hr => ?_⟩
    cases i with
    | zero =>
      cases hr
      obtain ⟨e1, e2⟩ := hl.spec
      refine ⟨r, rfl, e1, fun k b hb => ?_⟩
      have hlt := (List.getElem?_eq_some_iff.1 hb).1
      exact ⟨r[k], List.getElem?_eq_getElem (by omega), e2 k _ b (List.getElem?_eq_getElem (by omega)) hb⟩
    | succ i => simp at hr
def NzE (E : Env) (H : Heap) (id : Nat) : Env → Prop
  | [] => True
  | (t, v) :: r => (∃ v0, E.get t = some v0 ∧ Nz H id v0 v) ∧ NzE E H id r
theorem NzE.spec {E : Env} {H : Heap} {id : Nat} : ∀ {E' : Env}, NzE E H id E' → ∀ p ∈ E', ∃ v0, E.get p.1 = some v0 ∧ Nz H id v0 p.2
  | (t, v) :: r, h, p, hp => by
    rcases List.mem_cons.1 hp with e | e
    · subst e; exact h.1
    · exact NzE.spec h.2 p e
def NzH (H H2 : Heap) (id : Nat) : Heap → Prop
  | [] => True
  | (j, o') :: r => (∃ o, H.get j = some o ∧ o.g = o'.g ∧ o.sz = o'.sz ∧ o.ty = o'.ty ∧ NzR H2 id o.rows o'.rows) ∧ NzH H H2 id r
theorem NzH.spec {H H2 : Heap} {id : Nat} : ∀ {H' : Heap}, NzH H H2 id H' → ∀ p ∈ H', ∃ o, H.get p.1 = some o ∧ o.g = p.2.g ∧ o.sz = p.2.sz ∧ o.ty = p.2.ty ∧ NzR H2 id o.rows p.2.rows
  | (j, o') :: r, h, p, hp => by
    rcases List.mem_cons.1 hp with e | e
    · subst e; exact h.1
    · exact NzH.spec h.2 p e
/-- Nil slices are owned from here on, or are slices of no rows. -/
theorem Ent.nz {G0 : Heap} {E E' : Env} {H H' : Heap} (id sz ty : Nat) (hid : H.get id = none) (hsz : Nat.blt 0 sz = true) (hE : NzE E ((id, ⟨0, sz, ty, []⟩) :: H') id E') (hH : NzH H ((id, ⟨0, sz, ty, []⟩) :: H') id H') (hk : KOk ((id, ⟨0, sz, ty, []⟩) :: H') H G0) :
    Ent G0 E H E' ((id, ⟨0, sz, ty, []⟩) :: H') := by
  intro G hG N a w hs
  obtain ⟨I, ι, hr, hst, he⟩ := hs.rel
  obtain ⟨a1, a2⟩ := hr.adopt (sz := sz) (ty := ty) hid (by simpa [Nat.blt_eq] using hsz)
  have hpz : 0 < sz := by simpa [Nat.blt_eq] using hsz
  obtain ⟨ι', hι'⟩ : ∃ ι' : Plc, ι' = (fun j => if j = id then none else ι j) := ⟨_, rfl⟩
  rw [← hι'] at a1 a2
  have hιid : ι' id = none := by rw [hι']; simp
  obtain ⟨H1, hH1⟩ : ∃ H1 : Heap, H1 = (id, (⟨0, sz, ty, []⟩ : Ob)) :: H := ⟨_, rfl⟩
  obtain ⟨H2, hH2⟩ : ∃ H2 : Heap, H2 = (id, (⟨0, sz, ty, []⟩ : Ob)) :: H' := ⟨_, rfl⟩
  rw [← hH1] at a1 a2
  rw [← hH2] at hE hH hk ⊢
  have g1 : H1.get id = some ⟨0, sz, ty, []⟩ := by rw [hH1]; simp [Heap.get]
  have g2 : H2.get id = some ⟨0, sz, ty, []⟩ := by rw [hH2]; simp [Heap.get]
  have n1 : ∀ j, j ≠ id → H1.get j = H.get j := fun j e => by rw [hH1]; simp [Heap.get, beq_ne (Ne.symm e)]
  have n2 : ∀ j, j ≠ id → H2.get j = H'.get j := fun j e => by rw [hH2]; simp [Heap.get, beq_ne (Ne.symm e)]
  have hobj : ∀ j o', H2.get j = some o' → ∃ o, H1.get j = some o ∧ o.g = o'.g ∧ o.sz = o'.sz ∧ o.ty = o'.ty ∧ NzR H2 id o.rows o'.rows := by
    intro j o' ho
    by_cases e : j = id
    · subst e
      rw [g2] at ho; cases ho
      exact ⟨_, g1, rfl, rfl, rfl, .inl ⟨rfl, by simp⟩⟩
    · rw [n2 j e] at ho
      obtain ⟨o, e1, e2⟩ := hH.spec _ (mem_of_hget ho)
      exact ⟨o, (n1 j e).trans e1, e2⟩
  have hal : Alike H1 H2 := fun j o' ho => by
    obtain ⟨o, e1, e2, e3, e4, e5⟩ := hobj j o' ho
    exact ⟨o, e1, e2, e3, e4, e5.spec.1⟩
  have hown : ∀ b, Own ι' H2 b → Own ι' H1 b := by
    rintro b ⟨j, o', c, ho, hb⟩
    obtain ⟨o, e1, _⟩ := hobj j o' ho
    exact ⟨j, o, c, e1, hb⟩
  have hrel : Rel I ι' H2 w := by
    refine ⟨a1.imm, fun j o' ho => ?_, fun j j' o o' b c c' hj hj' => ?_⟩
    · obtain ⟨o, e1, e2, e3, e4, e5⟩ := hobj j o' ho
      obtain ⟨s1, s2⟩ := e5.spec
      refine (a1.obj j o e1).keepG e3.symm e4.symm s1.symm rfl (fun _ _ _ _ => ⟨rfl, fun h => h⟩) (fun i r' hi => ?_)
      obtain ⟨r, t1, t2, t3⟩ := s2 i r' hi
      refine ⟨r, t1, t2, fun k a a' h1 h2 v hv => ?_⟩
      obtain ⟨y, u1, u2⟩ := t3 k a' h2
      rw [h1] at u1; cases u1
      exact VRel.nz hal hιid g2 rfl hpz u2 hv
    · obtain ⟨o1, e1, _⟩ := hobj j o hj
      obtain ⟨o2, e2, _⟩ := hobj j' o' hj'
      exact a1.inj j j' o1 o2 b c c' e1 e2
  have hst1 := hst.trans a2
  have hst2 : Step G.I G.ι G.H G.w I ι' H2 w := by
    refine ⟨hst1.os, hst1.tape, hst1.output, hst1.size, hst1.froz, hst1.imm, hst1.immNew, fun b hb => hst1.own b (hown b hb), hst1.keep, fun j o hj => ?_⟩
    obtain ⟨o1, e1, e2⟩ := hst1.objs j o hj
    subst hG
    have hkk := hk.kept j (by rw [hj]; rfl)
    by_cases e : j = id
    · subst e
      obtain ⟨o0, e0, _⟩ := hst.objs j o hj
      rw [hid] at e0; cases e0
    · rw [n1 j e] at e1
      exact ⟨o1, hkk.trans e1, e2⟩
  refine ⟨hs.defers, hs.size, I, ι', hrel, hst2, fun t v hv => ?_⟩
  obtain ⟨v0, f1, f2⟩ := hE.spec _ (mem_of_get hv)
  obtain ⟨c, c1, c2⟩ := he t v0 f1
  exact ⟨c, c1, VRel.nz hal hιid g2 rfl hpz f2 (c2.mono hr a2)⟩
end Go.Abs
end
section
set_option linter.unusedVariables false
namespace Go.Abs
open Go.Proofs.YtdcifaldfmpapaaGreat

theorem bulk_pos {H : Type} (d : DataW H) : 1 ≤ Rows.uptoBulk d := by
  cases d with
  | lit l => cases l <;> simp [Rows.uptoBulk]
  | _ => simp [Rows.uptoBulk]
theorem bulk_mem {H : Type} {d : DataW H} {l : List (DataW H)} (h : d ∈ l) : Rows.uptoBulk d ≤ Rows.uptoBulkAll l := by
  induction l with
  | nil => cases h
  | cons x r ih =>
    simp only [Rows.uptoBulkAll]
    rcases List.mem_cons.1 h with e | e
    · subst e; omega
    · have := ih e; omega
theorem bulk_len {H : Type} (l : List (DataW H)) : l.length ≤ Rows.uptoBulkAll l := by
  induction l with
  | nil => simp
  | cons x r ih => have := bulk_pos x; simp only [Rows.uptoBulkAll, List.length_cons]; omega

/-- The cells of a value and the pure values that they hold. -/
inductive PL (w : World) (I : Nat → Prop) : List Value → List PV → Prop
  | nil : PL w I [] []
  | cons {c : Value} {p : PV} {cs : List Value} {ps : List PV} (h : PRep w I c p) (r : PL w I cs ps) : PL w I (c :: cs) (p :: ps)
theorem PL.length {w : World} {I : Nat → Prop} {cs : List Value} {ps : List PV} (h : PL w I cs ps) : cs.length = ps.length := by
  induction h with
  | nil => rfl
  | cons h r ih => simp [ih]
theorem PL.append {w : World} {I : Nat → Prop} {cs cs' : List Value} {ps ps' : List PV} (h : PL w I cs ps) (h' : PL w I cs' ps') : PL w I (cs ++ cs') (ps ++ ps') := by
  induction h with
  | nil => exact h'
  | cons h r ih => exact .cons h ih
theorem PL.get {w : World} {I : Nat → Prop} {cs : List Value} {ps : List PV} (h : PL w I cs ps) : ∀ (k : Nat) (c : Value) (p : PV), cs[k]? = some c → ps[k]? = some p → PRep w I c p := by
  induction h with
  | nil => intro k c p h; simp at h
  | cons h r ih =>
    intro k c p hc hp
    cases k with
    | zero => cases hc; cases hp; exact h
    | succ k => exact ih k c p hc hp

def contig (P : Program) : Nat → List Field → Nat → Bool
  | o, [], n => Nat.beq o n
  | o, f :: r, n => Nat.beq f.offset o && contig P (o + P.cellsOf f.type) r n
/-- Types of pure values. -/
def pureT (P : Program) : Nat → TypeId → Bool
  | 0, _ => false
  | n + 1, t => match P.underlying t with
    | some .bool => true
    | some (.int _) => true
    | some .string => true
    | some (.slice e) => pureT P n e && Nat.blt 0 (P.cellsOf e)
    | some (.struct fs) => contig P 0 fs.toList (P.cellsOf t) && fs.toList.all fun f => pureT P n f.type
    | _ => false
def ShF (S : TypeId → List PV → Prop) (c : TypeId → Nat) : List Field → List PV → Prop
  | [], ps => ps = []
  | f :: r, ps => ∃ a b, ps = a ++ b ∧ a.length = c f.type ∧ S f.type a ∧ ShF S c r b
/-- The shape of the pure values of a type. -/
def Sh (P : Program) (B : Nat) : Nat → TypeId → List PV → Prop
  | 0, _, _ => False
  | n + 1, t, ps => match P.underlying t with
    | some .bool => ∃ b, ps = [.bool b]
    | some (.int k) => ∃ i, ps = [.int k i] ∧ (Lit.int k i).wf = true
    | some .string => ∃ s, ps = [.str s] ∧ s.size ≤ B
    | some (.slice e) => ∃ rows, ps = [.sl rows] ∧ rows.length ≤ B ∧ ∀ r ∈ rows, r.length = P.cellsOf e ∧ Sh P B n e r
    | some (.struct fs) => ShF (fun t ps => Sh P B n t ps) P.cellsOf fs.toList ps
    | _ => False

abbrev Old (W : World) : Nat → Prop := fun b => b < W.heap.size
theorem old_cell {W : World} {a : Addr} {v : Value} (h : W.cell? a = some v) : a.spot = none ∧ Old W a.block := by
  unfold World.cell? at h
  split at h
  · next c t fr e =>
    refine ⟨?_, (Array.getElem?_eq_some_iff.1 e).1⟩
    cases hs : a.spot with
    | none => rfl
    | some k => rw [hs] at h; simp at h
  · cases h
section
variable {H : Type} {enc : TypeId × Value → H} {P : Program} {W : World} {B : Nat}
theorem contig_le {P : Program} : ∀ {fs : List Field} {o n : Nat}, contig P o fs n = true → o ≤ n
  | [], o, n, h => Nat.le_of_eq (Nat.eq_of_beq_eq_true h)
  | f :: fs, o, n, h => by
    simp only [contig, Bool.and_eq_true] at h
    have := contig_le h.2
    omega
/-- The fields of a struct, one after the other. -/
theorem fields_sh {m n : Nat} {cs : List Value} (hn : ∀ (t : TypeId) (cs : List Value) (x : DataW H × List MemPlace), pureT P n t = true → DataW.trod enc P W 0 (fun _ => true) true m t cs = some x → Rows.uptoBulk x.1 ≤ B → ∃ ps, PL W (Old W) cs ps ∧ Sh P B n t ps) :
    ∀ (fs : List Field) (xs : List (DataW H × List MemPlace)) (o : Nat), contig P o fs cs.length = true → (fs.all fun f => pureT P n f.type) = true → xs.length = fs.length →
      (∀ (i : Nat) (f : Field), fs[i]? = some f → DataW.trod enc P W 0 (fun _ => true) true m f.type ((cs.drop f.offset).take (P.cellsOf f.type)) = xs[i]?) → Rows.uptoBulkAll (xs.map (·.1)) ≤ B →
      ∃ ps, PL W (Old W) (cs.drop o) ps ∧ ShF (fun t ps => Sh P B n t ps) P.cellsOf fs ps
  | [], xs, o, hc, _, hl, hx, hb => by
    have : o = cs.length := Nat.eq_of_beq_eq_true hc
    subst this
    exact ⟨[], by rw [List.drop_length]; exact .nil, rfl⟩
  | f :: fs, [], o, hc, _, hl, hx, hb => by simp at hl
  | f :: fs, x :: xs, o, hc, hp, hl, hx, hb => by
    simp only [contig, Bool.and_eq_true] at hc
    have ho : f.offset = o := Nat.eq_of_beq_eq_true hc.1
    simp only [List.all_cons, Bool.and_eq_true] at hp
    simp only [List.map_cons, Rows.uptoBulkAll] at hb
    have h0 := hx 0 f rfl
    simp only [List.getElem?_cons_zero] at h0
    rw [ho] at h0
    obtain ⟨a, a1, a2⟩ := hn f.type _ x hp.1 h0 (by omega)
    obtain ⟨b, b1, b2⟩ := fields_sh hn fs xs (o + P.cellsOf f.type) hc.2 hp.2 (by simpa using hl) (fun i g hg => hx (i + 1) g hg) (by omega)
    have hle := contig_le hc.2
    have hal : a.length = P.cellsOf f.type := by
      rw [← a1.length, List.length_take, List.length_drop]; omega
    refine ⟨a ++ b, ?_, a, b, rfl, hal, a2, b2⟩
    have := a1.append b1
    rwa [← List.drop_drop, List.take_append_drop] at this
/-- WHAT AN ARGUMENT OF SUCH A TYPE HOLDS. -/
theorem trod_sh : ∀ (n : Nat) (t : TypeId), pureT P n t = true → ∀ (m : Nat) (cs : List Value) (x : DataW H × List MemPlace), DataW.trod enc P W 0 (fun _ => true) true m t cs = some x → Rows.uptoBulk x.1 ≤ B → ∃ ps, PL W (Old W) cs ps ∧ Sh P B n t ps
  | 0, t, hp, m, cs, x, h, hb => by cases hp
  | n + 1, t, hp, m, cs, x, h, hb => by
    unfold pureT at hp
    split at hp
    · next ht =>
      obtain ⟨b, rfl, rfl⟩ := DataW.trod_bool ht h
      exact ⟨[.bool b], .cons (.bool b) .nil, by unfold Sh; rw [ht]; exact ⟨b, rfl⟩⟩
    · next k ht =>
      obtain ⟨i, rfl, rfl, hw⟩ := DataW.trod_int ht h
      exact ⟨[.int k i], .cons (.int k i) .nil, by unfold Sh; rw [ht]; exact ⟨i, rfl, hw⟩⟩
    · next ht =>
      obtain ⟨s, rfl, rfl, hs⟩ := DataW.trod_string ht h
      have hsz : s.size ≤ B := by
        have e1 : s.data.toList.length = s.size := Array.length_toList
        simp only [Rows.uptoBulk] at hb
        omega
      exact ⟨[.str s], .cons (.str s) .nil, by unfold Sh; rw [ht]; exact ⟨s, rfl, hsz⟩⟩
    · next e ht =>
      simp only [Bool.and_eq_true, Nat.blt_eq] at hp
      obtain ⟨hpe, hsz⟩ := hp
      rcases DataW.trod_slice ht h with ⟨rfl, rfl⟩ | ⟨a, len, cap, elems, rest, m', rfl, rfl, rfl, _, hlc, hmax, hlen, hel, hre, _⟩
      · exact ⟨[.sl []], .cons .nilsl .nil, by unfold Sh; rw [ht]; exact ⟨[], rfl, by simp, by simp⟩⟩
      · obtain ⟨hrl, hre⟩ := hre rfl
        simp only [Rows.uptoBulk] at hb
        rcases Nat.eq_zero_or_pos cap with hc0 | hcpos
        · have hl0 : len = 0 := by omega
          subst hl0 hc0
          exact ⟨[.sl []], .cons (.empsl a) .nil, by unfold Sh; rw [ht]; exact ⟨[], rfl, by simp, by simp⟩⟩
        · have hcell : ∃ v, W.cell? a = some v := by
            rcases Nat.eq_zero_or_pos len with hl0 | hlp
            · subst hl0
              have h0 := hre 0 (by omega)
              have hr0 := List.getElem?_eq_getElem (l := rest) (i := 0) (by omega)
              rw [hr0, Option.bind_eq_some_iff] at h0
              obtain ⟨c0, q1, _⟩ := h0
              obtain ⟨_, q2, q3⟩ := World.cells?_some q1
              have := q3 0 hsz
              simp only [Nat.add_zero, Nat.zero_mul] at this
              rw [Addr.add_zero', Addr.add_zero', List.getElem?_eq_getElem (by omega)] at this
              exact ⟨_, this⟩
            · have h0 := hel 0 hlp
              have hr0 := List.getElem?_eq_getElem (l := elems) (i := 0) (by omega)
              rw [hr0, Option.bind_eq_some_iff] at h0
              obtain ⟨c0, q1, _⟩ := h0
              obtain ⟨_, q2, q3⟩ := World.cells?_some q1
              have := q3 0 hsz
              simp only [Nat.zero_mul] at this
              rw [Addr.add_zero', Addr.add_zero', List.getElem?_eq_getElem (by omega)] at this
              exact ⟨_, this⟩
          obtain ⟨v0, hv0⟩ := hcell
          obtain ⟨hspot, hold⟩ := old_cell hv0
          obtain ⟨b, off, sp⟩ := a
          simp only at hspot hold
          subst hspot
          have hrow : ∀ i, i < len → ∃ ps : List PV, ∃ ci, W.cells? 0 (Addr.add ⟨b, off, none⟩ (i * P.cellsOf e)) (P.cellsOf e) = some ci ∧ PL W (Old W) ci ps ∧ Sh P B n e ps := by
            intro i hi
            have h0 := hel i hi
            have hr0 := List.getElem?_eq_getElem (l := elems) (i := i) (by omega)
            rw [hr0, Option.bind_eq_some_iff] at h0
            obtain ⟨ci, q1, q2⟩ := h0
            have hbi : Rows.uptoBulk (elems[i]'(by omega)).1 ≤ B := by
              have := bulk_mem (List.mem_map_of_mem (f := fun x : DataW H × List MemPlace => x.1) (List.getElem_mem (l := elems) (n := i) (by omega)))
              omega
            obtain ⟨ps, s1, s2⟩ := trod_sh n e hpe m' ci _ q2 hbi
            exact ⟨ps, ci, q1, s1, s2⟩
          obtain ⟨rows, r1, r2⟩ : ∃ rows : List (List PV), rows.length = len ∧ ∀ i r, rows[i]? = some r → ∃ ci, W.cells? 0 (Addr.add ⟨b, off, none⟩ (i * P.cellsOf e)) (P.cellsOf e) = some ci ∧ PL W (Old W) ci r ∧ Sh P B n e r := by
            refine ⟨(List.range len).map (fun i => if h : i < len then (hrow i h).choose else []), by simp, fun i r hr => ?_⟩
            rw [List.getElem?_map] at hr
            obtain ⟨j, hj, rfl⟩ := Option.map_eq_some_iff.1 hr
            obtain ⟨hlt, hj⟩ := List.getElem?_eq_some_iff.1 hj
            rw [List.getElem_range] at hj
            subst hj
            have hi : i < len := by simpa using hlt
            rw [dif_pos hi]
            exact (hrow i hi).choose_spec
          have hcl : ∀ (i : Nat) (r : List PV), rows[i]? = some r → r.length = P.cellsOf e := fun i r hr => by
            obtain ⟨ci, c1, c2, c3⟩ := r2 i r hr
            rw [← c2.length]
            exact (World.cells?_some c1).2.1
          refine ⟨[.sl rows], .cons ?_ .nil, by
            unfold Sh; rw [ht]
            refine ⟨rows, rfl, ?_, fun r hr => ?_⟩
            · have := bulk_len (elems.map (·.1))
              simp only [List.length_map] at this
              omega
            · obtain ⟨i, hi⟩ := List.mem_iff_getElem?.1 hr
              obtain ⟨ci, c1, c2, c3⟩ := r2 i r hi
              exact ⟨hcl i r hi, c3⟩⟩
          rw [← r1]
          have hcells : ∀ (i : Nat) (r : List PV), rows[i]? = some r → ∀ (k : Nat) (p : PV), r[k]? = some p → ∃ v, W.cell? ⟨b, off + i * P.cellsOf e + k, none⟩ = some v ∧ PRep W (Old W) v p := by
            intro i r hr k p hk
            obtain ⟨ci, c1, c2, c3⟩ := r2 i r hr
            obtain ⟨_, d1, d2⟩ := World.cells?_some c1
            have hkl : k < P.cellsOf e := by rw [← hcl i r hr]; exact (List.getElem?_eq_some_iff.1 hk).1
            have e1 := d2 k hkl
            rw [Addr.add_lit, Addr.add_lit] at e1
            have e2 : ci[k]? = some (ci[k]'(by omega)) := List.getElem?_eq_getElem (by omega)
            exact ⟨_, e1.trans e2, c2.get k _ p e2 hk⟩
          refine PRep.sl b off cap (P.cellsOf e) rows (fun i k => (W.cell? ⟨b, off + i * P.cellsOf e + k, none⟩).getD undef) hold hsz (fun r hr => ?_) (by omega) (fun i r hr k p hk => ?_) (fun i r hr k p hk => ?_)
          · obtain ⟨i, hi⟩ := List.mem_iff_getElem?.1 hr
            exact hcl i r hi
          · obtain ⟨v, v1, v2⟩ := hcells i r hr k p hk
            simp [v1]
          · obtain ⟨v, v1, v2⟩ := hcells i r hr k p hk
            simp [v1, v2]
    · next fs ht =>
      simp only [Bool.and_eq_true] at hp
      obtain ⟨xs, m', rfl, rfl, hl, hxl, hf⟩ := DataW.trod_struct ht h
      simp only [Rows.uptoBulk] at hb
      obtain ⟨ps, p1, p2⟩ := fields_sh (n := n) (m := m') (B := B) (fun t cs x a b c => trod_sh n t a m' cs x b c) fs.toList xs 0 (by rw [hl]; exact hp.1) hp.2 (by simpa using hxl) (fun i f hi => hf i f (by simpa using hi)) (by omega)
      exact ⟨ps, by simpa using p1, by unfold Sh; rw [ht]; exact p2⟩
    · cases hp
end
end Go.Abs
end
section
set_option linter.unusedVariables false
namespace Go.Abs
open Go.Proofs.YtdcifaldfmpapaaGreat Go.ChangeShapes Go.WideShapes Go.ChangeAt Go.RowKit

/-- The argument's abstract value. -/
def argAV (P : Program) (t : TypeId) (ps : List PV) : AV :=
  match P.underlying t with
  | some (.struct _) => .agg (ps.map .pv)
  | _ => match ps with
    | [p] => .pv p
    | _ => .any

section
variable {H : Type} {enc : TypeId × Value → H} {P : Program} {W : World} {B : Nat}

theorem PL.toV {I : Nat → Prop} {ι : Plc} {Hp : Heap} {cs : List Value} {ps : List PV} (h : PL W I cs ps) (i : Nat) (v : Value) (a : AV) (h1 : cs[i]? = some v) (h2 : (ps.map AV.pv)[i]? = some a) : VRel W I ι Hp v a ∧ v.oneCell' = true := by
  rw [List.getElem?_map] at h2
  obtain ⟨p, hp, rfl⟩ := Option.map_eq_some_iff.1 h2
  have := h.get i v p h1 hp
  exact ⟨.pv this, this.oneCell⟩

theorem okOne {n : Nat} {t : TypeId} {v : Value} {base : Nat} (hp : pureT P n t = true) (hval : Value.okWide P W .any base t v) (hno : ∀ fs, P.underlying t = some (.struct fs) → False) : v.cells.toList = [v] := by
  cases n with
  | zero => cases hp
  | succ n =>
    unfold pureT at hp
    unfold Value.okWide at hval
    split at hp
    · next ht => cases v <;> first | rfl | (simp [Cell.okWide, Cell.ok, ht] at hval)
    · next k ht => cases v <;> first | rfl | (simp [Cell.okWide, Cell.ok, ht] at hval)
    · next ht => cases v <;> first | rfl | (simp [Cell.okWide, Cell.ok, ht] at hval)
    · next e ht => cases v <;> first | rfl | (simp [Cell.okWide, Cell.ok, ht] at hval)
    · next fs ht => exact (hno fs ht).elim
    · cases hp
theorem arg_rel {n : Nat} {t : TypeId} {v : Value} {d : DataW H} {p : List MemPlace} {base : Nat} (ι : Plc) (Hp : Heap) (hp : pureT P n t = true) (hval : Value.okWide P W .any base t v) (h : DataW.Trod enc P W 0 (fun _ => true) true t v d p) (hb : Rows.uptoBulk d ≤ B) :
    ∃ ps, Sh P B n t ps ∧ VRel W (Old W) ι Hp v (argAV P t ps) := by
  obtain ⟨m, hm⟩ := h
  obtain ⟨ps, h1, h2⟩ := trod_sh (B := B) n t hp m _ _ hm hb
  refine ⟨ps, h2, ?_⟩
  unfold argAV
  split
  · next fs ht =>
    unfold Value.okWide at hval
    rw [ht] at hval
    obtain ⟨cs, rfl, _, _⟩ := hval
    have hl := h1.length
    simp only [Value.cells, Array.length_toList] at hl
    refine .agg (by simpa using hl) (fun i v hv => ?_) (fun i v a hv ha => ?_)
    · have hlt := (Array.getElem?_eq_some_iff.1 hv).1
      exact (PL.toV (ι := ι) (Hp := Hp) h1 i v (.pv (ps[i]'(by omega))) (by simpa [Value.cells] using hv) (by rw [List.getElem?_map, List.getElem?_eq_getElem (by omega)]; rfl)).2
    · exact (PL.toV h1 i v a (by simpa [Value.cells] using hv) ha).1
  · next hno =>
    split
    · next q =>
      have hone := okOne hp hval (fun fs h => hno fs h)
      rw [hone] at h1
      exact (PL.toV h1 0 _ _ rfl rfl).1
    · exact .any v

def avsOf (P : Program) : List TypeId → List (List PV) → List AV
  | t :: ts, p :: ps => argAV P t p :: avsOf P ts ps
  | _, _ => []
def ShAll (P : Program) (B n : Nat) : List TypeId → List (List PV) → Prop
  | [], [] => True
  | t :: ts, p :: ps => Sh P B n t p ∧ ShAll P B n ts ps
  | _, _ => False
theorem shAll_nil {n : Nat} {pss : List (List PV)} (h : ShAll P B n [] pss) : pss = [] := by
  cases pss with
  | nil => rfl
  | cons p ps => exact h.elim
theorem shAll_cons {n : Nat} {t : TypeId} {ts : List TypeId} {pss : List (List PV)} (h : ShAll P B n (t :: ts) pss) : ∃ p ps, pss = p :: ps ∧ Sh P B n t p ∧ ShAll P B n ts ps := by
  cases pss with
  | nil => exact h.elim
  | cons p ps => exact ⟨p, ps, rfl, h.1, h.2⟩
theorem args_rel {n : Nat} {base : Nat} (ι : Plc) (Hp : Heap) : ∀ {ts : List TypeId} {vs : List Value} {ds : List (DataW H)} {p : List MemPlace}, DataW.TrodAll enc P W 0 (fun _ => true) true ts vs ds p → ts.all (pureT P n) = true →
    (∀ (j : Nat) t v, ts[j]? = some t → vs[j]? = some v → Value.okWide P W .any base t v) → Rows.uptoBulkAll ds ≤ B →
    ∃ pss, ShAll P B n ts pss ∧ vs.length = (avsOf P ts pss).length ∧ ∀ (i : Nat) (v : Value) (a : AV), vs[i]? = some v → (avsOf P ts pss)[i]? = some a → VRel W (Old W) ι Hp v a
  | [], vs, ds, p, h, hp, hv, hb => by
    obtain ⟨rfl, rfl, rfl⟩ := trodAll_nil h
    exact ⟨[], trivial, rfl, fun i v a h => by simp at h⟩
  | t :: ts, vs, ds, p, h, hp, hv, hb => by
    obtain ⟨v, vs', d, ds', p1, p2, rfl, rfl, rfl, h1, h2⟩ := trodAll_cons h
    simp only [List.all_cons, Bool.and_eq_true] at hp
    simp only [Rows.uptoBulkAll] at hb
    obtain ⟨ps, a1, a2⟩ := arg_rel (B := B) ι Hp hp.1 (hv 0 t v rfl rfl) h1 (by omega)
    obtain ⟨pss, b1, b2, b3⟩ := args_rel ι Hp h2 hp.2 (fun j t v h1 h2 => hv (j + 1) t v h1 h2) (by omega)
    refine ⟨ps :: pss, ⟨a1, b1⟩, by simp [avsOf, b2], fun i v a h1 h2 => ?_⟩
    cases i with
    | zero => cases h1; cases h2; exact a2
    | succ i => exact b3 i v a h1 h2

theorem rel_old (ι : Plc) (W : World) : Rel (Old W) ι [] W := ⟨fun _ h => h, fun _ _ h => (by cases h), fun _ _ _ _ _ _ _ h => (by cases h)⟩
theorem below_step {I I' : Nat → Prop} {ι ι' : Plc} {H' : Heap} {w w' : World} (h : Step I ι [] w I' ι' H' w') : Below w.heap.size w w' :=
  ⟨h.os, h.tape, h.output, h.size, fun k hk => h.keep k hk (fun ⟨_, _, _, hx, _⟩ => by cases hx)⟩

theorem args_below (hl : laidOutB P = true) {W' : World} (hb : Below W.heap.size W W') {sp : Nat → Bool} : ∀ {ts : List TypeId} {vs : List Value} {ds : List (DataW H)} {p : List MemPlace}, DataW.TrodAll enc P W 0 (fun _ => true) true ts vs ds p →
    (ts.all fun t => P.readableRec t && Nat.blt t P.types.size) = true → (∀ x ∈ p, x.block < W.heap.size) → (∀ x ∈ p, sp x.block = true) → DataW.TrodAll enc P W' 0 sp true ts vs ds p
  | [], vs, ds, p, h, hp, hlt, hsp => by
    obtain ⟨rfl, rfl, rfl⟩ := trodAll_nil h
    exact trodAll_mk0
  | t :: ts, vs, ds, p, h, hp, hlt, hsp => by
    obtain ⟨v, vs', d, ds', p1, p2, rfl, rfl, rfl, h1, h2⟩ := trodAll_cons h
    simp only [List.all_cons, Bool.and_eq_true, Nat.blt_eq] at hp
    exact trodAll_cons_mk (WideElems.Trod_stays hl hp.1.1 hp.1.2 h1 (fun x hx => hb.same (hlt x (by simp [hx]))) (fun x hx => hsp x (by simp [hx])))
      (args_below hl hb h2 hp.2 (fun x hx => hlt x (by simp [hx])) (fun x hx => hsp x (by simp [hx])))

/-- 'post_of_same', the marks asked of old blocks alone. -/
theorem post_below {f : Func} {s : ChangeSpec} {apart fresh handsOn again : Bool} {W W' : World} {args : Array Value} {v : Value} {ds gs : List (DataW H)} {before pa pv : List MemPlace}
    (hW : DataW.Whole enc P f.params.toList s.vars apart W args.toList ds gs before)
    (hres : ∀ (b : Nat) (sp : Nat → Bool) (hd : Bool), DataW.TrodAll enc P W' b sp hd f.resultTypes.toList (v.resultList f.resultTypes.size) (s.fn H (ds ++ gs)).results [])
    (hargs : ∀ sp : Nat → Bool, (∀ p ∈ before, sp p.block = true) → DataW.TrodAll enc P W' 0 sp true f.params.toList args.toList (s.fn H (ds ++ gs)).args pa)
    (hvars : ∀ sp : Nat → Bool, (∀ p ∈ before, sp p.block = true) → DataW.TrodVars enc P W' sp s.vars (s.fn H (ds ++ gs)).vars pv)
    (hps : before = pa ++ pv) (hb : Below W.heap.size W W')
    (hok : ∀ (j : Nat) (t : TypeId) (r : Value), f.resultTypes[j]? = some t → (v.resultList f.resultTypes.size)[j]? = some r → Value.okWide P W' .any 0 t r) :
    s.post enc P f apart fresh handsOn again W args v W' := by
  have hlt : ∀ p ∈ before, p.block < W.heap.size := fun p hp => hW.lt p hp
  have hold : ∀ p ∈ before, (fun b => decide (b < W.heap.size)) p.block = true := fun p hp => by simpa using hlt p hp
  refine ⟨ds, gs, before, [], pa, pv, hW, hres _ _ _, hargs _ hold, hvars _ hold, World.keptBut_mono (fun p hp => ⟨hp, ?_⟩) (hb.frame (· ∈ before)), fun _ => ?_⟩
  · rw [hps, List.mem_append] at hp
    exact Or.inr hp
  · obtain ⟨_, _, _, _, _, hz, hn⟩ := hW
    refine ⟨hok, _, _, ([] ++ pa) ++ pv, ⟨[] ++ pa, pv, trodAll_append (hargs _ (fun _ _ => rfl)) (hres _ _ _), hvars _ (fun _ _ => rfl), rfl, ?_, ?_⟩, ?_⟩
    · intro b off hp
      have hin : MemPlace.cell b off ∈ before := by rw [hps]; simpa using hp
      rw [hb.frozen (hlt _ hin)]
      exact hz b off hin
    · intro ha
      have := hn ha
      rw [hps] at this
      simpa using this
    · intro p hp _
      rw [hps]
      simpa using hp

/-- A LAW THAT ANSWERS true IN THE ABSTRACT LOGIC MEETS ITS ROW. -/
theorem law_true {n : Nat} {fid : FuncId} {f : Func} {s : ChangeSpec} {apart fresh handsOn again : Bool} {args : Array Value} {ds gs : List (DataW H)} {before : List MemPlace} {base : Nat} {bt : TypeId}
    (hl : laidOutB P = true) (hpar : (f.params.toList.all fun t => P.readableRec t && Nat.blt t P.types.size) = true) (hpure : f.params.toList.all (pureT P n) = true) (hvars : s.vars = [])
    (hfn : ∀ ds : List (DataW H), ds.length = f.params.toList.length → (s.fn H ds).results = [.lit (.bool true)] ∧ (s.fn H ds).args = ds ∧ (s.fn H ds).vars = [])
    (hres : f.resultTypes = #[bt]) (hbt : P.underlying bt = some .bool)
    (hval : ∀ (j : Nat) t v, f.params[j]? = some t → args[j]? = some v → Value.okWide P W .any base t v)
    (hW : DataW.Whole enc P f.params.toList s.vars apart W args.toList ds gs before) (hB : Rows.uptoBulkAll ds ≤ B)
    (hc : ∀ pss, ShAll P B n f.params.toList pss → ACalls P fid (avsOf P f.params.toList pss) [] (fun r H' => r = .pv (.bool true) ∧ H' = [])) :
    Calls P fid args W fun e W' => ∃ v, e = .returned v ∧ s.post enc P f apart fresh handsOn again W args v W' := by
  have hW' := hW
  obtain ⟨p, q, hA, hV, rfl, hfz, hnd⟩ := hW
  rw [hvars] at hV
  obtain ⟨rfl, rfl⟩ := trodVars_none hV
  obtain ⟨pss, h1, h2, h3⟩ := args_rel (B := B) (base := base) (fun _ => none) [] hA hpure (fun j t v ht hv => hval j t v (by simpa using ht) (by simpa using hv)) hB
  have hlen : ds.length = f.params.toList.length := by
    clear h1 h2 h3 hc hfn hpar hpure hval hW' hB hfz hnd
    revert hA
    generalize f.params.toList = ts
    generalize args.toList = vs
    intro hA
    clear hV
    induction ts generalizing vs ds p with
    | nil => obtain ⟨_, rfl, _⟩ := trodAll_nil hA; rfl
    | cons t ts ih =>
      obtain ⟨v, vs', d, ds', p1, p2, _, rfl, _, _, h2⟩ := trodAll_cons hA
      simp [ih _ _ h2]
  refine (hc pss h1 (Old W) (fun _ => none) W args (rel_old _ W) (by simpa using h2) (fun i v a ha hb => h3 i v a (by simpa using ha) hb)).mono ?_
  rintro e W' ⟨r, H', I', ι', v, rfl, ⟨rfl, rfl⟩, hv, hr, hst⟩
  have hvb : v = .bool true := hv.bool_inv
  subst hvb
  have hbel := below_step hst
  obtain ⟨f1, f2, f3⟩ := hfn (ds ++ []) (by simpa using hlen)
  refine ⟨_, rfl, post_below (pa := p) (pv := []) hW' (fun b sp hd => ?_) (fun sp hsp => ?_) (fun sp hsp => ?_) rfl hbel (ok_one hres rfl (okWide_bool_mk hbt _))⟩
  · rw [f1, hres]
    exact trodAll_cons_mk (shut_bool hbt _) trodAll_mk0
  · rw [f2, List.append_nil]
    exact args_below hl hbel hA hpar (fun x hx => hW'.lt x (by simp [hx])) (fun x hx => hsp x (by simp [hx]))
  · rw [f3, hvars]; rfl

/-! ### shapes, taken apart -/
theorem sh_int {n : Nat} {t : TypeId} {k : IntKind} {ps : List PV} (ht : P.underlying t = some (.int k)) (h : Sh P B (n + 1) t ps) : ∃ i, ps = [.int k i] ∧ (Lit.int k i).wf = true := by unfold Sh at h; rw [ht] at h; exact h
theorem sh_str {n : Nat} {t : TypeId} {ps : List PV} (ht : P.underlying t = some .string) (h : Sh P B (n + 1) t ps) : ∃ s, ps = [.str s] ∧ s.size ≤ B := by unfold Sh at h; rw [ht] at h; exact h
theorem sh_struct {n : Nat} {t : TypeId} {fs : Array Field} {ps : List PV} (ht : P.underlying t = some (.struct fs)) (h : Sh P B (n + 1) t ps) : ShF (fun t ps => Sh P B n t ps) P.cellsOf fs.toList ps := by unfold Sh at h; rw [ht] at h; exact h
theorem sh_rows {n : Nat} {t e : TypeId} {ps : List PV} {α : Type} {f : α → List PV} {good : α → Prop} (ht : P.underlying t = some (.slice e)) (h : Sh P B (n + 1) t ps) (hd : ∀ r, Sh P B n e r → ∃ a, r = f a ∧ good a) :
    ∃ l : List α, ps = [.sl (l.map f)] ∧ l.length ≤ B ∧ ∀ a, a ∈ l → good a := by
  unfold Sh at h; rw [ht] at h
  obtain ⟨rows, rfl, hlen, hr⟩ := h
  obtain ⟨l, h1, h2⟩ : ∃ l : List α, rows = l.map f ∧ ∀ a, a ∈ l → good a := by
    clear hlen
    induction rows with
    | nil => exact ⟨[], rfl, by simp⟩
    | cons r rs ih =>
      obtain ⟨l, h1, h2⟩ := ih (fun r h => hr r (by simp [h]))
      obtain ⟨a, a1, a2⟩ := hd r (hr r (by simp)).2
      refine ⟨a :: l, by simp [a1, h1], fun b hb => ?_⟩
      rcases List.mem_cons.1 hb with e | e
      · subst e; exact a2
      · exact h2 b e
  subst h1
  exact ⟨l, rfl, by simpa using hlen, h2⟩
end
end Go.Abs
end
section
set_option linter.unusedVariables false
set_option linter.unusedSimpArgs false
namespace Go.Proofs.YtdcifaldfmpapaaGreat
open Go.Abs

theorem zo9 : ZeroOf Tryz.prog 9 [.pv (.str ⟨#[]⟩)] := ⟨_, _, Tryz.zeroValue9, .inl rfl, rfl⟩
theorem so22 : SliceOf Tryz.prog 22 30 6 := ⟨Tryz.underlying22, Tryz.sizeOf30, by decide, _, Tryz.zeroValue30⟩
theorem ei30 : EI Tryz.prog 30 6 88 := EI.mk (z := (Value.agg #[(Value.string ⟨#[]⟩), (Value.int IntKind.i64 (0)), (Value.int IntKind.i64 (0)), (Value.int IntKind.i64 (0)), (Value.slice none (0) (0)), (Value.slice none (0) (0))])) (by kernel_rfl) rfl (by decide) (by decide)
theorem zo24 : ZeroOf Tryz.prog 24 [.pv (.sl [])] := ⟨_, _, Tryz.zeroValue24, .inl rfl, rfl⟩
theorem zoN24 : ZeroOf Tryz.prog 24 [.pv .nils] := ⟨_, _, Tryz.zeroValue24, .inr rfl, rfl⟩
theorem fo24_0 : FieldOf Tryz.prog 24 0 0 := by
  refine ⟨_, _, 0, Tryz.underlying24, rfl, rfl, ?_⟩
  exact Tryz.sizeOf22
theorem bo24 : BuildOf Tryz.prog 24 [(0, 1)] [.pv (.sl [])] := ⟨_, #[(0, 1)], _, _, Tryz.underlying24, Tryz.zeroValue24, .inl rfl, rfl, fun w => by simp [Tryz.sizeOf22], rfl⟩
theorem zo26 : ZeroOf Tryz.prog 26 [.pv (.int .i64 0), .pv (.int .i64 0)] := ⟨_, _, Tryz.zeroValue26, .inl rfl, rfl⟩
theorem fo26_0 : FieldOf Tryz.prog 26 0 0 := by
  refine ⟨_, _, 0, Tryz.underlying26, rfl, rfl, ?_⟩
  exact Tryz.sizeOf3
theorem fo26_1 : FieldOf Tryz.prog 26 1 1 := by
  refine ⟨_, _, 0, Tryz.underlying26, rfl, rfl, ?_⟩
  exact Tryz.sizeOf3
theorem bo26 : BuildOf Tryz.prog 26 [(0, 1), (1, 1)] [.pv (.int .i64 0), .pv (.int .i64 0)] := ⟨_, #[(0, 1), (1, 1)], _, _, Tryz.underlying26, Tryz.zeroValue26, .inl rfl, rfl, fun w => by simp [Tryz.sizeOf3], rfl⟩
theorem se26 (a0 b0 : Int) (a1 b1 : Int) (w : World) : (Op.equalIn 10000 26 (.agg [.int .i64 a0, .int .i64 a1].toArray) (.agg [.int .i64 b0, .int .i64 b1].toArray)).run Tryz.prog w = .ok (decide (a0 = b0) && decide (a1 = b1)) w := by
  refine (run_equalIn_struct (P := Tryz.prog) w 9999 26 _ _ (by simp [Program.fieldsOf, Tryz.underlying26]) Tryz.stoodInHeld26).trans ?_
  have h3 : ∀ (d : Nat) (a b : Int) (w : World), (Op.equalIn (d + 1) 3 (.int .i64 a) (.int .i64 b)).run Tryz.prog w = .ok (decide (a = b)) w := fun d a b w => by rw [run_equalIn_int w d 3 _ _ a b Tryz.underlying3]; by_cases h : a = b <;> simp [h]
  by_cases e0 : a0 = b0 <;> by_cases e1 : a1 = b1 <;> simp [Program.fieldsOf, Tryz.underlying26, Op.eqFields, part, h3, Tryz.isAgg3, e0, e1]
theorem so27 : SliceOf Tryz.prog 27 9 1 := ⟨Tryz.underlying27, Tryz.sizeOf9, by decide, _, Tryz.zeroValue9⟩
theorem ei9 : EI Tryz.prog 9 1 16 := EI.mk (z := (Value.string ⟨#[]⟩)) (by kernel_rfl) rfl (by decide) (by decide)
theorem so28 : SliceOf Tryz.prog 28 52 2 := ⟨Tryz.underlying28, Tryz.sizeOf52, by decide, _, Tryz.zeroValue52⟩
theorem zo30 : ZeroOf Tryz.prog 30 [.pv (.str ⟨#[]⟩), .pv (.int .i64 0), .pv (.int .i64 0), .pv (.int .i64 0), .pv (.sl []), .pv (.sl [])] := ⟨_, _, Tryz.zeroValue30, .inl rfl, rfl⟩
theorem fo30_0 : FieldOf Tryz.prog 30 0 0 := by
  refine ⟨_, _, 0, Tryz.underlying30, rfl, rfl, ?_⟩
  exact Tryz.sizeOf9
theorem fo30_1 : FieldOf Tryz.prog 30 1 1 := by
  refine ⟨_, _, 0, Tryz.underlying30, rfl, rfl, ?_⟩
  exact Tryz.sizeOf3
theorem fo30_2 : FieldOf Tryz.prog 30 2 2 := by
  refine ⟨_, _, 1, Tryz.underlying30, rfl, rfl, ?_⟩
  exact Tryz.sizeOf26
theorem fo30_3 : FieldOf Tryz.prog 30 3 4 := by
  refine ⟨_, _, 0, Tryz.underlying30, rfl, rfl, ?_⟩
  exact Tryz.sizeOf27
theorem fo30_4 : FieldOf Tryz.prog 30 4 5 := by
  refine ⟨_, _, 0, Tryz.underlying30, rfl, rfl, ?_⟩
  exact Tryz.sizeOf28
theorem bo30 : BuildOf Tryz.prog 30 [(0, 1), (1, 1), (2, 2), (4, 1), (5, 1)] [.pv (.str ⟨#[]⟩), .pv (.int .i64 0), .pv (.int .i64 0), .pv (.int .i64 0), .pv (.sl []), .pv (.sl [])] := ⟨_, #[(0, 1), (1, 1), (2, 2), (4, 1), (5, 1)], _, _, Tryz.underlying30, Tryz.zeroValue30, .inl rfl, rfl, fun w => by simp [Tryz.sizeOf3, Tryz.sizeOf9, Tryz.sizeOf26, Tryz.sizeOf27, Tryz.sizeOf28], rfl⟩
theorem zo32 : ZeroOf Tryz.prog 32 [.pv (.int .i64 0), .pv (.str ⟨#[]⟩), .pv (.str ⟨#[]⟩), .pv (.str ⟨#[]⟩), .pv (.int .i64 0), .pv (.int .i64 0), .pv (.str ⟨#[]⟩), .pv (.str ⟨#[]⟩), .pv (.sl []), .pv (.str ⟨#[]⟩), .pv (.int .i64 0), .pv (.int .i64 0), .pv (.int .i64 0), .pv (.sl []), .pv (.sl [])] := ⟨_, _, Tryz.zeroValue32, .inl rfl, rfl⟩
theorem fo32_0 : FieldOf Tryz.prog 32 0 0 := by
  refine ⟨_, _, 0, Tryz.underlying32, rfl, rfl, ?_⟩
  exact Tryz.sizeOf3
theorem fo32_1 : FieldOf Tryz.prog 32 1 1 := by
  refine ⟨_, _, 0, Tryz.underlying32, rfl, rfl, ?_⟩
  exact Tryz.sizeOf9
theorem fo32_2 : FieldOf Tryz.prog 32 2 2 := by
  refine ⟨_, _, 0, Tryz.underlying32, rfl, rfl, ?_⟩
  exact Tryz.sizeOf9
theorem fo32_3 : FieldOf Tryz.prog 32 3 3 := by
  refine ⟨_, _, 0, Tryz.underlying32, rfl, rfl, ?_⟩
  exact Tryz.sizeOf9
theorem fo32_4 : FieldOf Tryz.prog 32 4 4 := by
  refine ⟨_, _, 1, Tryz.underlying32, rfl, rfl, ?_⟩
  exact Tryz.sizeOf26
theorem fo32_5 : FieldOf Tryz.prog 32 5 6 := by
  refine ⟨_, _, 0, Tryz.underlying32, rfl, rfl, ?_⟩
  exact Tryz.sizeOf9
theorem fo32_6 : FieldOf Tryz.prog 32 6 7 := by
  refine ⟨_, _, 0, Tryz.underlying32, rfl, rfl, ?_⟩
  exact Tryz.sizeOf9
theorem fo32_7 : FieldOf Tryz.prog 32 7 8 := by
  refine ⟨_, _, 0, Tryz.underlying32, rfl, rfl, ?_⟩
  exact Tryz.sizeOf27
theorem fo32_8 : FieldOf Tryz.prog 32 8 9 := by
  refine ⟨_, _, 5, Tryz.underlying32, rfl, rfl, ?_⟩
  exact Tryz.sizeOf30
theorem bo32 : BuildOf Tryz.prog 32 [(0, 1), (1, 1), (2, 1), (3, 1), (4, 2), (6, 1), (7, 1), (8, 1), (9, 6)] [.pv (.int .i64 0), .pv (.str ⟨#[]⟩), .pv (.str ⟨#[]⟩), .pv (.str ⟨#[]⟩), .pv (.int .i64 0), .pv (.int .i64 0), .pv (.str ⟨#[]⟩), .pv (.str ⟨#[]⟩), .pv (.sl []), .pv (.str ⟨#[]⟩), .pv (.int .i64 0), .pv (.int .i64 0), .pv (.int .i64 0), .pv (.sl []), .pv (.sl [])] := ⟨_, #[(0, 1), (1, 1), (2, 1), (3, 1), (4, 2), (6, 1), (7, 1), (8, 1), (9, 6)], _, _, Tryz.underlying32, Tryz.zeroValue32, .inl rfl, rfl, fun w => by simp [Tryz.sizeOf3, Tryz.sizeOf9, Tryz.sizeOf26, Tryz.sizeOf27, Tryz.sizeOf30], rfl⟩
theorem so46 : SliceOf Tryz.prog 46 32 15 := ⟨Tryz.underlying46, Tryz.sizeOf32, by decide, _, Tryz.zeroValue32⟩
theorem ei32 : EI Tryz.prog 32 15 216 := EI.mk (z := (Value.agg #[(Value.int IntKind.i64 (0)), (Value.string ⟨#[]⟩), (Value.string ⟨#[]⟩), (Value.string ⟨#[]⟩), (Value.int IntKind.i64 (0)), (Value.int IntKind.i64 (0)), (Value.string ⟨#[]⟩), (Value.string ⟨#[]⟩), (Value.slice none (0) (0)), (Value.string ⟨#[]⟩), (Value.int IntKind.i64 (0)), (Value.int IntKind.i64 (0)), (Value.int IntKind.i64 (0)), (Value.slice none (0) (0)), (Value.slice none (0) (0))])) (by kernel_rfl) rfl (by decide) (by decide)
theorem zo52 : ZeroOf Tryz.prog 52 [.pv (.str ⟨#[]⟩), .pv (.str ⟨#[]⟩)] := ⟨_, _, Tryz.zeroValue52, .inl rfl, rfl⟩
theorem fo52_0 : FieldOf Tryz.prog 52 0 0 := by
  refine ⟨_, _, 0, Tryz.underlying52, rfl, rfl, ?_⟩
  exact Tryz.sizeOf9
theorem fo52_1 : FieldOf Tryz.prog 52 1 1 := by
  refine ⟨_, _, 0, Tryz.underlying52, rfl, rfl, ?_⟩
  exact Tryz.sizeOf9
theorem bo52 : BuildOf Tryz.prog 52 [(0, 1), (1, 1)] [.pv (.str ⟨#[]⟩), .pv (.str ⟨#[]⟩)] := ⟨_, #[(0, 1), (1, 1)], _, _, Tryz.underlying52, Tryz.zeroValue52, .inl rfl, rfl, fun w => by simp [Tryz.sizeOf9], rfl⟩
theorem se52 (a0 b0 : ByteArray) (a1 b1 : ByteArray) (w : World) : (Op.equalIn 10000 52 (.agg [.string a0, .string a1].toArray) (.agg [.string b0, .string b1].toArray)).run Tryz.prog w = .ok (decide (a0 = b0) && decide (a1 = b1)) w := by
  refine (run_equalIn_struct (P := Tryz.prog) w 9999 52 _ _ (by simp [Program.fieldsOf, Tryz.underlying52]) Tryz.stoodInHeld52).trans ?_
  have h9 : ∀ (d : Nat) (a b : ByteArray) (w : World), (Op.equalIn (d + 1) 9 (.string a) (.string b)).run Tryz.prog w = .ok (decide (a = b)) w := fun d a b w => by rw [run_equalIn_string w d 9 a b Tryz.underlying9, list_beq]
  by_cases e0 : a0 = b0 <;> by_cases e1 : a1 = b1 <;> simp [Program.fieldsOf, Tryz.underlying52, Op.eqFields, part, h9, Tryz.isAgg9, e0, e1]
theorem zo59 : ZeroOf Tryz.prog 59 [.pv .nilm] := ⟨_, _, Tryz.zeroValue59, .inl rfl, rfl⟩
theorem so61 : SliceOf Tryz.prog 61 3 1 := ⟨Tryz.underlying61, Tryz.sizeOf3, by decide, _, Tryz.zeroValue3⟩
theorem ei3 : EI Tryz.prog 3 1 8 := EI.mk (z := (Value.int IntKind.i64 (0))) (by kernel_rfl) rfl (by decide) (by decide)
theorem zo63 : ZeroOf Tryz.prog 63 [.pv (.int .i64 0), .pv (.sl [])] := ⟨_, _, Tryz.zeroValue63, .inl rfl, rfl⟩
theorem fo63_0 : FieldOf Tryz.prog 63 0 0 := by
  refine ⟨_, _, 0, Tryz.underlying63, rfl, rfl, ?_⟩
  exact Tryz.sizeOf3
theorem fo63_1 : FieldOf Tryz.prog 63 1 1 := by
  refine ⟨_, _, 0, Tryz.underlying63, rfl, rfl, ?_⟩
  exact Tryz.sizeOf61
theorem bo63 : BuildOf Tryz.prog 63 [(0, 1), (1, 1)] [.pv (.int .i64 0), .pv (.sl [])] := ⟨_, #[(0, 1), (1, 1)], _, _, Tryz.underlying63, Tryz.zeroValue63, .inl rfl, rfl, fun w => by simp [Tryz.sizeOf3, Tryz.sizeOf61], rfl⟩
theorem fo83_0 : FieldOf Tryz.prog 83 0 0 := by
  refine ⟨_, _, 0, Tryz.underlying83, rfl, rfl, ?_⟩
  exact Tryz.sizeOf24
theorem fo83_1 : FieldOf Tryz.prog 83 1 1 := by
  refine ⟨_, _, 0, Tryz.underlying83, rfl, rfl, ?_⟩
  exact Tryz.sizeOf81
theorem bo83 : BuildOf Tryz.prog 83 [(0, 1), (1, 1)] [.pv (.sl []), .pv .nilm] := ⟨_, #[(0, 1), (1, 1)], _, _, Tryz.underlying83, Tryz.zeroValue83, .inl rfl, rfl, fun w => by simp [Tryz.sizeOf24, Tryz.sizeOf81], rfl⟩
theorem so93 : SliceOf Tryz.prog 93 96 4 := ⟨Tryz.underlying93, Tryz.sizeOf96, by decide, _, Tryz.zeroValue96⟩
theorem zo96 : ZeroOf Tryz.prog 96 [.pv (.int .i64 0), .pv (.int .i64 0), .pv .nilfn, .pv .nilfn] := ⟨_, _, Tryz.zeroValue96, .inl rfl, rfl⟩
theorem fo96_0 : FieldOf Tryz.prog 96 0 0 := by
  refine ⟨_, _, 0, Tryz.underlying96, rfl, rfl, ?_⟩
  exact Tryz.sizeOf3
theorem fo96_1 : FieldOf Tryz.prog 96 1 1 := by
  refine ⟨_, _, 0, Tryz.underlying96, rfl, rfl, ?_⟩
  exact Tryz.sizeOf3
theorem fo96_2 : FieldOf Tryz.prog 96 2 2 := by
  refine ⟨_, _, 0, Tryz.underlying96, rfl, rfl, ?_⟩
  exact Tryz.sizeOf39
theorem fo96_3 : FieldOf Tryz.prog 96 3 3 := by
  refine ⟨_, _, 0, Tryz.underlying96, rfl, rfl, ?_⟩
  exact Tryz.sizeOf77
theorem bo96 : BuildOf Tryz.prog 96 [(0, 1), (1, 1), (2, 1), (3, 1)] [.pv (.int .i64 0), .pv (.int .i64 0), .pv .nilfn, .pv .nilfn] := ⟨_, #[(0, 1), (1, 1), (2, 1), (3, 1)], _, _, Tryz.underlying96, Tryz.zeroValue96, .inl rfl, rfl, fun w => by simp [Tryz.sizeOf3, Tryz.sizeOf39, Tryz.sizeOf77], rfl⟩
theorem ao123 : ArrayOf Tryz.prog 123 1 [.pv (.str ⟨#[]⟩), .pv (.str ⟨#[]⟩), .pv (.str ⟨#[]⟩), .pv (.str ⟨#[]⟩)] := ⟨_, _, _, _, Tryz.underlying123, Tryz.zeroValue123, .inl rfl, rfl, Tryz.sizeOf9⟩
theorem zo156 : ZeroOf Tryz.prog 156 [.pv (.str ⟨#[]⟩), .pv (.str ⟨#[]⟩), .pv (.str ⟨#[]⟩), .pv (.str ⟨#[]⟩), .pv (.str ⟨#[]⟩), .pv (.str ⟨#[]⟩)] := ⟨_, _, Tryz.zeroValue156, .inl rfl, rfl⟩
theorem ao156 : ArrayOf Tryz.prog 156 1 [.pv (.str ⟨#[]⟩), .pv (.str ⟨#[]⟩), .pv (.str ⟨#[]⟩), .pv (.str ⟨#[]⟩), .pv (.str ⟨#[]⟩), .pv (.str ⟨#[]⟩)] := ⟨_, _, _, _, Tryz.underlying156, Tryz.zeroValue156, .inl rfl, rfl, Tryz.sizeOf9⟩
theorem ao157 : ArrayOf Tryz.prog 157 1 [.pv (.int .i64 0), .pv (.int .i64 0), .pv (.int .i64 0), .pv (.int .i64 0), .pv (.int .i64 0), .pv (.int .i64 0)] := ⟨_, _, _, _, Tryz.underlying157, Tryz.zeroValue157, .inl rfl, rfl, Tryz.sizeOf3⟩
theorem zo173 : ZeroOf Tryz.prog 173 [.pv (.int .i64 0), .pv (.int .i64 0)] := ⟨_, _, Tryz.zeroValue173, .inl rfl, rfl⟩
theorem fo173_0 : FieldOf Tryz.prog 173 0 0 := by
  refine ⟨_, _, 0, Tryz.underlying173, rfl, rfl, ?_⟩
  exact Tryz.sizeOf3
theorem fo173_1 : FieldOf Tryz.prog 173 1 1 := by
  refine ⟨_, _, 0, Tryz.underlying173, rfl, rfl, ?_⟩
  exact Tryz.sizeOf3
theorem bo173 : BuildOf Tryz.prog 173 [(0, 1), (1, 1)] [.pv (.int .i64 0), .pv (.int .i64 0)] := ⟨_, #[(0, 1), (1, 1)], _, _, Tryz.underlying173, Tryz.zeroValue173, .inl rfl, rfl, fun w => by simp [Tryz.sizeOf3], rfl⟩
theorem so200 : SliceOf Tryz.prog 200 26 2 := ⟨Tryz.underlying200, Tryz.sizeOf26, by decide, _, Tryz.zeroValue26⟩
end Go.Proofs.YtdcifaldfmpapaaGreat
end
section
set_option linter.unusedVariables false
set_option linter.unusedSimpArgs false
namespace Go.Proofs.YtdcifaldfmpapaaGreat
open Go.Abs
theorem follows : Tryz.prog.follows .mixedOrders = true := by kernel_rfl

structure GTag where
  key : ByteArray
  val : ByteArray
structure GObj where
  id : ByteArray
  kind : Int
  x : Int
  y : Int
  refs : List ByteArray
  tags : List GTag
structure GEdit where
  op : Int
  id : ByteArray
  other : ByteArray
  node : ByteArray
  x : Int
  y : Int
  key : ByteArray
  val : ByteArray
  refs : List ByteArray
  obj : GObj
structure GEv where
  kind : Int
  edits : List Int

def encStr (s : ByteArray) : List PV := [.str s]
def encInt (n : Int) : List PV := [.int .i64 n]
def encTag (t : GTag) : List PV := [.str t.key, .str t.val]
def encObj (o : GObj) : List PV := [.str o.id, .int .i64 o.kind, .int .i64 o.x, .int .i64 o.y, .sl (o.refs.map encStr), .sl (o.tags.map encTag)]
def encEdit (e : GEdit) : List PV := [.int .i64 e.op, .str e.id, .str e.other, .str e.node, .int .i64 e.x, .int .i64 e.y, .str e.key, .str e.val, .sl (e.refs.map encStr),
  .str e.obj.id, .int .i64 e.obj.kind, .int .i64 e.obj.x, .int .i64 e.obj.y, .sl (e.obj.refs.map encStr), .sl (e.obj.tags.map encTag)]
def slStrs (l : List ByteArray) : PV := .sl (l.map encStr)
def slTags (l : List GTag) : PV := .sl (l.map encTag)
def slObjs (l : List GObj) : PV := .sl (l.map encObj)
def slEdits (l : List GEdit) : PV := .sl (l.map encEdit)
def slInts (l : List Int) : PV := .sl (l.map encInt)
def zObj : GObj := ⟨⟨#[]⟩, 0, 0, 0, [], []⟩

theorem map_get {α : Type} {f : α → List PV} {l : List α} {k : Nat} {a : α} (h : l[k]? = some a) : (l.map f)[k]? = some (f a) := by rw [List.getElem?_map, h]; rfl
theorem get_of_lt {α : Type} {l : List α} {k : Nat} (h : k < l.length) : ∃ a, l[k]? = some a := ⟨_, List.getElem?_eq_getElem h⟩
theorem fidx_some {α : Type} {p : α → Bool} {l : List α} {k : Nat} {a : α} (h : ∀ j, j < k → ∀ b, l[j]? = some b → p b = false) (hk : l[k]? = some a) (hp : p a = true) : l.findIdx? p = some k := by
  rw [List.findIdx?_eq_some_iff_getElem]
  obtain ⟨hlt, he⟩ := List.getElem?_eq_some_iff.1 hk
  refine ⟨hlt, by rw [he]; exact hp, fun j hj => ?_⟩
  have := h j hj l[j] (List.getElem?_eq_getElem (by omega))
  simp [this]
theorem fidx_none {α : Type} {p : α → Bool} {l : List α} (h : ∀ j, j < l.length → ∀ b, l[j]? = some b → p b = false) : l.findIdx? p = none := by
  rw [List.findIdx?_eq_none_iff]
  intro x hx
  obtain ⟨j, hj⟩ := List.mem_iff_getElem?.1 hx
  exact h j (List.getElem?_eq_some_iff.1 hj).1 x hj
/-- Go's index of a first element. -/
def gidx {α : Type} (p : α → Bool) (l : List α) : Int := match l.findIdx? p with | some i => (i : Int) | none => -1
theorem gidx_any {α : Type} (p : α → Bool) (l : List α) : decide (0 ≤ gidx p l) = l.any p := by
  unfold gidx
  cases h : l.findIdx? p with
  | none =>
    have : l.any p = false := by
      rw [List.findIdx?_eq_none_iff] at h
      rw [List.any_eq_false]
      intro x hx; simp [h x hx]
    simp [this]
  | some i =>
    have : l.any p = true := by
      rw [List.findIdx?_eq_some_iff_getElem] at h
      obtain ⟨h1, h2, _⟩ := h
      exact List.any_eq_true.2 ⟨_, List.getElem_mem h1, h2⟩
    simp [this]
theorem gidx_cases {α : Type} (p : α → Bool) (l : List α) : (gidx p l = -1 ∧ l.find? p = none) ∨ ∃ (k : Nat) (o : α), gidx p l = (k : Int) ∧ l[k]? = some o ∧ l.find? p = some o := by
  cases h : l.findIdx? p with
  | none =>
    left
    refine ⟨by simp [gidx, h], ?_⟩
    rw [List.findIdx?_eq_none_iff] at h
    rw [List.find?_eq_none]
    intro x hx; simp [h x hx]
  | some k =>
    right
    have h' := h
    rw [List.findIdx?_eq_some_iff_getElem] at h
    obtain ⟨h1, h2, h3⟩ := h
    refine ⟨k, l[k], by simp [gidx, h'], List.getElem?_eq_getElem h1, ?_⟩
    rw [List.find?_eq_some_iff_getElem]
    exact ⟨h2, k, h1, rfl, fun j hj => by have := h3 j hj; simpa using this⟩
theorem find_none {α : Type} {p : α → Bool} {l : List α} (h : ∀ j, j < l.length → ∀ b, l[j]? = some b → p b = false) : l.find? p = none := by
  rw [List.find?_eq_none]
  intro x hx
  obtain ⟨j, hj⟩ := List.mem_iff_getElem?.1 hx
  simp [h j (List.getElem?_eq_some_iff.1 hj).1 x hj]
theorem find_some {α : Type} {p : α → Bool} {l : List α} {k : Nat} {a : α} (h : ∀ j, j < k → ∀ b, l[j]? = some b → p b = false) (hk : l[k]? = some a) (hp : p a = true) : l.find? p = some a := by
  obtain ⟨hlt, he⟩ := List.getElem?_eq_some_iff.1 hk
  rw [List.find?_eq_some_iff_getElem]
  refine ⟨hp, k, hlt, he, fun j hj => ?_⟩
  have := h j hj l[j] (List.getElem?_eq_getElem (by omega))
  simpa using this
/-- One more element without the mark. -/
theorem pre_succ {α : Type} {p : α → Bool} {l : List α} {k : Nat} {a : α} (h : ∀ j, j < k → ∀ b, l[j]? = some b → p b = false) (hk : l[k]? = some a) (hp : p a = false) : ∀ j, j < k + 1 → ∀ b, l[j]? = some b → p b = false := by
  intro j hj b hb
  by_cases e : j = k
  · subst e; rw [hk] at hb; cases hb; exact hp
  · exact h j (by omega) b hb
theorem any_none {α : Type} {p : α → Bool} {l : List α} (h : ∀ j, j < l.length → ∀ b, l[j]? = some b → p b = false) : l.any p = false := by
  rw [List.any_eq_false]
  intro x hx
  obtain ⟨j, hj⟩ := List.mem_iff_getElem?.1 hx
  simp [h j (List.getElem?_eq_some_iff.1 hj).1 x hj]
theorem any_some {α : Type} {p : α → Bool} {l : List α} {k : Nat} {a : α} (hk : l[k]? = some a) (hp : p a = true) : l.any p = true := List.any_eq_true.2 ⟨_, List.mem_of_getElem? hk, hp⟩
end Go.Proofs.YtdcifaldfmpapaaGreat
end
