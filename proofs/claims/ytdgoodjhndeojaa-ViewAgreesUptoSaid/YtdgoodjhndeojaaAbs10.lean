/-
  THE ABSTRACT LOGIC: the rules in the form in which a walk uses them: facts on types in one piece, heaps by putting in front.
  Conditions: none.
-/
import Derived.Test.YtdgoodjhndeojaaAbs9
set_option linter.unusedVariables false
set_option linter.unusedSimpArgs false
namespace Go.Abs

def ZeroOf (P : Program) (T : TypeId) (cells : List AV) : Prop := ∃ z v, (∀ w, (zeroValue T).run P w = .ok z w) ∧ ZV z v ∧ acl v = some cells
def BuildOf (P : Program) (T : TypeId) (places : List (Nat × Nat)) (l0 : List AV) : Prop :=
  ∃ fs pl z v, P.underlying T = some (.struct fs) ∧ (∀ w, (zeroValue T).run P w = .ok z w) ∧ ZV z v ∧ acl v = some l0 ∧ (∀ w, ((fs.mapM fun f => do pure (f.offset, ← sizeOf f.type)) : Sem (Array (Nat × Nat))).run P w = .ok pl w) ∧ pl.toList = places
def ArrayOf (P : Program) (T : TypeId) (sz : Nat) (l0 : List AV) : Prop :=
  ∃ n e z v, P.underlying T = some (.array n e) ∧ (∀ w, (zeroValue T).run P w = .ok z w) ∧ ZV z v ∧ acl v = some l0 ∧ ∀ w, (sizeOf e).run P w = .ok sz w
def SliceOf (P : Program) (T e sz : TypeId) : Prop := P.underlying T = some (.slice e) ∧ (∀ w, (sizeOf e).run P w = .ok sz w) ∧ 0 < sz ∧ ∃ z, ∀ w, (zeroValue e).run P w = .ok z w
def EI (P : Program) (e : TypeId) (sz bytes : Nat) : Prop := EInfo P e sz bytes ∧ 0 < bytes
theorem EI.mk {P : Program} {e : TypeId} {sz bytes : Nat} {z : Value} (h : (P.info? e).map (fun i => (i.zero, i.size, i.bytes)) = some (some z, sz, bytes)) (hz : z.cells.size = sz) (h0 : 0 < sz) (hb : 0 < bytes) : EI P e sz bytes := by
  refine ⟨?_, hb⟩
  cases hi : P.info? e with
  | none => rw [hi] at h; cases h
  | some i =>
    rw [hi] at h
    simp only [Option.map_some, Option.some.injEq, Prod.mk.injEq] at h
    obtain ⟨h1, h2, h3⟩ := h
    exact ⟨i, z, hi, h1, h2, h3, hz, h0⟩

theorem OpD.congr {P : Program} {N : Nat} {o : Oper} {E : Env} {H H2 H3 : Heap} {v : AV} (h : OpD P N o E H v H2) (he : ∀ j, H3.get j = H2.get j) : OpD P N o E H v H3 := by
  intro a w I ι hd hs hr hE K Q hk
  refine h a w I ι hd hs hr hE K Q ?_
  rintro c w' I' ι' r H' ⟨rfl, rfl⟩ hv hr' hst
  obtain ⟨k2, k3⟩ := hr'.congr he
  exact hk c w' I' ι' _ _ ⟨rfl, rfl⟩ (hv.mono hr' k3) k2 (hst.trans k3)
theorem set_cons (H : Heap) (id : Nat) (o : Ob) : ∀ j, Heap.get ((id, o) :: H) j = (H.set id o).get j := by
  intro j
  by_cases e : j = id
  · subst e; rw [Heap.get_set_same, get_cons_same]
  · rw [Heap.get_set_other _ _ e, get_cons_other _ _ e]

section
variable {P : Program} {N : Nat} {o : Oper} {E : Env} {H : Heap} {T : TypeId} {x y : Operand}

theorem x_alloc {cells : List AV} {id n : Nat} (ho : o.op = .alloc T) (hZ : ZeroOf P T cells) (hn : cells.length = n + 1) (hid : H.get id = none) : OpD P N o E H (.ref id 0 0 0) ((id, ⟨0, n + 1, T, [cells]⟩) :: H) :=
  let ⟨_, _, h1, h2, h3⟩ := hZ; opd_alloc ho h1 h2 h3 hn hid
theorem x_build {parts : Array (Nat × Operand)} {places : List (Nat × Nat)} {l0 l : List AV} {aps : List (Nat × AV)} (ho : o.op = .build T parts) (hB : BuildOf P T places l0) (hp : aparts E parts.toList = some aps) (hf : afills (fun i => places[i]?) l0 aps = some l) :
    OpD P N o E H (.agg l) H := by
  obtain ⟨fs, pl, z, v, h1, h2, h3, h4, h5, h6⟩ := hB
  refine opd_build ho h1 h2 h3 h4 h5 hp ?_
  have : (fun (i : Nat) => pl[i]?) = fun (i : Nat) => places[i]? := by
    funext i; rw [← h6]; simp
  rw [this]; exact hf
theorem x_build_arr {parts : Array (Nat × Operand)} {sz : Nat} {l0 l : List AV} {aps : List (Nat × AV)} (ho : o.op = .build T parts) (hB : ArrayOf P T sz l0) (hp : aparts E parts.toList = some aps) (hf : afills (fun i => some (i * sz, sz)) l0 aps = some l) :
    OpD P N o E H (.agg l) H :=
  let ⟨_, _, _, _, h1, h2, h3, h4, h5⟩ := hB; opd_build_arr ho h1 h2 h3 h4 h5 hp hf
theorem x_buildSlice {e sz n : Nat} {parts : Array (Nat × Operand)} {aps : List (Nat × AV)} {rows : List (List AV)} (ps : List (List PV)) (ho : o.op = .buildSlice T n parts) (hS : SliceOf P T e sz) (hn : Nat.ble (n * sz) 16777216 = true) (hp : aparts E parts.toList = some aps) (hr : arows 0 aps = some rows)
    (hps : ps.map (·.map AV.pv) = rows) (hlen : ps.length = n) (hrl : ∀ r ∈ ps, r.length = sz) : OpD P N o E H (.pv (.sl ps)) H :=
  let ⟨h1, h2, h3, _, h4⟩ := hS; opd_buildSlice ho h1 h2 h4 (Nat.le_of_ble_eq_true hn) h3 hp hr hps hlen hrl
theorem x_buildSlice_own {e sz n id : Nat} {parts : Array (Nat × Operand)} {aps : List (Nat × AV)} {rows : List (List AV)} (ho : o.op = .buildSlice T n parts) (hS : SliceOf P T e sz) (hn : Nat.ble (n * sz) 16777216 = true) (hp : aparts E parts.toList = some aps) (hr : arows 0 aps = some rows)
    (hlen : rows.length = n) (hrl : ∀ r ∈ rows, r.length = sz) (hid : H.get id = none) : OpD P N o E H (.osl id 0 0 n) ((id, ⟨0, sz, e, rows⟩) :: H) :=
  let ⟨h1, h2, h3, _, h4⟩ := hS; opd_buildSlice_own ho h1 h2 h4 (Nat.le_of_ble_eq_true hn) h3 hp hr hlen hrl hid

/-- The whole of a variable is stored. -/
theorem x_store_all {v : AV} {cells r : List AV} {id g n : Nat} {ob : Ob} (ho : o.op = .store T x y) (hs : ∀ w, (sizeOf T).run P w = .ok n w) (hx : aeval E x = some (.ref id g 0 0)) (hy : aeval E y = some v) (hc : acl v = some cells)
    (hn : cells.length = n) (hH : H.get id = some ob) (hg : ob.g = g) (hi : ob.rows = [r]) (hk : r.length = n) : OpD P N o E H .any ((id, ⟨g, ob.sz, ob.ty, [cells]⟩) :: H) := by
  subst hg
  refine OpD.congr (opd_store (r' := cells) ho hx hy hc hs hn hH rfl (by rw [hi]; rfl) (by omega) ?_ rfl) (fun j => ?_)
  · rw [List.take_zero, List.nil_append, List.drop_eq_nil_of_le (by omega), List.append_nil]
  · rw [set_cons]
    simp [hi]
/-- One cell is stored. -/
theorem x_store1 {v : AV} {r r' : List AV} {id g i k : Nat} {ob : Ob} {rows' : List (List AV)} (ho : o.op = .store T x y) (hs : ∀ w, (sizeOf T).run P w = .ok 1 w) (hx : aeval E x = some (.ref id g i k)) (hy : aeval E y = some v) (hc : acl v = some [v])
    (hH : H.get id = some ob) (hg : ob.g = g) (hi : ob.rows[i]? = some r) (hk : k < r.length) (hr' : r.set k v = r') (hrows : ob.rows.set i r' = rows') : OpD P N o E H .any ((id, ⟨g, ob.sz, ob.ty, rows'⟩) :: H) := by
  subst hg hrows
  refine OpD.congr (opd_store (r' := r') ho hx hy hc hs rfl hH rfl hi (by omega) ?_ rfl) (fun j => set_cons _ _ _ j)
  rw [← hr', List.set_eq_take_append_cons_drop, if_pos hk]
  rfl
/-- Some cells are stored. -/
theorem x_store {v : AV} {cells r r' : List AV} {id g i k n : Nat} {ob : Ob} {rows' : List (List AV)} (ho : o.op = .store T x y) (hs : ∀ w, (sizeOf T).run P w = .ok n w) (hx : aeval E x = some (.ref id g i k)) (hy : aeval E y = some v) (hc : acl v = some cells)
    (hn : cells.length = n) (hH : H.get id = some ob) (hg : ob.g = g) (hi : ob.rows[i]? = some r) (hk : k + n ≤ r.length) (hr' : r.take k ++ (cells ++ r.drop (k + n)) = r') (hrows : ob.rows.set i r' = rows') : OpD P N o E H .any ((id, ⟨g, ob.sz, ob.ty, rows'⟩) :: H) := by
  subst hg hrows
  exact OpD.congr (opd_store (r' := r') ho hx hy hc hs hn hH rfl hi hk hr' rfl) (fun j => set_cons _ _ _ j)

theorem small_of {n m bytes : Nat} (hb : 0 < bytes) (h : (n + m) * bytes ≤ 140737488355328) : n + m ≤ 9223372036854775807 := by
  have : n + m ≤ (n + m) * bytes := Nat.le_mul_of_pos_right _ hb
  omega
theorem x_append {e : TypeId} {id g n m k sz bytes : Nat} {ob : Ob} {ps : List (List PV)} {rows' : List (List AV)} (ho : o.op = .call { callee := .builtin .append, args := #[x, y], argTypes := #[T, T] }) (hS : SliceOf P T e sz) (hinf : EI P e sz bytes)
    (hx : aeval E x = some (.osl id g 0 n)) (hH : H.get id = some ob) (hg : ob.g = g) (hosz : ob.sz = sz) (hty : ob.ty = e) (hn : ob.rows.length = n)
    (hy : aeval E y = some (.pv (.sl ps))) (hrl : ∀ r ∈ ps, r.length = sz) (hm : ps.length = m) (hbytes : (n + m) * bytes ≤ 140737488355328) (hk : n + m = k) (hrows : ob.rows ++ ps.map (·.map AV.pv) = rows') :
    OpD P N o E H (.osl id (g + 1) 0 k) ((id, ⟨g + 1, sz, e, rows'⟩) :: H) := by
  subst hk hrows
  exact OpD.congr (opd_append_pv ho hS.1 hinf.1 hx hH hg hosz hty hn hy hrl hm hbytes (small_of hinf.2 hbytes) rfl) (fun j => set_cons _ _ _ j)
theorem x_append_osl {e : TypeId} {id g n m k sz bytes id' g' off' : Nat} {ob ob' : Ob} {rows' : List (List AV)} (ho : o.op = .call { callee := .builtin .append, args := #[x, y], argTypes := #[T, T] }) (hS : SliceOf P T e sz) (hinf : EI P e sz bytes)
    (hx : aeval E x = some (.osl id g 0 n)) (hH : H.get id = some ob) (hg : ob.g = g) (hosz : ob.sz = sz) (hty : ob.ty = e) (hn : ob.rows.length = n)
    (hy : aeval E y = some (.osl id' g' off' m)) (hH' : H.get id' = some ob') (hg' : ob'.g = g') (hsz' : ob'.sz = sz) (hrl : ∀ r ∈ ob'.rows, r.length = sz) (hm : off' + m ≤ ob'.rows.length) (hbytes : (n + m) * bytes ≤ 140737488355328) (hk : n + m = k) (hrows : ob.rows ++ (ob'.rows.drop off').take m = rows') :
    OpD P N o E H (.osl id (g + 1) 0 k) ((id, ⟨g + 1, sz, e, rows'⟩) :: H) := by
  subst hk hrows
  exact OpD.congr (opd_append_osl ho hS.1 hinf.1 hx hH hg hosz hty hn hy hH' hg' hsz' hrl hm hbytes (small_of hinf.2 hbytes) rfl) (fun j => set_cons _ _ _ j)
theorem x_makeSlice {e : TypeId} {id sz bytes l c : Nat} {k1 k2 : IntKind} {n1 n2 : Int} {row : List AV} (ho : o.op = .makeSlice T x y) (hS : SliceOf P T e sz) (hinf : EI P e sz bytes) (hZ : ZeroOf P e row) (hrow : row.length = sz)
    (hx : aeval E x = some (.pv (.int k1 n1))) (hy : aeval E y = some (.pv (.int k2 n2))) (h1 : 0 ≤ n1) (h2 : n1 ≤ n2) (hl : n1.toNat = l) (hc : n2.toNat = c) (hb : bytes * c ≤ 281474976710656) (hid : H.get id = none) :
    OpD P N o E H (.osl id 0 0 l) ((id, ⟨0, sz, e, List.replicate l row⟩) :: H) := by
  obtain ⟨z, v, z1, z2, z3⟩ := hZ
  have hpos : c ≤ bytes * c := Nat.le_mul_of_pos_left _ hinf.2
  exact opd_makeSlice ho hS.1 hinf.1 z1 z2 z3 hrow hx hy h1 h2 hl hc hb (by omega) hid
theorem x_copy_str {D S e : TypeId} {id g off len n : Nat} {ob : Ob} {s : ByteArray} {rows' : List (List AV)} (ho : o.op = .call { callee := .builtin .copy, args := #[x, y], argTypes := #[D, S] }) (hS : SliceOf P D e 1)
    (hx : aeval E x = some (.osl id g off len)) (hH : H.get id = some ob) (hg : ob.g = g) (hsz : ob.sz = 1) (hy : aeval E y = some (.pv (.str s))) (hn : min s.size len = n)
    (hrows : ob.rows.take off ++ (brows (s.data.toList.take n) ++ ob.rows.drop (off + n)) = rows') : OpD P N o E H (.pv (.int .i64 n)) ((id, ⟨g, 1, ob.ty, rows'⟩) :: H) := by
  subst hg hrows
  refine OpD.congr (opd_copy_str ho hS.1 hS.2.1 hx hH rfl hsz hy hn rfl) (fun j => ?_)
  rw [set_cons, ← hsz]
theorem x_index_pad {e : TypeId} {rows : List (List PV)} {r : List PV} {kk : IntKind} {n : Int} {m sz : Nat} (ho : o.op = .indexAddr T x y) (hS : SliceOf P T e sz)
    (hx : aeval E x = some (.pv (.sl rows))) (hy : aeval E y = some (.pv (.int kk n))) (h0 : 0 ≤ n) (hm : n.toNat = m) (hi : rows[m]? = some r) (hl : r.length = sz) : OpD P N o E H (.pad rows m 0) H :=
  opd_index_pad ho hS.1 hS.2.1 hx hy h0 hm hi hl
theorem x_index_osl {e : TypeId} {kk : IntKind} {n : Int} {m m2 sz id g off len : Nat} {ob : Ob} (ho : o.op = .indexAddr T x y) (hS : SliceOf P T e sz)
    (hx : aeval E x = some (.osl id g off len)) (hH : H.get id = some ob) (hg : ob.g = g) (hsz : ob.sz = sz) (hy : aeval E y = some (.pv (.int kk n))) (h0 : 0 ≤ n) (hm : n.toNat = m) (hi : m < len) (hm2 : off + m = m2) : OpD P N o E H (.ref id g m2 0) H :=
  opd_index_osl ho hS.1 hS.2.1 hx hH hg hsz hy h0 hm hi hm2
theorem x_slice_sl {e : TypeId} {lo hi : Option Operand} {rows rows' : List (List PV)} {l h sz : Nat} (ho : o.op = .slice T x lo hi none) (hS : SliceOf P T e sz) (hx : aeval E x = some (.pv (.sl rows)))
    (hrows : ∀ r ∈ rows, r.length = sz) (hlo : bnd E lo 0 = some (l : Int)) (hhi : bnd E hi rows.length = some (h : Int)) (h1 : l ≤ h) (h2 : h ≤ rows.length) (hr : (rows.take h).drop l = rows') : OpD P N o E H (.pv (.sl rows')) H :=
  opd_slice_sl ho hS.1 hS.2.1 hx hrows hlo hhi h1 h2 hr
theorem x_slice_osl {e : TypeId} {lo hi : Option Operand} {id g off len off2 len2 l h sz : Nat} {ob : Ob} (ho : o.op = .slice T x lo hi none) (hS : SliceOf P T e sz) (hx : aeval E x = some (.osl id g off len))
    (hH : H.get id = some ob) (hg : ob.g = g) (hsz : ob.sz = sz) (hlo : bnd E lo 0 = some (l : Int)) (hhi : bnd E hi len = some (h : Int)) (h1 : l ≤ h) (h2 : h ≤ len) (ho2 : off + l = off2) (hl2 : h - l = len2) : OpD P N o E H (.osl id g off2 len2) H :=
  opd_slice_osl ho hS.1 hS.2.1 hx hH hg hsz hlo hhi h1 h2 ho2 hl2
end

section
variable {P : Program} {G0 : Heap} {N : Nat} {E : Env} {H : Heap} {ops : Array Oper} {K : Env → Heap → Prop} {o : Oper} {rest : List Oper}
theorem al_ond {j : Nat} {want b : Bool} {t d : Tmp} {v : AV} {H2 : Heap} (hg : o.guard = some (j, want)) (hj : gslot ops.toList j = some t) (hb : E.get t = some (.pv (.bool b))) (hw : b = want) (hd : o.dst = some d) (hn : Nat.blt d N = true) (h : OpD P N o E H v H2)
    (hk : AL P G0 N ops K rest ((d, v) :: E) H2) : AL P G0 N ops K (o :: rest) E H :=
  al_on hg hj hb hw (by rw [hd]; exact hn) h fun r H' ⟨e1, e2⟩ => by subst e1 e2; rw [hd]; exact hk
theorem opd_pickt {c x y : Operand} {b : Bool} {v : AV} (ho : o.op = .pick c x y) (hc : aeval E c = some (.pv (.bool b))) (hb : b = true) (hv : aeval E x = some v) : OpD P N o E H v H := opd_pick ho hc (by rw [hb]; exact hv)
theorem opd_pickf {c x y : Operand} {b : Bool} {v : AV} (ho : o.op = .pick c x y) (hc : aeval E c = some (.pv (.bool b))) (hb : b = false) (hv : aeval E y = some v) : OpD P N o E H v H := opd_pick ho hc (by rw [hb]; exact hv)
end
section
variable {P : Program} {G0 : Heap} {N : Nat} {E : Env} {H : Heap} {ops : Array Oper} {K : Env → Heap → Prop}
theorem Ent.sub {E' : Env} (h : ∀ k v, E'.get k = some v → E.get k = some v) : Ent G0 E H E' H := by
  intro G hG N a w hs
  obtain ⟨I, ι, hr, hst, he⟩ := hs.rel
  exact ⟨hs.defers, hs.size, I, ι, hr, hst, fun t v ht => he t v (h t v ht)⟩
/-- A test's two ways, its slot read anew. -/
theorem al_split {l : List Oper} {t : Tmp} {b : Bool} (hb : E.get t = some (.pv (.bool b))) (h1 : b = true → AL P G0 N ops K l ((t, .pv (.bool true)) :: E) H) (h2 : b = false → AL P G0 N ops K l ((t, .pv (.bool false)) :: E) H) : AL P G0 N ops K l E H := by
  have key : ∀ c, b = c → AL P G0 N ops K l ((t, .pv (.bool c)) :: E) H → AL P G0 N ops K l E H := by
    rintro c rfl h G hG a w hs
    refine h G hG a w (Ent.sub (G0 := G0) (fun k v hk => ?_) G hG N a w hs)
    by_cases e : t = k
    · subst e
      rw [Env.get_cons_same] at hk
      rw [hb, hk]
    · rwa [Env.get_cons_other _ _ e] at hk
  cases b
  · exact key false rfl (h2 rfl)
  · exact key true rfl (h1 rfl)

/-- The keys of two lists are apart. -/
def disjB (t : Nat) (D E : Env) : Bool := D.all fun p => Nat.beq p.1 t || E.all fun q => !(Nat.beq p.1 q.1)
/-- What a region with tests leaves: one slot's truth; all that stood before. -/
def Merge (n t : Nat) (X : Bool) (E : Env) (H : Heap) (E1 : Env) (H1 : Heap) : Prop := (∃ b, E1.get t = some (.pv (.bool b)) ∧ b = X) ∧ H1 = H ∧ E1.drop n = E ∧ disjB t (E1.take n) E = true
theorem env_app (D E : Env) (k : Nat) : Env.get (D ++ E) k = match D.get k with | some v => some v | none => E.get k := by
  induction D with
  | nil => rfl
  | cons x r ih =>
    obtain ⟨i, v⟩ := x
    cases e : Nat.beq i k with
    | true => simp [Env.get, e]
    | false => simpa [Env.get, e] using ih
theorem Merge.ent {n t : Nat} {X : Bool} {E1 : Env} {H1 : Heap} (h : Merge n t X E H E1 H1) : Ent G0 E1 H1 ((t, .pv (.bool X)) :: E) H := by
  obtain ⟨⟨b, h1, rfl⟩, rfl, h2, h3⟩ := h
  refine Ent.sub fun k v hk => ?_
  by_cases e : t = k
  · subst e
    rw [Env.get_cons_same] at hk
    rw [h1, hk]
  · rw [Env.get_cons_other _ _ e] at hk
    have happ : E1.take n ++ E = E1 := by rw [← h2]; exact List.take_append_drop n E1
    rw [← happ, env_app]
    cases hd : Env.get (E1.take n) k with
    | none => exact hk
    | some u =>
      have m1 := mem_of_get hd
      have m2 := mem_of_get hk
      have h4 := List.all_eq_true.1 h3 _ m1
      simp only [beq_ne (Ne.symm e), Bool.false_or] at h4
      have := List.all_eq_true.1 h4 _ m2
      simp [beq_self] at this
/-- A region with tests: its ways join. -/
theorem awp_mergeR {id n t : Nat} {d : Bool} {X : Bool} {Q : Exit → Env → Heap → Prop} (h : AWp P G0 N (.region id ops d) (fun e E1 H1 => e = .normal ∧ Merge n t X E H E1 H1) E H) (hk : Q .normal ((t, .pv (.bool X)) :: E) H) : AWp P G0 N (.region id ops d) Q E H := by
  intro G hG a w hs
  refine wp_mono (h G hG a w hs) ?_
  rintro e a' w' ⟨E1, H1, ⟨rfl, hm⟩, hs'⟩
  exact ⟨_, _, hk, (hm.ent (G0 := G0)) G hG N a' w' hs'⟩
theorem awp_bool {id n t : Nat} {X : Bool} {Q : Exit → Env → Heap → Prop} (h : AL P G0 N ops (fun E1 H1 => Merge n t X E H E1 H1) ops.toList E H) (hk : Q .normal ((t, .pv (.bool X)) :: E) H) : AWp P G0 N (.region id ops false) Q E H :=
  awp_mergeR (awp_region (Q := fun e E1 H1 => e = .normal ∧ Merge n t X E H E1 H1) (fun G hG a w hs Q' hq => h G hG a w hs Q' (fun E1 H1 a1 w1 hm hs1 => hq E1 H1 a1 w1 ⟨rfl, hm⟩ hs1))) hk
end
section
variable {P : Program} {N : Nat} {ops : List Oper} {o : Oper} {E : Env} {H : Heap} {v : AV} {j : Nat} {t : Tmp} {b : Bool} {r : Rec}
theorem q_on_t (hg : o.guard = some (j, true)) (hj : gslot ops j = some t) (hb : E.get t = some (.pv (.bool b))) (hw : b = true) (h : OpD P N o (restr E (olooks ops o)) H v H) : DStep P N ops o E H ⟨v, none, []⟩ := .qon hg hj hb hw h
theorem q_on_f (hg : o.guard = some (j, false)) (hj : gslot ops j = some t) (hb : E.get t = some (.pv (.bool b))) (hw : b = false) (h : OpD P N o (restr E (olooks ops o)) H v H) : DStep P N ops o E H ⟨v, none, []⟩ := .qon hg hj hb hw h
theorem q_off_t (hg : o.guard = some (j, true)) (hj : gslot ops j = some t) (hb : E.get t = some (.pv (.bool b))) (hw : b = false) : DStep P N ops o E H ⟨.tup [], some [], []⟩ := .qoff hg hj hb (by simp [offB, hw])
theorem q_off_f (hg : o.guard = some (j, false)) (hj : gslot ops j = some t) (hb : E.get t = some (.pv (.bool b))) (hw : b = true) : DStep P N ops o E H ⟨.tup [], some [], []⟩ := .qoff hg hj hb (by simp [offB, hw])
theorem q_off_u {want : Bool} (hg : o.guard = some (j, want)) (hj : gslot ops j = some t) (hb : E.get t = some (.tup [])) : DStep P N ops o E H ⟨.tup [], some [], []⟩ := .qoff hg hj hb rfl
theorem l_on_t (hg : o.guard = some (j, true)) (hj : gslot ops j = some t) (hb : E.get t = some (.pv (.bool b))) (hw : b = true) (h : ∀ H1 : Heap, (∀ id, memR r.R id = true → H1.get id = H.get id) → OpD P N o (restr E (olooks ops o)) H1 r.v (r.W ++ H1)) : DStep P N ops o E H r := .on j true t b hg hj hb hw h
theorem l_on_f (hg : o.guard = some (j, false)) (hj : gslot ops j = some t) (hb : E.get t = some (.pv (.bool b))) (hw : b = false) (h : ∀ H1 : Heap, (∀ id, memR r.R id = true → H1.get id = H.get id) → OpD P N o (restr E (olooks ops o)) H1 r.v (r.W ++ H1)) : DStep P N ops o E H r := .on j false t b hg hj hb hw h
end
/-- A contract that is handed nothing of the heap holds at every heap. -/
theorem ACalls.pure {P : Program} {f : FuncId} {args : List AV} {r0 : AV} (h : ACalls P f args [] (fun r H => r = r0 ∧ H = [])) (hp : ∀ a ∈ args, Clo [] a) (H : Heap) : ACalls P f args H (fun r H' => r = r0 ∧ H' = H) :=
  (h.frame0 hp (fun _ _ hq => hq.2) H).mono fun _ _ ⟨⟨h1, _⟩, h2⟩ => ⟨h1, h2⟩

/-! ### function values -/
/-- A function value is called. -/
def CallsV (P : Program) (fv : AV) (args : List AV) (H : Heap) (Q : AV → Heap → Prop) : Prop :=
  ∃ F caps, (fv = .clo F caps ∨ (fv = .pv (.fn F) ∧ caps = [])) ∧ (∀ (args : Array Value) (w : World), (callFunc F args).run P w = .ok (.enter F args) w) ∧ ACalls P F (args ++ caps) H Q
theorem CallsV.clo {P : Program} {F : FuncId} {caps args : List AV} {H : Heap} {Q : AV → Heap → Prop} (hc : ∀ (args : Array Value) (w : World), (callFunc F args).run P w = .ok (.enter F args) w) (h : ACalls P F (args ++ caps) H Q) : CallsV P (.clo F caps) args H Q := ⟨F, caps, .inl rfl, hc, h⟩
theorem CallsV.fn {P : Program} {F : FuncId} {args : List AV} {H : Heap} {Q : AV → Heap → Prop} (hc : ∀ (args : Array Value) (w : World), (callFunc F args).run P w = .ok (.enter F args) w) (h : ACalls P F args H Q) : CallsV P (.pv (.fn F)) args H Q := ⟨F, [], .inr ⟨rfl, rfl⟩, hc, by simpa using h⟩
theorem opr_callV {P : Program} {N : Nat} {o : Oper} {E : Env} {H : Heap} {Q : AV → Heap → Prop} {f : Operand} {args : Array Operand} {at_ : Array TypeId} {vs : List AV} {fv : AV} (ho : o.op = .call { callee := .value f, args := args, argTypes := at_ }) (hf : aeval E f = some fv)
    (hv : aargs E args.toList = some vs) (h : CallsV P fv vs H Q) : OpR P N o E H Q := by
  obtain ⟨F, caps, hfv, hc, hcall⟩ := h
  rcases hfv with rfl | ⟨rfl, rfl⟩
  · exact opr_call_clo ho hf hc hv hcall
  · exact opr_call ho hf hc hv (by simpa using hcall)

/-! ### states by their slots, the heap as it is -/
def EOk0 (E : Env) : Env → Prop
  | [] => True
  | (t, v) :: r => (∃ v0, E.get t = some v0 ∧ v0 = v) ∧ EOk0 E r
theorem Ent.e0 {G0 : Heap} {E E' : Env} {H : Heap} (h : EOk0 E E') : Ent G0 E H E' H := by
  refine Ent.env ?_
  induction E' with
  | nil => simp
  | cons x r ih =>
    obtain ⟨t, v⟩ := x
    obtain ⟨⟨v0, h1, rfl⟩, h2⟩ := h
    intro p hp
    rcases List.mem_cons.1 hp with e | e
    · subst e; exact h1
    · exact ih h2 p e
theorem Fin.refl {G0 H : Heap} {r : AV} : Fin G0 H r H r := fun _ _ I ι _ _ h1 h2 h3 => ⟨I, ι, h1, h2, h3⟩

/-! ### structs that are compared -/
def fval : AV → Option Value
  | .pv (.int k n) => some (.int k n)
  | .pv (.bool b) => some (.bool b)
  | .pv (.str s) => some (.string s)
  | _ => none
def fvals : List AV → Option (List Value)
  | [] => some []
  | a :: r => match fval a, fvals r with
    | some v, some vs => some (v :: vs)
    | _, _ => none
theorem fval_eq {w : World} {I : Nat → Prop} {ι : Plc} {H : Heap} {c v : Value} {a : AV} (h : VRel w I ι H c a) (hf : fval a = some v) : c = v := by
  unfold fval at hf
  split at hf <;> cases hf
  · exact h.int_inv
  · exact h.bool_inv
  · exact h.str_inv
theorem fvals_eq {w : World} {I : Nat → Prop} {ι : Plc} {H : Heap} {c : Value} {l : List AV} {vs : List Value} (h : VRel w I ι H c (.agg l)) (hf : fvals l = some vs) : c = .agg vs.toArray := by
  cases h with
  | @agg us _ hl h1 h2 =>
    congr 1
    have key : ∀ (l : List AV) (vs us : List Value), us.length = l.length → (∀ (i : Nat) (v : Value) (a : AV), us[i]? = some v → l[i]? = some a → VRel w I ι H v a) → fvals l = some vs → us = vs := by
      intro l
      induction l with
      | nil => intro vs us h1 _ h3; simp [fvals] at h3; subst h3; exact List.eq_nil_of_length_eq_zero h1
      | cons a r ih =>
        intro vs us h1 h2 h3
        unfold fvals at h3
        split at h3
        · rename_i v vs' e1 e2
          cases h3
          cases us with
          | nil => simp at h1
          | cons u us =>
            have hu : u = v := fval_eq (h2 0 u a rfl rfl) e1
            rw [hu, ih vs' us (by simpa using h1) (fun i v a hv ha => h2 (i + 1) v a (by simpa using hv) (by simpa using ha)) e2]
        · cases h3
    have := key l vs us.toList (by simpa using hl) (fun i v a hv ha => h2 i v a (by simpa using hv) ha) hf
    rw [← this]
section
variable {P : Program} {N : Nat} {o : Oper} {E : Env} {H : Heap} {T t' : TypeId} {x y : Operand} {l1 l2 : List AV} {xs ys : List Value} {b : Bool}
theorem opd_aeql (ho : o.op = .binOp .eql T x y t') (hx : aeval E x = some (.agg l1)) (hy : aeval E y = some (.agg l2)) (h1 : fvals l1 = some xs) (h2 : fvals l2 = some ys) (hG : P.eqGuardType P.depth T = false)
    (hE : ∀ w, (Op.equalIn 10000 T (.agg xs.toArray) (.agg ys.toArray)).run P w = .ok b w) : OpD P N o E H (.pv (.bool b)) H :=
  .of_run fun a w I ι _ he => ⟨.bool b, by
    have e1 := fvals_eq (aeval_rel he hx) h1
    have e2 := fvals_eq (aeval_rel he hy) h2
    simp only [execOp, ho, e1, e2, Sem.run_bind, run_eqGuard_agg w _ _ _ _ _ _ hG, Result.andThen_ok, run_eql_struct w, hE, Sem.run_pure], .pv (.bool _)⟩
theorem opd_aneq (ho : o.op = .binOp .neq T x y t') (hx : aeval E x = some (.agg l1)) (hy : aeval E y = some (.agg l2)) (h1 : fvals l1 = some xs) (h2 : fvals l2 = some ys) (hG : P.eqGuardType P.depth T = false)
    (hE : ∀ w, (Op.equalIn 10000 T (.agg xs.toArray) (.agg ys.toArray)).run P w = .ok b w) : OpD P N o E H (.pv (.bool (!b))) H :=
  .of_run fun a w I ι _ he => ⟨.bool (!b), by
    have e1 := fvals_eq (aeval_rel he hx) h1
    have e2 := fvals_eq (aeval_rel he hy) h2
    simp only [execOp, ho, e1, e2, Sem.run_bind, run_eqGuard_agg w _ _ _ _ _ _ hG, Result.andThen_ok, run_neq_struct w, hE, Sem.run_pure], .pv (.bool _)⟩
end

/-! ### numbers that fit -/
theorem w64 {n : Int} (h0 : -9223372036854775808 ≤ n) (h1 : n ≤ 9223372036854775807) : IntKind.i64.wrap n = n := by rw [IntKind.wrap_i64]; omega
theorem wu8 {n : Int} (h0 : 0 ≤ n) (h1 : n ≤ 255) : IntKind.u8.wrap n = n := by
  simp only [IntKind.wrap, IntKind.bits, IntKind.signed]
  simp
  omega
end Go.Abs
