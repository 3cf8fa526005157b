/-
  THE ABSTRACT LOGIC: memory: loads, stores, new variables, addresses.
  Conditions: each rule's own premises.
-/
import Derived.Test.YtdgoodjhndeojaaAbs3
set_option linter.unusedVariables false
set_option linter.unusedSimpArgs false
namespace Go.Abs

/-- What stands from an address on. -/
def PtrCells (w : World) (I : Nat → Prop) (ι : Plc) (H : Heap) (v : Value) (xs : List AV) : Prop :=
  ∃ b o, v = .pointer (some ⟨b, o, none⟩) ∧ ∀ (j : Nat) (a : AV), xs[j]? = some a → ∃ c, w.cell? ⟨b, o + j, none⟩ = some c ∧ c.oneCell' = true ∧ VRel w I ι H c a

section
variable {w : World} {I : Nat → Prop} {ι : Plc} {H : Heap} {v : Value}

theorem ref_cells {id g i k : Nat} {ob : Ob} {r : List AV} (hr : Rel I ι H w) (h : VRel w I ι H v (.ref id g i k)) (hH : H.get id = some ob) (hg : ob.g = g) (hi : ob.rows[i]? = some r) :
    PtrCells w I ι H v (r.drop k) := by
  obtain ⟨b, cap, h1, h2⟩ := ref_ptr h hH hg
  obtain ⟨_, _, ⟨b', cap', cs, e1, e2, e3, e4, e5, e6, e7⟩ | ⟨e1, _⟩⟩ := (hr.obj id ob hH).cells (ref_sz h hH hg)
  · rw [h1] at e1; cases e1
    refine ⟨b, i * ob.sz + k, h2, fun j a hj => ?_⟩
    rw [List.getElem?_drop] at hj
    obtain ⟨c, c1, c2, c3⟩ := e7 i r hi (k + j) a hj
    refine ⟨c, ?_, c2, c3⟩
    rw [cell_of_row w b _ cs ob.ty (0, 0) e2, Nat.add_assoc]
    exact c1
  · rw [h1] at e1; cases e1

theorem pad_cells {rows : List (List PV)} {i k : Nat} {r : List PV} (h : VRel w I ι H v (.pad rows i k)) (hi : rows[i]? = some r) : PtrCells w I ι H v ((r.drop k).map .pv) := by
  cases h with
  | pad b off cap sz _ hsz hlen cs hb hc hp =>
    refine ⟨b, off + i * sz + k, rfl, fun j a hj => ?_⟩
    rw [List.getElem?_map, List.getElem?_drop] at hj
    cases e : r[k + j]? with
    | none => rw [e] at hj; cases hj
    | some p =>
      rw [e] at hj
      cases hj
      have h1 := hc i r hi (k + j) p e
      have h2 := hp i r hi (k + j) p e
      exact ⟨_, by rw [Nat.add_assoc]; exact h1, h2.oneCell, .pv h2⟩

theorem load1 {P : Program} {T : TypeId} {xs : List AV} {a : AV} (hp : PtrCells w I ι H v xs) (ha : ∀ w, (isAgg T).run P w = .ok false w) (h : xs[0]? = some a) :
    ∃ c, (Instr.loadAt T v).run P w = .ok c w ∧ VRel w I ι H c a := by
  obtain ⟨b, o, rfl, hc⟩ := hp
  obtain ⟨c, h1, _, h3⟩ := hc 0 a h
  refine ⟨c, ?_, h3⟩
  simp only [Nat.add_zero] at h1
  simp [Instr.loadAt, Instr.sureAddr, loadVar, ha, h1]
theorem loadn {P : Program} {T : TypeId} {n : Nat} {xs cs : List AV} (hp : PtrCells w I ι H v xs) (ha : ∀ w, (isAgg T).run P w = .ok true w) (hs : ∀ w, (sizeOf T).run P w = .ok n w) (hcs : xs.take n = cs) (hl : cs.length = n) :
    ∃ c, (Instr.loadAt T v).run P w = .ok c w ∧ VRel w I ι H c (.agg cs) := by
  obtain ⟨b, o, rfl, hc⟩ := hp
  have hex : ∀ j, j < n → ∃ c, w.cell? ⟨b, o + j, none⟩ = some c ∧ c.oneCell' = true ∧ ∀ a, cs[j]? = some a → VRel w I ι H c a := by
    intro j hj
    have hjl : j < cs.length := by omega
    have e : xs[j]? = some cs[j] := by
      have h1 : cs[j]? = some cs[j] := List.getElem?_eq_getElem hjl
      have h2 : (xs.take n)[j]? = some cs[j] := by rw [hcs]; exact h1
      rw [List.getElem?_take, if_pos hj] at h2
      exact h2
    obtain ⟨c, h1, h2, h3⟩ := hc j _ e
    refine ⟨c, h1, h2, fun a ha => ?_⟩
    rw [List.getElem?_eq_getElem hjl] at ha
    cases ha
    exact h3
  let f : Nat → Value := fun j => if h : j < n then (hex j h).choose else undef
  have hf : ∀ j (h : j < n), w.cell? ⟨b, o + j, none⟩ = some (f j) ∧ (f j).oneCell' = true ∧ ∀ a, cs[j]? = some a → VRel w I ι H (f j) a := by
    intro j h
    simp only [f, h, dif_pos]
    exact (hex j h).choose_spec
  let l : List Value := (List.range n).map f
  have hll : l.length = n := by simp [l]
  have hlj : ∀ j u, l[j]? = some u → j < n ∧ u = f j := by
    intro j u hu
    simp only [l, List.getElem?_map] at hu
    by_cases hj : j < n
    · rw [List.getElem?_range hj] at hu
      cases hu
      exact ⟨hj, rfl⟩
    · rw [List.getElem?_eq_none (by simp; omega)] at hu
      cases hu
  have hload : (loadCells ⟨b, o, none⟩ n).run P w = .ok l.toArray w := by
    have := run_loadCells_list (P := P) w ⟨b, o, none⟩ l (fun j u hu => by
      obtain ⟨hj, rfl⟩ := hlj j u hu
      rw [Addr.add_lit]
      exact (hf j hj).1)
    rwa [hll] at this
  refine ⟨.agg l.toArray, by simp [Instr.loadAt, Instr.sureAddr, loadVar, ha, hs, hload], .agg (by simp [hll, hl]) ?_ ?_⟩
  · intro j u hu
    obtain ⟨hj, rfl⟩ := hlj j u (by simpa using hu)
    exact (hf j hj).2.1
  · intro j u a hu hca
    obtain ⟨hj, rfl⟩ := hlj j u (by simpa using hu)
    exact (hf j hj).2.2 a hca
end

section
variable {P : Program} {N : Nat} {o : Oper} {E : Env} {H : Heap} {T : TypeId} {x y : Operand}

theorem opd_load_cells {xs : List AV} {v : AV} (ho : o.op = .load T x)
    (hp : ∀ (a : Act) (w : World) (I : Nat → Prop) (ι : Plc), Rel I ι H w → ERel w I ι H E a → ∃ c, (Instr.loadAt T (a.eval x)).run P w = .ok c w ∧ VRel w I ι H c v) : OpD P N o E H v H :=
  .of_run fun a w I ι hr he => by
    obtain ⟨c, h1, h2⟩ := hp a w I ι hr he
    exact ⟨c, by simp [execOp, ho, h1], h2⟩
theorem opd_load1_ref {id g i k : Nat} {ob : Ob} {r : List AV} {v : AV} (ho : o.op = .load T x) (ha : ∀ w, (isAgg T).run P w = .ok false w) (hx : aeval E x = some (.ref id g i k)) (hH : H.get id = some ob) (hg : ob.g = g)
    (hi : ob.rows[i]? = some r) (hk : r[k]? = some v) : OpD P N o E H v H :=
  opd_load_cells (xs := r.drop k) ho fun a w I ι hr he => load1 (ref_cells hr (aeval_rel he hx) hH hg hi) ha (by simpa using hk)
theorem opd_load1_pad {rows : List (List PV)} {i k : Nat} {r : List PV} {p : PV} (ho : o.op = .load T x) (ha : ∀ w, (isAgg T).run P w = .ok false w) (hx : aeval E x = some (.pad rows i k)) (hi : rows[i]? = some r) (hk : r[k]? = some p) : OpD P N o E H (.pv p) H :=
  opd_load_cells (xs := (r.drop k).map .pv) ho fun a w I ι hr he => load1 (pad_cells (aeval_rel he hx) hi) ha (by simp [hk])
theorem opd_loadn_ref {n id g i k : Nat} {ob : Ob} {r cs : List AV} (ho : o.op = .load T x) (ha : ∀ w, (isAgg T).run P w = .ok true w) (hs : ∀ w, (sizeOf T).run P w = .ok n w) (hx : aeval E x = some (.ref id g i k)) (hH : H.get id = some ob) (hg : ob.g = g)
    (hi : ob.rows[i]? = some r) (hk : (r.drop k).take n = cs) (hl : cs.length = n) : OpD P N o E H (.agg cs) H :=
  opd_load_cells (xs := r.drop k) ho fun a w I ι hr he => loadn (ref_cells hr (aeval_rel he hx) hH hg hi) ha hs hk hl
theorem opd_loadn_pad {n : Nat} {rows : List (List PV)} {i k : Nat} {r : List PV} {cs : List AV} (ho : o.op = .load T x) (ha : ∀ w, (isAgg T).run P w = .ok true w) (hs : ∀ w, (sizeOf T).run P w = .ok n w) (hx : aeval E x = some (.pad rows i k)) (hi : rows[i]? = some r)
    (hk : ((r.drop k).map AV.pv).take n = cs) (hl : cs.length = n) : OpD P N o E H (.agg cs) H :=
  opd_load_cells (xs := (r.drop k).map .pv) ho fun a w I ι hr he => loadn (pad_cells (aeval_rel he hx) hi) ha hs hk hl

/-- A field of a struct: where it lies. -/
def FieldOf (P : Program) (S f off : Nat) : Prop := ∃ fs fd n, P.underlying S = some (.struct fs) ∧ fs[f]? = some fd ∧ fd.offset = off ∧ ∀ w, (sizeOf fd.type).run P w = .ok (n + 1) w
/-- The address of a field. -/
theorem opd_field_ref {S off : TypeId} {id g i k k2 f : Nat} {ob : Ob} (ho : o.op = .fieldAddr S x f) (hF : FieldOf P S f off)
    (hx : aeval E x = some (.ref id g i k)) (hH : H.get id = some ob) (hg : ob.g = g) (hk : k + off = k2) : OpD P N o E H (.ref id g i k2) H :=
  .of_run fun a w I ι hr he => by
    obtain ⟨fs, fd, n, hS, hf, hoff, hs⟩ := hF
    have h := aeval_rel he hx
    generalize hc : a.eval x = c at h
    subst hk hoff
    obtain ⟨b, cap, h1, rfl⟩ := ref_ptr h hH hg
    refine ⟨.pointer (some ⟨b, i * ob.sz + (k + fd.offset), none⟩), ?_, .ref ob hH (by omega) rfl fun _ => ⟨ref_sz h hH hg, b, cap, h1, rfl⟩⟩
    simp only [execOp, ho, hc]
    simp [Instr.fieldAt, run_underlying hS, hf, Instr.sureAddr, fieldPlace, hs, Addr.add_lit, Nat.add_assoc]
theorem opd_field_pad {S off : TypeId} {rows : List (List PV)} {i k k2 f : Nat} (ho : o.op = .fieldAddr S x f) (hF : FieldOf P S f off)
    (hx : aeval E x = some (.pad rows i k)) (hk : k + off = k2) : OpD P N o E H (.pad rows i k2) H :=
  .of_run fun a w I ι hr he => by
    obtain ⟨fs, fd, n, hS, hf, hoff, hs⟩ := hF
    have h := aeval_rel he hx
    generalize hc : a.eval x = c at h
    subst hk hoff
    cases h with
    | pad b off cap sz h0 hsz hlen cs hb hcc hp =>
      refine ⟨.pointer (some ⟨b, off + i * sz + (k + fd.offset), none⟩), ?_, .pad b off cap sz h0 hsz hlen cs hb hcc hp⟩
      simp only [execOp, ho, hc]
      simp [Instr.fieldAt, run_underlying hS, hf, Instr.sureAddr, fieldPlace, hs, Addr.add_lit, Nat.add_assoc]

/-- The address of an element. -/
theorem opd_index_pad {e : TypeId} {rows : List (List PV)} {r : List PV} {kk : IntKind} {n : Int} {m sz : Nat} (ho : o.op = .indexAddr T x y) (hT : P.underlying T = some (.slice e)) (hs : ∀ w, (sizeOf e).run P w = .ok sz w)
    (hx : aeval E x = some (.pv (.sl rows))) (hy : aeval E y = some (.pv (.int kk n))) (h0 : 0 ≤ n) (hm : n.toNat = m) (hi : rows[m]? = some r) (hl : r.length = sz) : OpD P N o E H (.pad rows m 0) H :=
  .of_run fun a w I ι hr he => by
    have h := aeval_rel he hx
    have hn := (aeval_rel he hy).int_inv
    have hlt : m < rows.length := (List.getElem?_eq_some_iff.1 hi).1
    have hmem : r ∈ rows := List.mem_of_getElem? hi
    generalize hc : a.eval x = c at h
    have hp := h.pv_inv
    cases hp with
    | nilsl => simp at hlt
    | empsl a => simp at hlt
    | sl b off cap sz' _ cs hb hsz hlen hcap hcc hpp =>
      have hsz' : sz' = sz := by rw [← hlen r hmem, hl]
      subst hsz'
      refine ⟨.pointer (some ⟨b, off + m * sz' + 0, none⟩), ?_, .pad b off cap sz' (.sl b off cap sz' rows cs hb hsz hlen hcap hcc hpp) hsz hlen cs hb hcc hpp⟩
      simp only [execOp, ho, hc, hn]
      have h1 : n < (rows.length : Int) := by omega
      simp [Instr.indexAt, run_underlying hT, asIntOf, h0, h1, hs, hm, Addr.add_lit]
theorem opd_index_osl {e : TypeId} {kk : IntKind} {n : Int} {m m2 sz id g off len : Nat} {ob : Ob} (ho : o.op = .indexAddr T x y) (hT : P.underlying T = some (.slice e)) (hs : ∀ w, (sizeOf e).run P w = .ok sz w)
    (hx : aeval E x = some (.osl id g off len)) (hH : H.get id = some ob) (hg : ob.g = g) (hsz : ob.sz = sz) (hy : aeval E y = some (.pv (.int kk n))) (h0 : 0 ≤ n) (hm : n.toNat = m) (hi : m < len) (hm2 : off + m = m2) : OpD P N o E H (.ref id g m2 0) H :=
  .of_run fun a w I ι hr he => by
    have h := aeval_rel he hx
    have hn := (aeval_rel he hy).int_inv
    obtain ⟨h1, ⟨b, cap, oo, h2, h3, h4⟩ | ⟨_, _, _, h2⟩⟩ := osl_slice h hH hg
    · have hcap : off < cap := by
        obtain ⟨_, _, ⟨b', cap', cs, e1, e2, e3, e4, e5, e6, e7⟩ | ⟨e1, _⟩⟩ := (hr.obj id ob hH).cells (osl_sz h hH hg)
        · rw [h2] at e1; cases e1; omega
        · rw [h2] at e1; cases e1
      have hoo := h4 (.inl hcap)
      subst hoo hsz hm2
      refine ⟨.pointer (some ⟨b, (off + m) * ob.sz + 0, none⟩), ?_, .ref ob hH (by omega) rfl fun _ => ⟨osl_sz h hH hg, b, cap, h2, rfl⟩⟩
      simp only [execOp, ho, h3, hn]
      have h5 : n < (len : Int) := by omega
      simp [Instr.indexAt, run_underlying hT, asIntOf, h0, h5, hs, hm, Addr.add_lit, Nat.add_mul]
    · omega
theorem opd_index_arr {e : TypeId} {kk : IntKind} {n : Int} {m sz cnt id g i k k2 : Nat} {ob : Ob} (ho : o.op = .indexAddr T x y) (hT : P.underlying T = some (.array cnt e)) (hs : ∀ w, (sizeOf e).run P w = .ok sz w)
    (hx : aeval E x = some (.ref id g i k)) (hH : H.get id = some ob) (hg : ob.g = g) (hy : aeval E y = some (.pv (.int kk n))) (h0 : 0 ≤ n) (hm : n.toNat = m) (hi : m < cnt) (hk : k + m * sz = k2) : OpD P N o E H (.ref id g i k2) H :=
  .of_run fun a w I ι hr he => by
    have h := aeval_rel he hx
    have hn := (aeval_rel he hy).int_inv
    obtain ⟨b, cap, h1, h3⟩ := ref_ptr h hH hg
    subst hk
    refine ⟨.pointer (some ⟨b, i * ob.sz + (k + m * sz), none⟩), ?_, .ref ob hH (by omega) rfl fun _ => ⟨ref_sz h hH hg, b, cap, h1, rfl⟩⟩
    simp only [execOp, ho, h3, hn]
    have h5 : n < (cnt : Int) := by omega
    simp [Instr.indexAt, run_underlying hT, Instr.sureAddr, asIntOf, h0, h5, hs, hm, Addr.add_lit, Nat.add_assoc]

/-- The byte of a string. -/
def byteAt (s : ByteArray) (m : Nat) : Int := ((s.data.toList[m]?).getD 0).toNat
theorem opd_index_str {kk : IntKind} {n : Int} {m : Nat} {s : ByteArray} {r : Int} (ho : o.op = .index T x y) (hT : P.underlying T = some .string) (hx : aeval E x = some (.pv (.str s))) (hy : aeval E y = some (.pv (.int kk n))) (h0 : 0 ≤ n) (hm : n.toNat = m) (hi : m < s.size) (hr : byteAt s m = r) :
    OpD P N o E H (.pv (.int .u8 r)) H :=
  .of_run fun a w I ι _ he => ⟨.int .u8 r, by
    have e1 := (aeval_rel he hx).str_inv
    have e2 := (aeval_rel he hy).int_inv
    have hb : s[m]? = some (s.data.toList[m]'(by simpa using hi)) := by
      rw [getElem?_pos s m hi]; rfl
    have hb2 : byteAt s m = ((s.data.toList[m]'(by simpa using hi)).toNat : Int) := by
      unfold byteAt
      rw [List.getElem?_eq_getElem (by simpa using hi)]
      rfl
    rw [← hr, hb2]
    simp only [execOp, ho, e1, e2]
    simp [Instr.index, run_underlying hT, asIntOf, h0, hm, hb], .pv (.int _ _)⟩

/-! ### slices of slices and strings -/
def bnd (E : Env) : Option Operand → Nat → Option Int
  | none, d => some (d : Int)
  | some x, _ => match aeval E x with
    | some (.pv (.int _ n)) => some n
    | _ => none
theorem bnd_rel {w : World} {I : Nat → Prop} {ι : Plc} {a : Act} {x : Operand} {d : Nat} {n : Int} (he : ERel w I ι H E a) (h : bnd E (some x) d = some n) : ∃ k, a.eval x = .int k n := by
  simp only [bnd] at h
  split at h
  · rename_i k n' e
    cases h
    exact ⟨k, (aeval_rel he e).int_inv⟩
  · cases h
theorem run_bounds {w : World} {I : Nat → Prop} {ι : Plc} {a : Act} {lo hi : Option Operand} {b : Bool} {len cap l h : Nat} (he : ERel w I ι H E a) (hlo : bnd E lo 0 = some (l : Int)) (hhi : bnd E hi len = some (h : Int)) (h1 : l ≤ h) (h2 : h ≤ cap) :
    (Instr.sliceBounds b len cap (lo.map a.eval) (hi.map a.eval) none).run P w = .ok (l, h, cap) w := by
  have hb : ∀ (k : IntKind) (n y : Nat) (c : BoundsCode), n ≤ y → (Instr.sliceBound (.int k n) y c).run P w = .ok n w := fun k n y c hn => by
    have := run_sliceBound (P := P) w k n y c (by omega) (by omega)
    simpa using this
  cases lo with
  | none =>
    have hl : l = 0 := by simp [bnd] at hlo; omega
    subst hl
    cases hi with
    | none =>
      have hh : h = len := by simp [bnd] at hhi; omega
      subst hh
      simp [Instr.sliceBounds]
    | some y =>
      obtain ⟨k, e⟩ := bnd_rel he hhi
      simp [Instr.sliceBounds, e, hb _ _ _ _ h2]
  | some x =>
    obtain ⟨k1, e1⟩ := bnd_rel he hlo
    cases hi with
    | none =>
      have hh : h = len := by simp [bnd] at hhi; omega
      subst hh
      simp [Instr.sliceBounds, e1, hb _ _ _ _ h1]
    | some y =>
      obtain ⟨k2, e2⟩ := bnd_rel he hhi
      simp [Instr.sliceBounds, e1, e2, hb _ _ _ _ h1, hb _ _ _ _ h2]

theorem opd_slice_str {lo hi : Option Operand} {s r : ByteArray} {l h : Nat} (ho : o.op = .slice T x lo hi none) (hT : P.underlying T = some .string) (hx : aeval E x = some (.pv (.str s)))
    (hlo : bnd E lo 0 = some (l : Int)) (hhi : bnd E hi s.size = some (h : Int)) (h1 : l ≤ h) (h2 : h ≤ s.size) (hr : s.extract l h = r) : OpD P N o E H (.pv (.str r)) H :=
  .of_run fun a w I ι _ he => ⟨.string r, by
    have e1 := (aeval_rel he hx).str_inv
    have hb := run_bounds (P := P) (b := false) (len := s.size) (cap := s.size) he hlo hhi h1 h2
    subst hr
    simp only [execOp, ho, e1]
    simp [run_sliceAt_string w T _ _ _ _ hT, Instr.slice, run_underlying hT, hb], .pv (.str _)⟩

theorem PRep.cut {w : World} {I : Nat → Prop} {b off cap sz l h : Nat} {rows : List (List PV)} {cs : Nat → Nat → Value} (hI : I b) (hsz : 0 < sz) (hlen : ∀ r ∈ rows, r.length = sz) (hcap : rows.length ≤ cap)
    (hc : ∀ (i : Nat) (r : List PV), rows[i]? = some r → ∀ (k : Nat) (p : PV), r[k]? = some p → w.cell? ⟨b, off + i * sz + k, none⟩ = some (cs i k))
    (hp : ∀ (i : Nat) (r : List PV), rows[i]? = some r → ∀ (k : Nat) (p : PV), r[k]? = some p → PRep w I (cs i k) p) (h1 : l ≤ h) (h2 : h ≤ rows.length) :
    PRep w I (.slice (some (if cap = l then ⟨b, off, none⟩ else (⟨b, off, none⟩ : Addr).add (l * sz))) (h - l) (cap - l)) (.sl ((rows.take h).drop l)) := by
  have hln : ((rows.take h).drop l).length = h - l := by simp; omega
  have hget : ∀ i r, ((rows.take h).drop l)[i]? = some r → rows[l + i]? = some r := by
    intro i r hr
    rw [List.getElem?_drop, List.getElem?_take] at hr
    split at hr
    · exact hr
    · cases hr
  by_cases e : cap = l
  · have hnil : (rows.take h).drop l = [] := List.eq_nil_of_length_eq_zero (by rw [hln]; omega)
    rw [if_pos e, hnil]
    have h0 : h - l = ([] : List (List PV)).length := by simp; omega
    rw [h0]
    exact .sl b off (cap - l) sz [] cs hI hsz (by simp) (by simp) (by simp) (by simp)
  · rw [if_neg e, Addr.add_lit, ← hln]
    refine .sl b (off + l * sz) (cap - l) sz _ (fun i k => cs (l + i) k) hI hsz (fun r hr => hlen r (List.mem_of_mem_take (List.mem_of_mem_drop hr))) (by rw [hln]; omega) ?_ ?_
    · intro i r hr k p hk
      have := hc (l + i) r (hget i r hr) k p hk
      rw [show off + l * sz + i * sz + k = off + (l + i) * sz + k by rw [Nat.add_mul]; omega]
      exact this
    · intro i r hr k p hk
      exact hp (l + i) r (hget i r hr) k p hk

theorem opd_slice_sl {e : TypeId} {lo hi : Option Operand} {rows rows' : List (List PV)} {l h sz : Nat} (ho : o.op = .slice T x lo hi none) (hT : P.underlying T = some (.slice e)) (hs : ∀ w, (sizeOf e).run P w = .ok sz w) (hx : aeval E x = some (.pv (.sl rows)))
    (hrows : ∀ r ∈ rows, r.length = sz) (hlo : bnd E lo 0 = some (l : Int)) (hhi : bnd E hi rows.length = some (h : Int)) (h1 : l ≤ h) (h2 : h ≤ rows.length) (hr : (rows.take h).drop l = rows') : OpD P N o E H (.pv (.sl rows')) H :=
  .of_run fun a w I ι _ he => by
    have hv := (aeval_rel he hx).pv_inv
    generalize hc : a.eval x = c at hv
    subst hr
    have hTe : P.elem T = e := by simp [Program.elem, hT]
    have hT' : P.underlying T = some (.slice (P.elem T)) := by rw [hTe, hT]
    cases hv with
    | nilsl =>
      have hh : h = 0 := by simpa using h2
      have hl : l = 0 := by omega
      subst hh hl
      have hb := run_bounds (P := P) (b := true) (len := 0) (cap := 0) he hlo hhi h1 (by simp)
      refine ⟨.slice none 0 0, ?_, .pv (by simpa using PRep.nilsl)⟩
      simp only [execOp, ho, hc]
      have := run_slice_any (P := P) w T none 0 0 hT' (lo.map a.eval) (hi.map a.eval) none
      simp [run_sliceAt_slice w T _ _ _ _ hT', this, hb, hTe, hs, sliced]
    | empsl a0 =>
      have hh : h = 0 := by simpa using h2
      have hl : l = 0 := by omega
      subst hh hl
      have hb := run_bounds (P := P) (b := true) (len := 0) (cap := 0) he hlo hhi h1 (by simp)
      refine ⟨.slice (some a0) 0 0, ?_, .pv (by simpa using PRep.empsl a0)⟩
      simp only [execOp, ho, hc]
      have := run_slice_any (P := P) w T (some a0) 0 0 hT' (lo.map a.eval) (hi.map a.eval) none
      simp [run_sliceAt_slice w T _ _ _ _ hT', this, hb, hTe, hs, sliced, Addr.add_zero']
    | sl b off cap sz' _ cs hI hsz hlen hcap hcc hpp =>
      by_cases hne : rows = []
      · subst hne
        have hh : h = 0 := by simpa using h2
        have hl : l = 0 := by omega
        subst hh hl
        have hb := run_bounds (P := P) (b := true) (len := 0) (cap := cap) he hlo hhi h1 (by simp)
        refine ⟨.slice (some ⟨b, off, none⟩) 0 cap, ?_, .pv (by simpa using PRep.sl b off cap sz' [] cs hI hsz (by simp) (by simp) (by simp) (by simp))⟩
        simp only [execOp, ho, hc]
        have := run_slice_any (P := P) w T (some ⟨b, off, none⟩) 0 cap hT' (lo.map a.eval) (hi.map a.eval) none
        simp [run_sliceAt_slice w T _ _ _ _ hT', this, hb, hTe, hs, sliced, Addr.add_zero']
      · have hsz' : sz' = sz := by
          obtain ⟨r, rs, e⟩ := List.exists_cons_of_ne_nil hne
          have hm : r ∈ rows := by rw [e]; simp
          rw [← hlen r hm, hrows r hm]
        subst hsz'
        have hb := run_bounds (P := P) (b := true) (len := rows.length) (cap := cap) he hlo hhi h1 (by omega)
        have hcut := PRep.cut (l := l) (h := h) hI hsz hlen hcap hcc hpp h1 h2
        refine ⟨_, ?_, .pv hcut⟩
        simp only [execOp, ho, hc]
        have := run_slice_any (P := P) w T (some ⟨b, off, none⟩) rows.length cap hT' (lo.map a.eval) (hi.map a.eval) none
        simp only [run_sliceAt_slice w T _ _ _ _ hT', Sem.run_bind, this, Option.map_none, hb, hTe, hs, sliced, Result.andThen_ok, Sem.run_pure]
        by_cases ec : cap = l <;> simp [ec]

theorem opd_slice_osl {e : TypeId} {lo hi : Option Operand} {id g off len off2 len2 l h sz : Nat} {ob : Ob} (ho : o.op = .slice T x lo hi none) (hT : P.underlying T = some (.slice e)) (hs : ∀ w, (sizeOf e).run P w = .ok sz w) (hx : aeval E x = some (.osl id g off len))
    (hH : H.get id = some ob) (hg : ob.g = g) (hsz : ob.sz = sz) (hlo : bnd E lo 0 = some (l : Int)) (hhi : bnd E hi len = some (h : Int)) (h1 : l ≤ h) (h2 : h ≤ len) (ho2 : off + l = off2) (hl2 : h - l = len2) : OpD P N o E H (.osl id g off2 len2) H :=
  .of_run fun a w I ι hr he => by
    have hv := aeval_rel he hx
    obtain ⟨hle, hcase⟩ := osl_slice hv hH hg
    have hTe : P.elem T = e := by simp [Program.elem, hT]
    have hT' : P.underlying T = some (.slice (P.elem T)) := by rw [hTe, hT]
    subst ho2 hl2 hsz
    rcases hcase with ⟨b, cap, oo, h3, h4, h5⟩ | ⟨h3, h4, h5, h6⟩
    · have hcap : off + len ≤ cap := by
        obtain ⟨_, _, ⟨b', cap', cs, e1, e2, e3, e4, e5, e6, e7⟩ | ⟨e1, _⟩⟩ := (hr.obj id ob hH).cells (osl_sz hv hH hg)
        · rw [h3] at e1; cases e1; omega
        · rw [h3] at e1; cases e1
      have hb := run_bounds (P := P) (b := true) (len := len) (cap := cap - off) he hlo hhi h1 (by omega)
      have hrun := run_slice_any (P := P) w T (some ⟨b, oo, none⟩) len (cap - off) hT' (lo.map a.eval) (hi.map a.eval) none
      refine ⟨.slice (some ⟨b, if cap - off = l then oo else oo + l * ob.sz, none⟩) (h - l) (cap - (off + l)), ?_, .osl ob hH (by omega) rfl fun _ => ⟨osl_sz hv hH hg, by omega, .inl ⟨b, cap, _, h3, rfl, fun hlt => ?_⟩⟩⟩
      · simp only [execOp, ho, h4]
        simp only [run_sliceAt_slice w T _ _ _ _ hT', Sem.run_bind, hrun, Option.map_none, hb, hTe, hs, sliced, Result.andThen_ok, Sem.run_pure]
        by_cases ec : cap - off = l
        · simp [ec]; omega
        · simp [ec, Addr.add_lit]; omega
      · by_cases ec : off + l = 0
        · have e0 : off = 0 := by omega
          have e1 : l = 0 := by omega
          subst e0 e1
          rw [h5 (by omega)]
          simp
        · rw [if_neg (by omega), h5 (by omega), Nat.add_mul]
    · subst h5 h6
      have hh : h = 0 := by omega
      have hl : l = 0 := by omega
      subst hh hl
      have hb := run_bounds (P := P) (b := true) (len := 0) (cap := 0) he hlo hhi h1 (by simp)
      have hrun := run_slice_any (P := P) w T none 0 0 hT' (lo.map a.eval) (hi.map a.eval) none
      refine ⟨.slice none 0 0, ?_, .osl ob hH (by omega) rfl fun _ => ⟨osl_sz hv hH hg, by omega, .inr ⟨h3, rfl, rfl, rfl⟩⟩⟩
      simp only [execOp, ho, h4]
      simp [run_sliceAt_slice w T _ _ _ _ hT', hrun, hb, hTe, hs, sliced]
end
end Go.Abs
