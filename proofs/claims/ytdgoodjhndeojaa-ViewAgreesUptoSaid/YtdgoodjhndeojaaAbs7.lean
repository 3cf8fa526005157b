/-
  THE ABSTRACT LOGIC: literals of structs, arrays and slices; parts of a value; slices that grow; copies; bytes as a string.
  Conditions: each rule's own premises.
-/
import Derived.Test.YtdgoodjhndeojaaAbs6
set_option linter.unusedVariables false
set_option linter.unusedSimpArgs false
namespace Go.Abs

/-- An array of cells and what its cells are. -/
def CRel (w : World) (I : Nat → Prop) (ι : Plc) (H : Heap) (c : Array Value) (l : List AV) : Prop :=
  c.size = l.length ∧ ∀ (j : Nat) (a : AV), l[j]? = some a → ∃ u, c[j]? = some u ∧ u.oneCell' = true ∧ VRel w I ι H u a

theorem fold_set (off : Nat) : ∀ (l : List Value) (k : Nat) (cs : Array Value),
    ((l.zipIdx k).foldl (fun cs p => cs.setIfInBounds (off + p.2) p.1) cs).size = cs.size ∧
    ∀ i, ((l.zipIdx k).foldl (fun cs p => cs.setIfInBounds (off + p.2) p.1) cs)[i]? = if off + k ≤ i ∧ i < off + k + l.length ∧ i < cs.size then l[i - (off + k)]? else cs[i]?
  | [], k, cs => ⟨by simp, fun i => by rw [List.zipIdx_nil, List.foldl_nil, if_neg (by simp only [List.length_nil]; omega)]⟩
  | v :: l, k, cs => by
    obtain ⟨h1, h2⟩ := fold_set off l (k + 1) (cs.setIfInBounds (off + k) v)
    simp only [List.zipIdx_cons, List.foldl_cons]
    refine ⟨by rw [h1]; simp, fun i => ?_⟩
    rw [h2 i]
    simp only [Array.size_setIfInBounds, List.length_cons]
    by_cases c1 : i = off + k
    · subst c1
      by_cases c2 : off + k < cs.size
      · rw [if_neg (by omega), if_pos (by omega)]
        simp [c2]
      · rw [if_neg (by omega), if_neg (by omega)]
        rw [Array.setIfInBounds]
        simp [c2]
    · by_cases c2 : off + k < i ∧ i < off + k + (l.length + 1) ∧ i < cs.size
      · rw [if_pos (by omega), if_pos (by omega)]
        obtain ⟨n, hn⟩ : ∃ n, i - (off + k) = n + 1 := ⟨i - (off + k) - 1, by omega⟩
        rw [hn, List.getElem?_cons_succ]
        congr 1
        omega
      · rw [if_neg (by omega), if_neg (by omega)]
        rw [Array.getElem?_setIfInBounds_ne (by omega)]

def afill (l : List AV) (off : Nat) (vs : List AV) : List AV := l.take off ++ (vs ++ l.drop (off + vs.length))

theorem CRel.fill {w : World} {I : Nat → Prop} {ι : Plc} {H : Heap} {c d : Array Value} {l vs : List AV} {off : Nat} (hc : CRel w I ι H c l) (hd : CRel w I ι H d vs) (hfit : off + vs.length ≤ l.length) :
    CRel w I ι H (d.zipIdx.foldl (fun cs (x, j) => cs.setIfInBounds (off + j) x) c) (afill l off vs) := by
  have hf := fold_set off d.toList 0 c
  have e : d.zipIdx.foldl (fun cs (x, j) => cs.setIfInBounds (off + j) x) c = (d.toList.zipIdx 0).foldl (fun cs p => cs.setIfInBounds (off + p.2) p.1) c := by
    rw [← Array.foldl_toList, Array.toList_zipIdx]
  rw [e]
  obtain ⟨h1, h2⟩ := hf
  refine ⟨by rw [h1, hc.1]; simp [afill]; omega, fun j a ha => ?_⟩
  rw [h2 j]
  simp only [Nat.add_zero, Array.length_toList, hd.1]
  unfold afill at ha
  by_cases c1 : j < off
  · rw [if_neg (by omega)]
    rw [List.getElem?_append_left (by simp; omega), List.getElem?_take, if_pos c1] at ha
    exact hc.2 j a ha
  · by_cases c2 : j < off + vs.length
    · rw [if_pos (by have := hc.1; omega)]
      have hmin : min off l.length = off := by omega
      rw [List.getElem?_append_right (by simp; omega), List.getElem?_append_left (by simp; omega)] at ha
      simp only [List.length_take, hmin] at ha
      obtain ⟨u, q1, q2, q3⟩ := hd.2 (j - off) a ha
      exact ⟨u, by simpa using q1, q2, q3⟩
    · rw [if_neg (by omega)]
      have hmin : min off l.length = off := by omega
      rw [List.getElem?_append_right (by simp; omega), List.getElem?_append_right (by simp; omega), List.getElem?_drop] at ha
      simp only [List.length_take, hmin] at ha
      rw [show off + vs.length + (j - off - vs.length) = j by omega] at ha
      exact hc.2 j a ha

theorem CRel.of_cells {w : World} {I : Nat → Prop} {ι : Plc} {H : Heap} {v : Value} {a : AV} {l : List AV} (hv : VRel w I ι H v a) (h : acl a = some l) : CRel w I ι H v.cells l :=
  let ⟨h1, _, h3⟩ := cells_rel hv h; ⟨h1, h3⟩

/-- The parts of a literal. -/
def aparts (E : Env) : List (Nat × Operand) → Option (List (Nat × AV))
  | [] => some []
  | (i, x) :: r => match aeval E x, aparts E r with
    | some v, some vs => some ((i, v) :: vs)
    | _, _ => none
def afills (place : Nat → Option (Nat × Nat)) (l : List AV) : List (Nat × AV) → Option (List AV)
  | [] => some l
  | (i, a) :: r => match place i, acl a with
    | some (off, size), some vs => if vs.length = size ∧ off + size ≤ l.length then afills place (afill l off vs) r else none
    | _, _ => none

theorem CRel.fills {w : World} {I : Nat → Prop} {ι : Plc} {H : Heap} {E : Env} {a : Act} (he : ERel w I ι H E a) (place : Nat → Option (Nat × Nat)) : ∀ {ps : List (Nat × Operand)} {aps : List (Nat × AV)} {c : Array Value} {l l' : List AV},
    aparts E ps = some aps → CRel w I ι H c l → afills place l aps = some l' → ∃ c', Instr.fill place c (ps.map fun p => (p.1, a.eval p.2)) = some c' ∧ CRel w I ι H c' l' := by
  intro ps
  induction ps with
  | nil =>
    intro aps c l l' h1 h2 h3
    simp [aparts] at h1; subst h1
    simp [afills] at h3; subst h3
    exact ⟨c, rfl, h2⟩
  | cons p r ih =>
    obtain ⟨i, x⟩ := p
    intro aps c l l' h1 h2 h3
    unfold aparts at h1
    split at h1
    · rename_i v vs e1 e2
      cases h1
      unfold afills at h3
      split at h3
      · rename_i off size us e3 e4
        split at h3
        · rename_i hfit
          have hcr := CRel.of_cells (aeval_rel he e1) e4
          have hsz : (a.eval x).cells.size = size := by rw [hcr.1]; exact hfit.1
          have hcl : c.size = l.length := h2.1
          have hnew := CRel.fill (off := off) h2 hcr (by rw [hfit.1]; exact hfit.2)
          obtain ⟨c', k1, k2⟩ := ih e2 hnew h3
          refine ⟨c', ?_, k2⟩
          have hneg : ¬ ((a.eval x).cells.size ≠ size ∨ off + (a.eval x).cells.size > c.size) := by
            have := hfit.2
            omega
          simp only [List.map_cons, Instr.fill, e3]
          rw [if_neg (by simpa using hneg)]
          exact k1
        · cases h3
      · cases h3
    · cases h1

section
variable {P : Program} {N : Nat} {o : Oper} {E : Env} {H : Heap} {T : TypeId} {x y : Operand}

theorem opd_build {parts : Array (Nat × Operand)} {fs : Array Field} {places : Array (Nat × Nat)} {z : Value} {v0 : AV} {l0 l : List AV} {aps : List (Nat × AV)} (ho : o.op = .build T parts) (hS : P.underlying T = some (.struct fs))
    (hz : ∀ w, (zeroValue T).run P w = .ok z w) (hv : ZV z v0) (hl0 : acl v0 = some l0) (hpl : ∀ w, ((fs.mapM fun f => do pure (f.offset, ← sizeOf f.type)) : Sem (Array (Nat × Nat))).run P w = .ok places w)
    (hp : aparts E parts.toList = some aps) (hf : afills (places[·]?) l0 aps = some l) : OpD P N o E H (.agg l) H :=
  .of_run fun a w I ι _ he => by
    have hc0 := CRel.of_cells (ZV.rel (w := w) (I := I) (ι := ι) (H := H) hv) hl0
    obtain ⟨c', h1, h2⟩ := CRel.fills he (places[·]?) hp hc0 hf
    refine ⟨.agg c', ?_, .agg h2.1 (fun j u hu => ?_) (fun j u b hu hb => ?_)⟩
    · have h1' : Instr.fill (places[·]?) z.cells (parts.map fun p => (p.1, a.eval p.2)).toList = some c' := by rw [Array.toList_map]; exact h1
      simp only [execOp, ho, Instr.build, Sem.run_bind, hz, run_underlying hS, hpl, Result.andThen_ok, h1', Sem.run_pure]
    · have hlt : j < l.length := by rw [← h2.1]; exact (Array.getElem?_eq_some_iff.1 hu).1
      obtain ⟨u', q1, q2, _⟩ := h2.2 j _ (List.getElem?_eq_getElem hlt)
      rw [hu] at q1; cases q1; exact q2
    · obtain ⟨u', q1, _, q3⟩ := h2.2 j b hb
      rw [hu] at q1; cases q1; exact q3
theorem opd_build_arr {parts : Array (Nat × Operand)} {n sz : Nat} {e : TypeId} {z : Value} {v0 : AV} {l0 l : List AV} {aps : List (Nat × AV)} (ho : o.op = .build T parts) (hS : P.underlying T = some (.array n e))
    (hz : ∀ w, (zeroValue T).run P w = .ok z w) (hv : ZV z v0) (hl0 : acl v0 = some l0) (hs : ∀ w, (sizeOf e).run P w = .ok sz w)
    (hp : aparts E parts.toList = some aps) (hf : afills (fun i => some (i * sz, sz)) l0 aps = some l) : OpD P N o E H (.agg l) H :=
  .of_run fun a w I ι _ he => by
    have hc0 := CRel.of_cells (ZV.rel (w := w) (I := I) (ι := ι) (H := H) hv) hl0
    obtain ⟨c', h1, h2⟩ := CRel.fills he (fun i => some (i * sz, sz)) hp hc0 hf
    refine ⟨.agg c', ?_, .agg h2.1 (fun j u hu => ?_) (fun j u b hu hb => ?_)⟩
    · have h1' : Instr.fill (fun i => some (i * sz, sz)) z.cells (parts.map fun p => (p.1, a.eval p.2)).toList = some c' := by rw [Array.toList_map]; exact h1
      simp only [execOp, ho, Instr.build, Sem.run_bind, hz, run_underlying hS, hs, Result.andThen_ok, h1', Sem.run_pure]
    · have hlt : j < l.length := by rw [← h2.1]; exact (Array.getElem?_eq_some_iff.1 hu).1
      obtain ⟨u', q1, q2, _⟩ := h2.2 j _ (List.getElem?_eq_getElem hlt)
      rw [hu] at q1; cases q1; exact q2
    · obtain ⟨u', q1, _, q3⟩ := h2.2 j b hb
      rw [hu] at q1; cases q1; exact q3

/-- A field of a value. -/
def FieldV1 (P : Program) (T f off : Nat) : Prop := ∃ fs fd, P.underlying T = some (.struct fs) ∧ fs[f]? = some fd ∧ fd.offset = off ∧ ∀ w, (isAgg fd.type).run P w = .ok false w
def FieldVn (P : Program) (T f off n : Nat) : Prop := ∃ fs fd, P.underlying T = some (.struct fs) ∧ fs[f]? = some fd ∧ fd.offset = off ∧ (∀ w, (isAgg fd.type).run P w = .ok true w) ∧ (∀ w, (sizeOf fd.type).run P w = .ok n w) ∧ 0 < n
theorem opd_field1 {f off : Nat} {l : List AV} {v : AV} (ho : o.op = .field T x f) (hF : FieldV1 P T f off)
    (hx : aeval E x = some (.agg l)) (hv : l[off]? = some v) : OpD P N o E H v H :=
  .of_run fun a w I ι _ he => by
    obtain ⟨fs, fd, hS, hf, hoff, ha⟩ := hF
    subst hoff
    have h := aeval_rel he hx
    generalize hc : a.eval x = c at h
    cases h with
    | @agg us _ hl h1 h2 =>
      have hlt : fd.offset < us.size := by rw [hl]; exact (List.getElem?_eq_some_iff.1 hv).1
      have hu : us[fd.offset]? = some us[fd.offset] := Array.getElem?_eq_getElem hlt
      refine ⟨us[fd.offset], ?_, h2 _ _ v hu hv⟩
      simp only [execOp, ho, hc]
      simp [Instr.field, run_underlying hS, hf, asAgg, part, ha, hu]
theorem opd_fieldn {f n off : Nat} {l l' : List AV} (ho : o.op = .field T x f) (hF : FieldVn P T f off n)
    (hx : aeval E x = some (.agg l)) (hv : (l.drop off).take n = l') (hn : l'.length = n) : OpD P N o E H (.agg l') H :=
  .of_run fun a w I ι _ he => by
    obtain ⟨fs, fd, hS, hf, hoff, ha, hs, hn0⟩ := hF
    subst hoff
    have h := aeval_rel he hx
    generalize hc : a.eval x = c at h
    cases h with
    | @agg us _ hl h1 h2 =>
      have hfit : fd.offset + n ≤ us.size := by
        rw [hl]
        have : ((l.drop fd.offset).take n).length = n := by rw [hv, hn]
        rw [List.length_take, List.length_drop] at this
        omega
      have hget : ∀ j, j < n → (us.extract fd.offset (fd.offset + n))[j]? = us[fd.offset + j]? := by
        intro j hj
        rw [Array.getElem?_extract]
        have : j < min (fd.offset + n) us.size - fd.offset := by omega
        simp [this]
      have hgl : ∀ j, j < n → l'[j]? = l[fd.offset + j]? := by
        intro j hj
        rw [← hv, List.getElem?_take, if_pos hj, List.getElem?_drop]
      have hsz : (us.extract fd.offset (fd.offset + n)).size = n := by simp; omega
      refine ⟨.agg (us.extract fd.offset (fd.offset + n)), ?_, .agg (by rw [hsz, hn]) (fun j u hu => ?_) (fun j u b hu hb => ?_)⟩
      · simp only [execOp, ho, hc]
        simp [Instr.field, run_underlying hS, hf, asAgg, part, ha, hs]
      · have hj : j < n := by rw [← hsz]; exact (Array.getElem?_eq_some_iff.1 hu).1
        rw [hget j hj] at hu
        exact h1 _ u hu
      · have hj : j < n := by rw [← hsz]; exact (Array.getElem?_eq_some_iff.1 hu).1
        rw [hget j hj] at hu
        rw [hgl j hj] at hb
        exact h2 _ u b hu hb

/-! ### slice literals -/
/-- The rows of a literal whose parts stand in order. -/
def arows : Nat → List (Nat × AV) → Option (List (List AV))
  | _, [] => some []
  | k, (i, a) :: r => match Nat.beq i k, acl a, arows (k + 1) r with
    | true, some l, some ls => some (l :: ls)
    | _, _, _ => none
theorem fill_rows {w : World} {I : Nat → Prop} {ι : Plc} {a : Act} (he : ERel w I ι H E a) (sz : Nat) : ∀ {ps : List (Nat × Operand)} {aps : List (Nat × AV)} {rows : List (List AV)} {k : Nat} {c : Array Value},
    aparts E ps = some aps → arows k aps = some rows → (∀ r ∈ rows, r.length = sz) → (k + rows.length) * sz ≤ c.size →
    ∃ c', Instr.fill (fun i => some (i * sz, sz)) c (ps.map fun p => (p.1, a.eval p.2)) = some c' ∧ c'.size = c.size ∧ (∀ i, i < k * sz → c'[i]? = c[i]?) ∧
      ∀ (m : Nat) (r : List AV), rows[m]? = some r → ∀ (j : Nat) (b : AV), r[j]? = some b → ∃ u, c'[(k + m) * sz + j]? = some u ∧ u.oneCell' = true ∧ VRel w I ι H u b := by
  intro ps
  induction ps with
  | nil =>
    intro aps rows k c h1 h2 h3 h4
    simp [aparts] at h1; subst h1
    simp [arows] at h2; subst h2
    exact ⟨c, rfl, rfl, fun _ _ => rfl, by simp⟩
  | cons p r ih =>
    obtain ⟨i, x⟩ := p
    intro aps rows k c h1 h2 h3 h4
    unfold aparts at h1
    split at h1
    · rename_i v vs e1 e2
      cases h1
      unfold arows at h2
      split at h2
      · rename_i l ls e3 e4 e5
        cases h2
        have hik : i = k := Nat.eq_of_beq_eq_true e3
        subst hik
        have hll : l.length = sz := h3 l (by simp)
        have hcr := CRel.of_cells (aeval_rel he e1) e4
        have hlen : (i + (ls.length + 1)) * sz ≤ c.size := by simpa using h4
        have hfit : i * sz + sz ≤ c.size := by
          have : (i + 1) * sz ≤ (i + (ls.length + 1)) * sz := Nat.mul_le_mul_right _ (by omega)
          rw [Nat.add_mul] at this; omega
        obtain ⟨f1, f2⟩ := fold_set (i * sz) (a.eval x).cells.toList 0 c
        have e : (a.eval x).cells.zipIdx.foldl (fun cs (x, j) => cs.setIfInBounds (i * sz + j) x) c = ((a.eval x).cells.toList.zipIdx 0).foldl (fun cs p => cs.setIfInBounds (i * sz + p.2) p.1) c := by
          rw [← Array.foldl_toList, Array.toList_zipIdx]
        rw [← e] at f1 f2
        have hsz : (a.eval x).cells.size = sz := by rw [hcr.1, hll]
        obtain ⟨c', k1, k2, k3, k4⟩ := ih (k := i + 1) (c := (a.eval x).cells.zipIdx.foldl (fun cs (x, j) => cs.setIfInBounds (i * sz + j) x) c) e2 e5 (fun r hr => h3 r (by simp [hr])) (by rw [f1]; rw [show i + 1 + ls.length = i + (ls.length + 1) by omega]; exact hlen)
        refine ⟨c', ?_, k2.trans f1, fun q hq => ?_, fun m r hr j b hb => ?_⟩
        · have hneg : ¬ ((a.eval x).cells.size ≠ sz ∨ i * sz + (a.eval x).cells.size > c.size) := by omega
          simp only [List.map_cons, Instr.fill]
          rw [if_neg (by simpa using hneg)]
          exact k1
        · have hq2 : q < (i + 1) * sz := by rw [Nat.add_mul]; omega
          rw [k3 q hq2, f2 q, if_neg (by omega)]
        · cases m with
          | zero =>
            simp at hr; subst hr
            obtain ⟨u, q1, q2, q3⟩ := hcr.2 j b hb
            have hj : j < sz := by rw [← hll]; exact (List.getElem?_eq_some_iff.1 hb).1
            refine ⟨u, ?_, q2, q3⟩
            have hq2 : (i + 0) * sz + j < (i + 1) * sz := by rw [Nat.add_zero, Nat.add_mul i 1, Nat.one_mul]; omega
            rw [k3 _ hq2, f2, if_pos (by simp; omega)]
            simpa using q1
          | succ m =>
            simp at hr
            obtain ⟨u, q1, q2, q3⟩ := k4 m r hr j b hb
            exact ⟨u, by rw [show i + (m + 1) = i + 1 + m by omega]; exact q1, q2, q3⟩
      · cases h2
    · cases h1

/-- A new block that is only read. -/
theorem Rel.newImm {I : Nat → Prop} {ι : Plc} {w w' : World} {c : Array Value} {t : TypeId} (hr : Rel I ι H w) (hos : w'.os = w.os) (htape : w'.tape = w.tape) (hout : w'.output = w.output) (hw : w'.heap = w.heap.push (.cells c t (0, 0))) :
    Rel (fun b => I b ∨ b = w.heap.size) ι H w' ∧ Step I ι H w (fun b => I b ∨ b = w.heap.size) ι H w' := by
  have holdb : ∀ x, x < w.heap.size → w'.heap[x]? = w.heap[x]? := fun x hx => by rw [hw, Array.getElem?_push, if_neg (Nat.ne_of_lt hx)]
  have hsize : w'.heap.size = w.heap.size + 1 := by rw [hw]; simp
  have hst : Step I ι H w (fun b => I b ∨ b = w.heap.size) ι H w' := by
    refine ⟨hos, htape, hout, by omega, fun a ha => ?_, fun _ h => .inl h, fun b h => ?_, fun _ h => .inl h, fun x hx _ => holdb x hx, fun _ o h => ⟨o, h, Nat.le_refl _, fun _ => ⟨rfl, rfl, fun _ => Nat.le_refl _⟩⟩⟩
    · simp [World.frozen?, holdb a.block ha]
    · rcases h with h | h
      · exact .inl h
      · exact .inr (.inr (by omega))
  refine ⟨⟨fun x hx => ?_, fun j o hj => ?_, hr.inj⟩, hst⟩
  · rcases hx with h | h
    · have := hr.imm x h; omega
    · omega
  · refine (hr.obj j o hj).keep rfl (fun b' cap' e1 hlt => ⟨holdb b' hlt, fun e3 h => ?_⟩) (fun r _ a _ v hv => hv.mono hr hst)
    rcases h with h | h
    · exact e3 h
    · omega

theorem made_size (n : Nat) (zc : Array Value) : ((Array.range n).map (zc[· % zc.size]!)).size = n := by simp

/-- The values of rows that name nothing. -/
theorem opd_buildSlice {e : TypeId} {sz n : Nat} {z : Value} {parts : Array (Nat × Operand)} {aps : List (Nat × AV)} {rows : List (List AV)} {ps : List (List PV)} (ho : o.op = .buildSlice T n parts) (hT : P.underlying T = some (.slice e)) (hs : ∀ w, (sizeOf e).run P w = .ok sz w)
    (hz : ∀ w, (zeroValue e).run P w = .ok z w) (hn : n * sz ≤ 16777216) (hsz : 0 < sz) (hp : aparts E parts.toList = some aps) (hr : arows 0 aps = some rows) (hps : ps.map (·.map AV.pv) = rows) (hlen : ps.length = n) (hrl : ∀ r ∈ ps, r.length = sz) : OpD P N o E H (.pv (.sl ps)) H := by
  intro a w I ι _ _ hrel he K Q hk
  subst hps
  have hf := fun zc : Array Value => fill_rows (c := (Array.range (n * sz)).map (zc[· % zc.size]!)) he sz hp hr (fun r hr => by
    obtain ⟨q, h1, h2⟩ := List.mem_map.1 hr
    rw [← h2]; simpa using hrl q h1) (by rw [made_size]; simp [hlen])
  -- the cells do not hang on the zero
  obtain ⟨c', k1, k2, _, k4⟩ := hf z.cells
  have hsz' : c'.size = n * sz := by rw [k2, made_size]
  have hn' : ¬ (n * sz > 2 ^ 24) := by omega
  have hrun : ∃ c'', (Instr.buildSlice T n (parts.map fun p => (p.1, a.eval p.2))).run P w = .ok (.slice (some ⟨w.heap.size, 0, none⟩) n n) (w.alloc (.cells c'' e)) ∧ c''.size = n * sz ∧
      ∀ (m : Nat) (r : List AV), (ps.map (·.map AV.pv))[m]? = some r → ∀ (j : Nat) (b : AV), r[j]? = some b → ∃ u, c''[m * sz + j]? = some u ∧ u.oneCell' = true ∧ VRel w I ι H u b := by
    by_cases h0 : n * sz = 0
    · obtain ⟨c0, q1, q2, _, q4⟩ := hf #[]
      refine ⟨c0, ?_, by rw [q2, made_size], fun m r h1 j b h2 => by have := q4 m r h1 j b h2; simpa using this⟩
      rw [← Array.toList_map] at q1
      simp only [h0] at q1
      simp only [Instr.buildSlice, Sem.run_bind, run_underlying hT, Result.andThen_ok, hs, Sem.run_ite, hn', if_false, h0, if_true, Sem.run_pure, q1, newRow, run_newObj]
      rfl
    · refine ⟨c', ?_, hsz', fun m r h1 j b h2 => by have := k4 m r h1 j b h2; simpa using this⟩
      rw [← Array.toList_map] at k1
      simp only [Instr.buildSlice, Sem.run_bind, run_underlying hT, Result.andThen_ok, hs, Sem.run_ite, hn', if_false, h0, hz, Sem.run_pure, k1, newRow, run_newObj]
      rfl
  obtain ⟨c2, g1, g2, g3⟩ := hrun
  obtain ⟨m1, m2⟩ := Rel.newImm (c := c2) (t := e) (w' := w.alloc (.cells c2 e)) hrel rfl rfl rfl rfl
  unfold Oper.wp execOp
  simp only [ho, Sem.run_bind, g1, Result.andThen_ok, Sem.run_pure]
  refine hk _ _ _ ι _ _ ⟨rfl, rfl⟩ (.pv ?_) m1 m2
  have hcell : ∀ j, (w.alloc (.cells c2 e)).cell? ⟨w.heap.size, j, none⟩ = c2[j]? := fun j => World.cell?_alloc_new w c2 e j
  have := PRep.sl (w := w.alloc (.cells c2 e)) (I := fun b => I b ∨ b = w.heap.size) w.heap.size 0 n sz ps (fun i k => (c2[i * sz + k]?).getD undef) (.inr rfl) hsz hrl (by omega)
    (fun i r hi k p hk => by
      obtain ⟨u, q1, q2, q3⟩ := g3 i (r.map .pv) (by simp [hi]) k (.pv p) (by simp [hk])
      rw [hcell, Nat.zero_add, q1]; rfl)
    (fun i r hi k p hk => by
      obtain ⟨u, q1, q2, q3⟩ := g3 i (r.map .pv) (by simp [hi]) k (.pv p) (by simp [hk])
      rw [q1]
      exact (q3.mono hrel m2).pv_inv)
  rw [hlen] at this
  exact this

/-- A literal that is one's own: it may be appended to or written. -/
theorem opd_buildSlice_own {e : TypeId} {sz n id : Nat} {z : Value} {parts : Array (Nat × Operand)} {aps : List (Nat × AV)} {rows : List (List AV)} (ho : o.op = .buildSlice T n parts) (hT : P.underlying T = some (.slice e)) (hs : ∀ w, (sizeOf e).run P w = .ok sz w)
    (hz : ∀ w, (zeroValue e).run P w = .ok z w) (hn : n * sz ≤ 16777216) (hsz : 0 < sz) (hp : aparts E parts.toList = some aps) (hr : arows 0 aps = some rows) (hlen : rows.length = n) (hrl : ∀ r ∈ rows, r.length = sz) (hid : H.get id = none) :
    OpD P N o E H (.osl id 0 0 n) ((id, ⟨0, sz, e, rows⟩) :: H) := by
  intro a w I ι _ _ hrel he K Q hk
  have hf := fun zc : Array Value => fill_rows (c := (Array.range (n * sz)).map (zc[· % zc.size]!)) he sz hp hr hrl (by rw [made_size]; simp [hlen])
  have hn' : ¬ (n * sz > 2 ^ 24) := by omega
  have hrun : ∃ c'', (Instr.buildSlice T n (parts.map fun p => (p.1, a.eval p.2))).run P w = .ok (.slice (some ⟨w.heap.size, 0, none⟩) n n) (w.alloc (.cells c'' e)) ∧ c''.size = n * sz ∧
      ∀ (m : Nat) (r : List AV), rows[m]? = some r → ∀ (j : Nat) (b : AV), r[j]? = some b → ∃ u, c''[m * sz + j]? = some u ∧ u.oneCell' = true ∧ VRel w I ι H u b := by
    by_cases h0 : n * sz = 0
    · obtain ⟨c0, q1, q2, _, q4⟩ := hf #[]
      refine ⟨c0, ?_, by rw [q2, made_size], fun m r h1 j b h2 => by have := q4 m r h1 j b h2; simpa using this⟩
      rw [← Array.toList_map] at q1
      simp only [h0] at q1
      simp only [Instr.buildSlice, Sem.run_bind, run_underlying hT, Result.andThen_ok, hs, Sem.run_ite, hn', if_false, h0, if_true, Sem.run_pure, q1, newRow, run_newObj]
      rfl
    · obtain ⟨c', k1, k2, _, k4⟩ := hf z.cells
      refine ⟨c', ?_, by rw [k2, made_size], fun m r h1 j b h2 => by have := k4 m r h1 j b h2; simpa using this⟩
      rw [← Array.toList_map] at k1
      simp only [Instr.buildSlice, Sem.run_bind, run_underlying hT, Result.andThen_ok, hs, Sem.run_ite, hn', if_false, h0, hz, Sem.run_pure, k1, newRow, run_newObj]
      rfl
  obtain ⟨c2, g1, g2, g3⟩ := hrun
  have hmax : n ≤ maxLen := by
    have : n ≤ n * sz := Nat.le_mul_of_pos_right _ hsz
    simp only [maxLen]; omega
  obtain ⟨m1, m2⟩ := Rel.place (H' := (id, ⟨0, sz, e, rows⟩) :: H) (id := id) (cap := n) (ob' := ⟨0, sz, e, rows⟩) (cs' := c2) (w' := w.alloc (.cells c2 e)) hrel rfl rfl rfl rfl (fun o ho => by rw [hid] at ho; cases ho) hsz g2 (by simp [hlen]) hmax hrl g3
    (get_cons_same _ _ _) (fun j hj => get_cons_other _ _ hj)
  unfold Oper.wp execOp
  simp only [ho, Sem.run_bind, g1, Result.andThen_ok, Sem.run_pure]
  exact hk _ _ I _ _ _ ⟨rfl, rfl⟩ (.osl ⟨0, sz, e, rows⟩ (get_cons_same _ _ _) (Nat.le_refl _) rfl fun _ => ⟨hsz, by simp [hlen], .inl ⟨w.heap.size, n, 0, by simp, by simp, fun _ => by simp⟩⟩) m1 m2
end
end Go.Abs
