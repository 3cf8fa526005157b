/-
  THE BRIDGE: what an argument reads, as the abstract logic's pure values; and it reads so behind a call that leaves the old blocks. Conditions: types of booleans, integers, strings, slices and structs of such.
  THE BRIDGE, its end: a law whose call answers 'true' in the abstract logic meets its row: it returns true, and each argument reads behind the call as it did. Conditions: the types of the arguments are of pure values.
  THE FACTS ON THE TYPES OF THIS SEAT that the walks use, printed by a program (facts.py). Conditions: none.
  THE DATA OF THE MAP as plain Lean types, and how they lie in cells; plain laws on lists. Conditions: none.
  THE ABSTRACT LOGIC, 16: an object begins anew (nil in the place of a slice; a new variable in the place of an old one); the frame of a call; names of objects changed. Conditions: none.
  THE ABSTRACT LOGIC, 18: maps that are owned: made, asked, written, counted. Conditions: each rule's own premises.
-/
import Derived.Test.YtdgoodjhndeojaaGreatKF1M2
import Derived.Test.YtdgoodjhndeojaaGreatRows
import Derived.OpenShut
import Derived.JoinedCond
import Derived.Carry
import Derived.MapKept
import Derived.Laws.IdiomRangeMap
section
set_option linter.unusedVariables false
namespace Go.Abs
open Go.Proofs.YtdgoodjhndeojaaGreat

theorem bulk_pos {H : Type} (d : DataW H) : 1 ≤ Rows.uptoBulk d := by
  cases d with
  | lit l => cases l <;> simp [Rows.uptoBulk]
  | _ => simp [Rows.uptoBulk]
theorem bulk_mem {H : Type} {d : DataW H} {l : List (DataW H)} (h : d ∈ l) : Rows.uptoBulk d ≤ Rows.uptoBulkAll l := by
  induction l with
  | nil => cases h
  | cons x r ih =>
    simp only [Rows.uptoBulkAll]
    rcases List.mem_cons.1 h with e | e
    · subst e; omega
    · have := ih e; omega
theorem bulk_len {H : Type} (l : List (DataW H)) : l.length ≤ Rows.uptoBulkAll l := by
  induction l with
  | nil => simp
  | cons x r ih => have := bulk_pos x; simp only [Rows.uptoBulkAll, List.length_cons]; omega

/-- The cells of a value and the pure values that they hold. -/
inductive PL (w : World) (I : Nat → Prop) : List Value → List PV → Prop
  | nil : PL w I [] []
  | cons {c : Value} {p : PV} {cs : List Value} {ps : List PV} (h : PRep w I c p) (r : PL w I cs ps) : PL w I (c :: cs) (p :: ps)
theorem PL.length {w : World} {I : Nat → Prop} {cs : List Value} {ps : List PV} (h : PL w I cs ps) : cs.length = ps.length := by
  induction h with
  | nil => rfl
  | cons h r ih => simp [ih]
theorem PL.append {w : World} {I : Nat → Prop} {cs cs' : List Value} {ps ps' : List PV} (h : PL w I cs ps) (h' : PL w I cs' ps') : PL w I (cs ++ cs') (ps ++ ps') := by
  induction h with
  | nil => exact h'
  | cons h r ih => exact .cons h ih
theorem PL.get {w : World} {I : Nat → Prop} {cs : List Value} {ps : List PV} (h : PL w I cs ps) : ∀ (k : Nat) (c : Value) (p : PV), cs[k]? = some c → ps[k]? = some p → PRep w I c p := by
  induction h with
  | nil => intro k c p h; simp at h
  | cons h r ih =>
    intro k c p hc hp
    cases k with
    | zero => cases hc; cases hp; exact h
    | succ k => exact ih k c p hc hp

def contig (P : Program) : Nat → List Field → Nat → Bool
  | o, [], n => Nat.beq o n
  | o, f :: r, n => Nat.beq f.offset o && contig P (o + P.cellsOf f.type) r n
/-- Types of pure values. -/
def pureT (P : Program) : Nat → TypeId → Bool
  | 0, _ => false
  | n + 1, t => match P.underlying t with
    | some .bool => true
    | some (.int _) => true
    | some .string => true
    | some (.slice e) => pureT P n e && Nat.blt 0 (P.cellsOf e)
    | some (.struct fs) => contig P 0 fs.toList (P.cellsOf t) && fs.toList.all fun f => pureT P n f.type
    | _ => false
def ShF (S : TypeId → List PV → Prop) (c : TypeId → Nat) : List Field → List PV → Prop
  | [], ps => ps = []
  | f :: r, ps => ∃ a b, ps = a ++ b ∧ a.length = c f.type ∧ S f.type a ∧ ShF S c r b
/-- The shape of the pure values of a type. -/
def Sh (P : Program) (B : Nat) : Nat → TypeId → List PV → Prop
  | 0, _, _ => False
  | n + 1, t, ps => match P.underlying t with
    | some .bool => ∃ b, ps = [.bool b]
    | some (.int k) => ∃ i, ps = [.int k i] ∧ (Lit.int k i).wf = true
    | some .string => ∃ s, ps = [.str s] ∧ s.size ≤ B
    | some (.slice e) => ∃ rows, ps = [.sl rows] ∧ rows.length ≤ B ∧ ∀ r ∈ rows, r.length = P.cellsOf e ∧ Sh P B n e r
    | some (.struct fs) => ShF (fun t ps => Sh P B n t ps) P.cellsOf fs.toList ps
    | _ => False

theorem mapM_build {α β γ : Type} {g : α → Option β} {R : α → γ → Prop} : ∀ {l : List α} {ys : List β}, l.mapM g = some ys → (∀ a, a ∈ l → ∀ y, g a = some y → y ∈ ys → ∃ c, R a c) → ∃ cs : List γ, cs.length = l.length ∧ ∀ (k : Nat) (a : α) (c : γ), l[k]? = some a → cs[k]? = some c → R a c
  | [], ys, h, hR => ⟨[], rfl, fun k a c h => by simp at h⟩
  | a :: l, ys, h, hR => by
    simp only [List.mapM_cons, Option.pure_def, Option.bind_eq_bind, Option.bind_eq_some_iff, Option.some.injEq] at h
    obtain ⟨y, h1, ys', h2, rfl⟩ := h
    obtain ⟨c, hc⟩ := hR a (by simp) y h1 (by simp)
    obtain ⟨cs, e1, e2⟩ := mapM_build h2 (fun a' ha y' hy hm => hR a' (by simp [ha]) y' hy (by simp [hm]))
    refine ⟨c :: cs, by simp [e1], fun k a' c' h1 h2 => ?_⟩
    cases k with
    | zero => cases h1; cases h2; exact hc
    | succ k => exact e2 k a' c' h1 h2
theorem mapM_length {α β : Type} {g : α → Option β} : ∀ {l : List α} {ys : List β}, l.mapM g = some ys → ys.length = l.length
  | [], ys, h => by simp at h; subst h; rfl
  | a :: l, ys, h => by
    simp only [List.mapM_cons, Option.pure_def, Option.bind_eq_bind, Option.bind_eq_some_iff, Option.some.injEq] at h
    obtain ⟨y, h1, ys', h2, rfl⟩ := h
    simp [mapM_length h2]
theorem mapM_head {α β : Type} {g : α → Option β} {l : List α} {ys : List β} (h : l.mapM g = some ys) {a : α} (ha : a ∈ l) : ∃ y, g a = some y ∧ y ∈ ys := by
  induction l generalizing ys with
  | nil => cases ha
  | cons x l ih =>
    simp only [List.mapM_cons, Option.pure_def, Option.bind_eq_bind, Option.bind_eq_some_iff, Option.some.injEq] at h
    obtain ⟨y, h1, ys', h2, rfl⟩ := h
    rcases List.mem_cons.1 ha with e | e
    · subst e; exact ⟨y, h1, by simp⟩
    · obtain ⟨z, z1, z2⟩ := ih h2 e
      exact ⟨z, z1, by simp [z2]⟩
abbrev Old (W : World) : Nat → Prop := fun b => b < W.heap.size
theorem old_cell {W : World} {a : Addr} {v : Value} (h : W.cell? a = some v) : a.spot = none ∧ Old W a.block := by
  unfold World.cell? at h
  split at h
  · next c t fr e =>
    refine ⟨?_, (Array.getElem?_eq_some_iff.1 e).1⟩
    cases hs : a.spot with
    | none => rfl
    | some k => rw [hs] at h; simp at h
  · cases h
section
variable {H : Type} {enc : TypeId × Value → H} {P : Program} {W : World} {B : Nat}
theorem contig_le {P : Program} : ∀ {fs : List Field} {o n : Nat}, contig P o fs n = true → o ≤ n
  | [], o, n, h => Nat.le_of_eq (Nat.eq_of_beq_eq_true h)
  | f :: fs, o, n, h => by
    simp only [contig, Bool.and_eq_true] at h
    have := contig_le h.2
    omega
/-- The fields of a struct, one after the other. -/
theorem fields_sh {m n : Nat} {cs : List Value} (hn : ∀ (t : TypeId) (cs : List Value) (x : DataW H × List MemPlace), pureT P n t = true → DataW.trod enc P W 0 (fun _ => true) true m t cs = some x → Rows.uptoBulk x.1 ≤ B → ∃ ps, PL W (Old W) cs ps ∧ Sh P B n t ps) :
    ∀ (fs : List Field) (xs : List (DataW H × List MemPlace)) (o : Nat), contig P o fs cs.length = true → (fs.all fun f => pureT P n f.type) = true → xs.length = fs.length →
      (∀ (i : Nat) (f : Field), fs[i]? = some f → DataW.trod enc P W 0 (fun _ => true) true m f.type ((cs.drop f.offset).take (P.cellsOf f.type)) = xs[i]?) → Rows.uptoBulkAll (xs.map (·.1)) ≤ B →
      ∃ ps, PL W (Old W) (cs.drop o) ps ∧ ShF (fun t ps => Sh P B n t ps) P.cellsOf fs ps
  | [], xs, o, hc, _, hl, hx, hb => by
    have : o = cs.length := Nat.eq_of_beq_eq_true hc
    subst this
    exact ⟨[], by rw [List.drop_length]; exact .nil, rfl⟩
  | f :: fs, [], o, hc, _, hl, hx, hb => by simp at hl
  | f :: fs, x :: xs, o, hc, hp, hl, hx, hb => by
    simp only [contig, Bool.and_eq_true] at hc
    have ho : f.offset = o := Nat.eq_of_beq_eq_true hc.1
    simp only [List.all_cons, Bool.and_eq_true] at hp
    simp only [List.map_cons, Rows.uptoBulkAll] at hb
    have h0 := hx 0 f rfl
    simp only [List.getElem?_cons_zero] at h0
    rw [ho] at h0
    obtain ⟨a, a1, a2⟩ := hn f.type _ x hp.1 h0 (by omega)
    obtain ⟨b, b1, b2⟩ := fields_sh hn fs xs (o + P.cellsOf f.type) hc.2 hp.2 (by simpa using hl) (fun i g hg => hx (i + 1) g hg) (by omega)
    have hle := contig_le hc.2
    have hal : a.length = P.cellsOf f.type := by
      rw [← a1.length, List.length_take, List.length_drop]; omega
    refine ⟨a ++ b, ?_, a, b, rfl, hal, a2, b2⟩
    have := a1.append b1
    rwa [← List.drop_drop, List.take_append_drop] at this
/-- WHAT AN ARGUMENT OF SUCH A TYPE HOLDS. -/
theorem trod_sh : ∀ (n : Nat) (t : TypeId), pureT P n t = true → ∀ (m : Nat) (cs : List Value) (x : DataW H × List MemPlace), DataW.trod enc P W 0 (fun _ => true) true m t cs = some x → Rows.uptoBulk x.1 ≤ B → ∃ ps, PL W (Old W) cs ps ∧ Sh P B n t ps
  | 0, t, hp, m, cs, x, h, hb => by cases hp
  | n + 1, t, hp, m, cs, x, h, hb => by
    unfold pureT at hp
    split at hp
    · next ht =>
      obtain ⟨b, rfl, rfl⟩ := DataW.trod_bool ht h
      exact ⟨[.bool b], .cons (.bool b) .nil, by unfold Sh; rw [ht]; exact ⟨b, rfl⟩⟩
    · next k ht =>
      obtain ⟨i, rfl, rfl, hw⟩ := DataW.trod_int ht h
      exact ⟨[.int k i], .cons (.int k i) .nil, by unfold Sh; rw [ht]; exact ⟨i, rfl, hw⟩⟩
    · next ht =>
      obtain ⟨s, rfl, rfl, hs⟩ := DataW.trod_string ht h
      have hsz : s.size ≤ B := by
        have e1 : s.data.toList.length = s.size := Array.length_toList
        simp only [Rows.uptoBulk] at hb
        omega
      exact ⟨[.str s], .cons (.str s) .nil, by unfold Sh; rw [ht]; exact ⟨s, rfl, hsz⟩⟩
    · next e ht =>
      simp only [Bool.and_eq_true, Nat.blt_eq] at hp
      obtain ⟨hpe, hsz⟩ := hp
      rcases DataW.trod_slice ht h with ⟨rfl, rfl⟩ | ⟨a, len, cap, elems, rest, m', rfl, rfl, rfl, _, hlc, hmax, hlen, hel, hre, _⟩
      · exact ⟨[.sl []], .cons .nilsl .nil, by unfold Sh; rw [ht]; exact ⟨[], rfl, by simp, by simp⟩⟩
      · obtain ⟨hrl, hre⟩ := hre rfl
        simp only [Rows.uptoBulk] at hb
        rcases Nat.eq_zero_or_pos cap with hc0 | hcpos
        · have hl0 : len = 0 := by omega
          subst hl0 hc0
          exact ⟨[.sl []], .cons (.empsl a) .nil, by unfold Sh; rw [ht]; exact ⟨[], rfl, by simp, by simp⟩⟩
        · have hcell : ∃ v, W.cell? a = some v := by
            rcases Nat.eq_zero_or_pos len with hl0 | hlp
            · subst hl0
              have h0 := hre 0 (by omega)
              have hr0 := List.getElem?_eq_getElem (l := rest) (i := 0) (by omega)
              rw [hr0, Option.bind_eq_some_iff] at h0
              obtain ⟨c0, q1, _⟩ := h0
              obtain ⟨_, q2, q3⟩ := World.cells?_some q1
              have := q3 0 hsz
              simp only [Nat.add_zero, Nat.zero_mul] at this
              rw [Addr.add_zero', Addr.add_zero', List.getElem?_eq_getElem (by omega)] at this
              exact ⟨_, this⟩
            · have h0 := hel 0 hlp
              have hr0 := List.getElem?_eq_getElem (l := elems) (i := 0) (by omega)
              rw [hr0, Option.bind_eq_some_iff] at h0
              obtain ⟨c0, q1, _⟩ := h0
              obtain ⟨_, q2, q3⟩ := World.cells?_some q1
              have := q3 0 hsz
              simp only [Nat.zero_mul] at this
              rw [Addr.add_zero', Addr.add_zero', List.getElem?_eq_getElem (by omega)] at this
              exact ⟨_, this⟩
          obtain ⟨v0, hv0⟩ := hcell
          obtain ⟨hspot, hold⟩ := old_cell hv0
          obtain ⟨b, off, sp⟩ := a
          simp only at hspot hold
          subst hspot
          have hrow : ∀ i, i < len → ∃ ps : List PV, ∃ ci, W.cells? 0 (Addr.add ⟨b, off, none⟩ (i * P.cellsOf e)) (P.cellsOf e) = some ci ∧ PL W (Old W) ci ps ∧ Sh P B n e ps := by
            intro i hi
            have h0 := hel i hi
            have hr0 := List.getElem?_eq_getElem (l := elems) (i := i) (by omega)
            rw [hr0, Option.bind_eq_some_iff] at h0
            obtain ⟨ci, q1, q2⟩ := h0
            have hbi : Rows.uptoBulk (elems[i]'(by omega)).1 ≤ B := by
              have := bulk_mem (List.mem_map_of_mem (f := fun x : DataW H × List MemPlace => x.1) (List.getElem_mem (l := elems) (n := i) (by omega)))
              omega
            obtain ⟨ps, s1, s2⟩ := trod_sh n e hpe m' ci _ q2 hbi
            exact ⟨ps, ci, q1, s1, s2⟩
          obtain ⟨rows, r1, r2⟩ : ∃ rows : List (List PV), rows.length = len ∧ ∀ i r, rows[i]? = some r → ∃ ci, W.cells? 0 (Addr.add ⟨b, off, none⟩ (i * P.cellsOf e)) (P.cellsOf e) = some ci ∧ PL W (Old W) ci r ∧ Sh P B n e r := by
            refine ⟨(List.range len).map (fun i => if h : i < len then (hrow i h).choose else []), by simp, fun i r hr => ?_⟩
            rw [List.getElem?_map] at hr
            obtain ⟨j, hj, rfl⟩ := Option.map_eq_some_iff.1 hr
            obtain ⟨hlt, hj⟩ := List.getElem?_eq_some_iff.1 hj
            rw [List.getElem_range] at hj
            subst hj
            have hi : i < len := by simpa using hlt
            rw [dif_pos hi]
            exact (hrow i hi).choose_spec
          have hcl : ∀ (i : Nat) (r : List PV), rows[i]? = some r → r.length = P.cellsOf e := fun i r hr => by
            obtain ⟨ci, c1, c2, c3⟩ := r2 i r hr
            rw [← c2.length]
            exact (World.cells?_some c1).2.1
          refine ⟨[.sl rows], .cons ?_ .nil, by
            unfold Sh; rw [ht]
            refine ⟨rows, rfl, ?_, fun r hr => ?_⟩
            · have := bulk_len (elems.map (·.1))
              simp only [List.length_map] at this
              omega
            · obtain ⟨i, hi⟩ := List.mem_iff_getElem?.1 hr
              obtain ⟨ci, c1, c2, c3⟩ := r2 i r hi
              exact ⟨hcl i r hi, c3⟩⟩
          rw [← r1]
          have hcells : ∀ (i : Nat) (r : List PV), rows[i]? = some r → ∀ (k : Nat) (p : PV), r[k]? = some p → ∃ v, W.cell? ⟨b, off + i * P.cellsOf e + k, none⟩ = some v ∧ PRep W (Old W) v p := by
            intro i r hr k p hk
            obtain ⟨ci, c1, c2, c3⟩ := r2 i r hr
            obtain ⟨_, d1, d2⟩ := World.cells?_some c1
            have hkl : k < P.cellsOf e := by rw [← hcl i r hr]; exact (List.getElem?_eq_some_iff.1 hk).1
            have e1 := d2 k hkl
            rw [Addr.add_lit, Addr.add_lit] at e1
            have e2 : ci[k]? = some (ci[k]'(by omega)) := List.getElem?_eq_getElem (by omega)
            exact ⟨_, e1.trans e2, c2.get k _ p e2 hk⟩
          refine PRep.sl b off cap (P.cellsOf e) rows (fun i k => (W.cell? ⟨b, off + i * P.cellsOf e + k, none⟩).getD undef) hold hsz (fun r hr => ?_) (by omega) (fun i r hr k p hk => ?_) (fun i r hr k p hk => ?_)
          · obtain ⟨i, hi⟩ := List.mem_iff_getElem?.1 hr
            exact hcl i r hi
          · obtain ⟨v, v1, v2⟩ := hcells i r hr k p hk
            simp [v1]
          · obtain ⟨v, v1, v2⟩ := hcells i r hr k p hk
            simp [v1, v2]
    · next fs ht =>
      simp only [Bool.and_eq_true] at hp
      obtain ⟨xs, m', rfl, rfl, hl, hxl, hf⟩ := DataW.trod_struct ht h
      simp only [Rows.uptoBulk] at hb
      obtain ⟨ps, p1, p2⟩ := fields_sh (n := n) (m := m') (B := B) (fun t cs x a b c => trod_sh n t a m' cs x b c) fs.toList xs 0 (by rw [hl]; exact hp.1) hp.2 (by simpa using hxl) (fun i f hi => hf i f (by simpa using hi)) (by omega)
      exact ⟨ps, by simpa using p1, by unfold Sh; rw [ht]; exact p2⟩
    · cases hp
end
end Go.Abs
end
section
set_option linter.unusedVariables false
namespace Go.Abs
open Go.Proofs.YtdgoodjhndeojaaGreat Go.ChangeShapes Go.WideShapes Go.ChangeAt Go.RowKit

/-- The argument's abstract value. -/
def argAV (P : Program) (t : TypeId) (ps : List PV) : AV :=
  match P.underlying t with
  | some (.struct _) => .agg (ps.map .pv)
  | _ => match ps with
    | [p] => .pv p
    | _ => .any

section
variable {H : Type} {enc : TypeId × Value → H} {P : Program} {W : World} {B : Nat}

theorem PL.toV {I : Nat → Prop} {ι : Plc} {Hp : Heap} {cs : List Value} {ps : List PV} (h : PL W I cs ps) (i : Nat) (v : Value) (a : AV) (h1 : cs[i]? = some v) (h2 : (ps.map AV.pv)[i]? = some a) : VRel W I ι Hp v a ∧ v.oneCell' = true := by
  rw [List.getElem?_map] at h2
  obtain ⟨p, hp, rfl⟩ := Option.map_eq_some_iff.1 h2
  have := h.get i v p h1 hp
  exact ⟨.pv this, this.oneCell⟩

theorem okOne {n : Nat} {t : TypeId} {v : Value} {base : Nat} (hp : pureT P n t = true) (hval : Value.okWide P W .any base t v) (hno : ∀ fs, P.underlying t = some (.struct fs) → False) : v.cells.toList = [v] := by
  cases n with
  | zero => cases hp
  | succ n =>
    unfold pureT at hp
    unfold Value.okWide at hval
    split at hp
    · next ht => cases v <;> first | rfl | (simp [Cell.okWide, Cell.ok, ht] at hval)
    · next k ht => cases v <;> first | rfl | (simp [Cell.okWide, Cell.ok, ht] at hval)
    · next ht => cases v <;> first | rfl | (simp [Cell.okWide, Cell.ok, ht] at hval)
    · next e ht => cases v <;> first | rfl | (simp [Cell.okWide, Cell.ok, ht] at hval)
    · next fs ht => exact (hno fs ht).elim
    · cases hp
theorem arg_rel {n : Nat} {t : TypeId} {v : Value} {d : DataW H} {p : List MemPlace} {base : Nat} (ι : Plc) (Hp : Heap) (hp : pureT P n t = true) (hval : Value.okWide P W .any base t v) (h : DataW.Trod enc P W 0 (fun _ => true) true t v d p) (hb : Rows.uptoBulk d ≤ B) :
    ∃ ps, Sh P B n t ps ∧ VRel W (Old W) ι Hp v (argAV P t ps) := by
  obtain ⟨m, hm⟩ := h
  obtain ⟨ps, h1, h2⟩ := trod_sh (B := B) n t hp m _ _ hm hb
  refine ⟨ps, h2, ?_⟩
  unfold argAV
  split
  · next fs ht =>
    unfold Value.okWide at hval
    rw [ht] at hval
    obtain ⟨cs, rfl, _, _⟩ := hval
    have hl := h1.length
    simp only [Value.cells, Array.length_toList] at hl
    refine .agg (by simpa using hl) (fun i v hv => ?_) (fun i v a hv ha => ?_)
    · have hlt := (Array.getElem?_eq_some_iff.1 hv).1
      exact (PL.toV (ι := ι) (Hp := Hp) h1 i v (.pv (ps[i]'(by omega))) (by simpa [Value.cells] using hv) (by rw [List.getElem?_map, List.getElem?_eq_getElem (by omega)]; rfl)).2
    · exact (PL.toV h1 i v a (by simpa [Value.cells] using hv) ha).1
  · next hno =>
    split
    · next q =>
      have hone := okOne hp hval (fun fs h => hno fs h)
      rw [hone] at h1
      exact (PL.toV h1 0 _ _ rfl rfl).1
    · exact .any v

def avsOf (P : Program) : List TypeId → List (List PV) → List AV
  | t :: ts, p :: ps => argAV P t p :: avsOf P ts ps
  | _, _ => []
def ShAll (P : Program) (B n : Nat) : List TypeId → List (List PV) → Prop
  | [], [] => True
  | t :: ts, p :: ps => Sh P B n t p ∧ ShAll P B n ts ps
  | _, _ => False
theorem shAll_nil {n : Nat} {pss : List (List PV)} (h : ShAll P B n [] pss) : pss = [] := by
  cases pss with
  | nil => rfl
  | cons p ps => exact h.elim
theorem shAll_cons {n : Nat} {t : TypeId} {ts : List TypeId} {pss : List (List PV)} (h : ShAll P B n (t :: ts) pss) : ∃ p ps, pss = p :: ps ∧ Sh P B n t p ∧ ShAll P B n ts ps := by
  cases pss with
  | nil => exact h.elim
  | cons p ps => exact ⟨p, ps, rfl, h.1, h.2⟩
theorem args_rel {n : Nat} {base : Nat} (ι : Plc) (Hp : Heap) : ∀ {ts : List TypeId} {vs : List Value} {ds : List (DataW H)} {p : List MemPlace}, DataW.TrodAll enc P W 0 (fun _ => true) true ts vs ds p → ts.all (pureT P n) = true →
    (∀ (j : Nat) t v, ts[j]? = some t → vs[j]? = some v → Value.okWide P W .any base t v) → Rows.uptoBulkAll ds ≤ B →
    ∃ pss, ShAll P B n ts pss ∧ vs.length = (avsOf P ts pss).length ∧ ∀ (i : Nat) (v : Value) (a : AV), vs[i]? = some v → (avsOf P ts pss)[i]? = some a → VRel W (Old W) ι Hp v a
  | [], vs, ds, p, h, hp, hv, hb => by
    obtain ⟨rfl, rfl, rfl⟩ := trodAll_nil h
    exact ⟨[], trivial, rfl, fun i v a h => by simp at h⟩
  | t :: ts, vs, ds, p, h, hp, hv, hb => by
    obtain ⟨v, vs', d, ds', p1, p2, rfl, rfl, rfl, h1, h2⟩ := trodAll_cons h
    simp only [List.all_cons, Bool.and_eq_true] at hp
    simp only [Rows.uptoBulkAll] at hb
    obtain ⟨ps, a1, a2⟩ := arg_rel (B := B) ι Hp hp.1 (hv 0 t v rfl rfl) h1 (by omega)
    obtain ⟨pss, b1, b2, b3⟩ := args_rel ι Hp h2 hp.2 (fun j t v h1 h2 => hv (j + 1) t v h1 h2) (by omega)
    refine ⟨ps :: pss, ⟨a1, b1⟩, by simp [avsOf, b2], fun i v a h1 h2 => ?_⟩
    cases i with
    | zero => cases h1; cases h2; exact a2
    | succ i => exact b3 i v a h1 h2

theorem rel_old (ι : Plc) (W : World) : Rel (Old W) ι [] W := ⟨fun _ h => h, fun _ _ h => (by cases h), fun _ _ _ _ _ _ _ h => (by cases h)⟩
theorem below_step {I I' : Nat → Prop} {ι ι' : Plc} {H' : Heap} {w w' : World} (h : Step I ι [] w I' ι' H' w') : Below w.heap.size w w' :=
  ⟨h.os, h.tape, h.output, h.size, fun k hk => h.keep k hk (fun ⟨_, _, _, hx, _⟩ => by cases hx)⟩

theorem args_below (hl : laidOutB P = true) {W' : World} (hb : Below W.heap.size W W') {sp : Nat → Bool} : ∀ {ts : List TypeId} {vs : List Value} {ds : List (DataW H)} {p : List MemPlace}, DataW.TrodAll enc P W 0 (fun _ => true) true ts vs ds p →
    (ts.all fun t => P.readableRec t && Nat.blt t P.types.size) = true → (∀ x ∈ p, x.block < W.heap.size) → (∀ x ∈ p, sp x.block = true) → DataW.TrodAll enc P W' 0 sp true ts vs ds p
  | [], vs, ds, p, h, hp, hlt, hsp => by
    obtain ⟨rfl, rfl, rfl⟩ := trodAll_nil h
    exact trodAll_mk0
  | t :: ts, vs, ds, p, h, hp, hlt, hsp => by
    obtain ⟨v, vs', d, ds', p1, p2, rfl, rfl, rfl, h1, h2⟩ := trodAll_cons h
    simp only [List.all_cons, Bool.and_eq_true, Nat.blt_eq] at hp
    exact trodAll_cons_mk (WideElems.Trod_stays hl hp.1.1 hp.1.2 h1 (fun x hx => hb.same (hlt x (by simp [hx]))) (fun x hx => hsp x (by simp [hx])))
      (args_below hl hb h2 hp.2 (fun x hx => hlt x (by simp [hx])) (fun x hx => hsp x (by simp [hx])))

/-- 'post_of_same', the marks asked of old blocks alone. -/
theorem post_below {f : Func} {s : ChangeSpec} {apart fresh handsOn again : Bool} {W W' : World} {args : Array Value} {v : Value} {ds gs : List (DataW H)} {before pa pv : List MemPlace}
    (hW : DataW.Whole enc P f.params.toList s.vars apart W args.toList ds gs before)
    (hres : ∀ (b : Nat) (sp : Nat → Bool) (hd : Bool), DataW.TrodAll enc P W' b sp hd f.resultTypes.toList (v.resultList f.resultTypes.size) (s.fn H (ds ++ gs)).results [])
    (hargs : ∀ sp : Nat → Bool, (∀ p ∈ before, sp p.block = true) → DataW.TrodAll enc P W' 0 sp true f.params.toList args.toList (s.fn H (ds ++ gs)).args pa)
    (hvars : ∀ sp : Nat → Bool, (∀ p ∈ before, sp p.block = true) → DataW.TrodVars enc P W' sp s.vars (s.fn H (ds ++ gs)).vars pv)
    (hps : before = pa ++ pv) (hb : Below W.heap.size W W')
    (hok : ∀ (j : Nat) (t : TypeId) (r : Value), f.resultTypes[j]? = some t → (v.resultList f.resultTypes.size)[j]? = some r → Value.okWide P W' .any 0 t r) :
    s.post enc P f apart fresh handsOn again W args v W' := by
  have hlt : ∀ p ∈ before, p.block < W.heap.size := fun p hp => hW.lt p hp
  have hold : ∀ p ∈ before, (fun b => decide (b < W.heap.size)) p.block = true := fun p hp => by simpa using hlt p hp
  refine ⟨ds, gs, before, [], pa, pv, hW, hres _ _ _, hargs _ hold, hvars _ hold, World.keptBut_mono (fun p hp => ⟨hp, ?_⟩) (hb.frame (· ∈ before)), fun _ => ?_⟩
  · rw [hps, List.mem_append] at hp
    exact Or.inr hp
  · obtain ⟨_, _, _, _, _, hz, hn⟩ := hW
    refine ⟨hok, _, _, ([] ++ pa) ++ pv, ⟨[] ++ pa, pv, trodAll_append (hargs _ (fun _ _ => rfl)) (hres _ _ _), hvars _ (fun _ _ => rfl), rfl, ?_, ?_⟩, ?_⟩
    · intro b off hp
      have hin : MemPlace.cell b off ∈ before := by rw [hps]; simpa using hp
      rw [hb.frozen (hlt _ hin)]
      exact hz b off hin
    · intro ha
      have := hn ha
      rw [hps] at this
      simpa using this
    · intro p hp _
      rw [hps]
      simpa using hp

/-- A LAW THAT ANSWERS true IN THE ABSTRACT LOGIC MEETS ITS ROW. -/
theorem law_true {n : Nat} {fid : FuncId} {f : Func} {s : ChangeSpec} {apart fresh handsOn again : Bool} {args : Array Value} {ds gs : List (DataW H)} {before : List MemPlace} {base : Nat} {bt : TypeId}
    (hl : laidOutB P = true) (hpar : (f.params.toList.all fun t => P.readableRec t && Nat.blt t P.types.size) = true) (hpure : f.params.toList.all (pureT P n) = true) (hvars : s.vars = [])
    (hfn : ∀ ds : List (DataW H), ds.length = f.params.toList.length → (s.fn H ds).results = [.lit (.bool true)] ∧ (s.fn H ds).args = ds ∧ (s.fn H ds).vars = [])
    (hres : f.resultTypes = #[bt]) (hbt : P.underlying bt = some .bool)
    (hval : ∀ (j : Nat) t v, f.params[j]? = some t → args[j]? = some v → Value.okWide P W .any base t v)
    (hW : DataW.Whole enc P f.params.toList s.vars apart W args.toList ds gs before) (hB : Rows.uptoBulkAll ds ≤ B)
    (hc : ∀ pss, ShAll P B n f.params.toList pss → ACalls P fid (avsOf P f.params.toList pss) [] (fun r H' => r = .pv (.bool true) ∧ H' = [])) :
    Calls P fid args W fun e W' => ∃ v, e = .returned v ∧ s.post enc P f apart fresh handsOn again W args v W' := by
  have hW' := hW
  obtain ⟨p, q, hA, hV, rfl, hfz, hnd⟩ := hW
  rw [hvars] at hV
  obtain ⟨rfl, rfl⟩ := trodVars_none hV
  obtain ⟨pss, h1, h2, h3⟩ := args_rel (B := B) (base := base) (fun _ => none) [] hA hpure (fun j t v ht hv => hval j t v (by simpa using ht) (by simpa using hv)) hB
  have hlen : ds.length = f.params.toList.length := by
    clear h1 h2 h3 hc hfn hpar hpure hval hW' hB hfz hnd
    revert hA
    generalize f.params.toList = ts
    generalize args.toList = vs
    intro hA
    clear hV
    induction ts generalizing vs ds p with
    | nil => obtain ⟨_, rfl, _⟩ := trodAll_nil hA; rfl
    | cons t ts ih =>
      obtain ⟨v, vs', d, ds', p1, p2, _, rfl, _, _, h2⟩ := trodAll_cons hA
      simp [ih _ _ h2]
  refine (hc pss h1 (Old W) (fun _ => none) W args (rel_old _ W) (by simpa using h2) (fun i v a ha hb => h3 i v a (by simpa using ha) hb)).mono ?_
  rintro e W' ⟨r, H', I', ι', v, rfl, ⟨rfl, rfl⟩, hv, hr, hst⟩
  have hvb : v = .bool true := hv.bool_inv
  subst hvb
  have hbel := below_step hst
  obtain ⟨f1, f2, f3⟩ := hfn (ds ++ []) (by simpa using hlen)
  refine ⟨_, rfl, post_below (pa := p) (pv := []) hW' (fun b sp hd => ?_) (fun sp hsp => ?_) (fun sp hsp => ?_) rfl hbel (ok_one hres rfl (okWide_bool_mk hbt _))⟩
  · rw [f1, hres]
    exact trodAll_cons_mk (shut_bool hbt _) trodAll_mk0
  · rw [f2, List.append_nil]
    exact args_below hl hbel hA hpar (fun x hx => hW'.lt x (by simp [hx])) (fun x hx => hsp x (by simp [hx]))
  · rw [f3, hvars]; rfl

/-! ### shapes, taken apart -/
theorem sh_int {n : Nat} {t : TypeId} {k : IntKind} {ps : List PV} (ht : P.underlying t = some (.int k)) (h : Sh P B (n + 1) t ps) : ∃ i, ps = [.int k i] ∧ (Lit.int k i).wf = true := by unfold Sh at h; rw [ht] at h; exact h
theorem sh_bool {n : Nat} {t : TypeId} {ps : List PV} (ht : P.underlying t = some .bool) (h : Sh P B (n + 1) t ps) : ∃ b, ps = [.bool b] := by unfold Sh at h; rw [ht] at h; exact h
theorem sh_str {n : Nat} {t : TypeId} {ps : List PV} (ht : P.underlying t = some .string) (h : Sh P B (n + 1) t ps) : ∃ s, ps = [.str s] ∧ s.size ≤ B := by unfold Sh at h; rw [ht] at h; exact h
theorem sh_struct {n : Nat} {t : TypeId} {fs : Array Field} {ps : List PV} (ht : P.underlying t = some (.struct fs)) (h : Sh P B (n + 1) t ps) : ShF (fun t ps => Sh P B n t ps) P.cellsOf fs.toList ps := by unfold Sh at h; rw [ht] at h; exact h
theorem sh_rows {n : Nat} {t e : TypeId} {ps : List PV} {α : Type} {f : α → List PV} {good : α → Prop} (ht : P.underlying t = some (.slice e)) (h : Sh P B (n + 1) t ps) (hd : ∀ r, Sh P B n e r → ∃ a, r = f a ∧ good a) :
    ∃ l : List α, ps = [.sl (l.map f)] ∧ l.length ≤ B ∧ ∀ a, a ∈ l → good a := by
  unfold Sh at h; rw [ht] at h
  obtain ⟨rows, rfl, hlen, hr⟩ := h
  obtain ⟨l, h1, h2⟩ : ∃ l : List α, rows = l.map f ∧ ∀ a, a ∈ l → good a := by
    clear hlen
    induction rows with
    | nil => exact ⟨[], rfl, by simp⟩
    | cons r rs ih =>
      obtain ⟨l, h1, h2⟩ := ih (fun r h => hr r (by simp [h]))
      obtain ⟨a, a1, a2⟩ := hd r (hr r (by simp)).2
      refine ⟨a :: l, by simp [a1, h1], fun b hb => ?_⟩
      rcases List.mem_cons.1 hb with e | e
      · subst e; exact a2
      · exact h2 b e
  subst h1
  exact ⟨l, rfl, by simpa using hlen, h2⟩
end
end Go.Abs
end
section
set_option linter.unusedVariables false
set_option linter.unusedSimpArgs false
namespace Go.Proofs.YtdgoodjhndeojaaGreat
open Go.Abs

theorem zo2 : ZeroOf Tryz.prog 2 [.pv (.int .i64 0)] := ⟨_, _, Tryz.zeroValue2, .inl rfl, rfl⟩
theorem zo3 : ZeroOf Tryz.prog 3 [.pv (.int .i64 0)] := ⟨_, _, Tryz.zeroValue3, .inl rfl, rfl⟩
theorem zo4 : ZeroOf Tryz.prog 4 [.pv (.bool false)] := ⟨_, _, Tryz.zeroValue4, .inl rfl, rfl⟩
theorem zo5 : ZeroOf Tryz.prog 5 [.pv (.int .u8 0)] := ⟨_, _, Tryz.zeroValue5, .inl rfl, rfl⟩
theorem zo6 : ZeroOf Tryz.prog 6 [.pv (.int .u8 0)] := ⟨_, _, Tryz.zeroValue6, .inl rfl, rfl⟩
theorem zo7 : ZeroOf Tryz.prog 7 [.pv (.int .i64 0), .pv (.int .i64 0), .pv (.bool false), .pv (.int .u8 0)] := ⟨_, _, Tryz.zeroValue7, .inl rfl, rfl⟩
theorem fo7_0 : FieldOf Tryz.prog 7 0 0 := by
  refine ⟨_, _, 0, Tryz.underlying7, rfl, rfl, ?_⟩
  exact Tryz.sizeOf2
theorem fv7_0 : FieldV1 Tryz.prog 7 0 0 := by
  refine ⟨_, _, Tryz.underlying7, rfl, rfl, ?_⟩
  exact Tryz.isAgg2
theorem fo7_1 : FieldOf Tryz.prog 7 1 1 := by
  refine ⟨_, _, 0, Tryz.underlying7, rfl, rfl, ?_⟩
  exact Tryz.sizeOf3
theorem fv7_1 : FieldV1 Tryz.prog 7 1 1 := by
  refine ⟨_, _, Tryz.underlying7, rfl, rfl, ?_⟩
  exact Tryz.isAgg3
theorem fo7_2 : FieldOf Tryz.prog 7 2 2 := by
  refine ⟨_, _, 0, Tryz.underlying7, rfl, rfl, ?_⟩
  exact Tryz.sizeOf4
theorem fv7_2 : FieldV1 Tryz.prog 7 2 2 := by
  refine ⟨_, _, Tryz.underlying7, rfl, rfl, ?_⟩
  exact Tryz.isAgg4
theorem fo7_3 : FieldOf Tryz.prog 7 3 3 := by
  refine ⟨_, _, 0, Tryz.underlying7, rfl, rfl, ?_⟩
  exact Tryz.sizeOf6
theorem fv7_3 : FieldV1 Tryz.prog 7 3 3 := by
  refine ⟨_, _, Tryz.underlying7, rfl, rfl, ?_⟩
  exact Tryz.isAgg6
theorem bo7 : BuildOf Tryz.prog 7 [(0, 1), (1, 1), (2, 1), (3, 1)] [.pv (.int .i64 0), .pv (.int .i64 0), .pv (.bool false), .pv (.int .u8 0)] := ⟨_, #[(0, 1), (1, 1), (2, 1), (3, 1)], _, _, Tryz.underlying7, Tryz.zeroValue7, .inl rfl, rfl, fun w => by simp [Tryz.sizeOf2, Tryz.sizeOf3, Tryz.sizeOf4, Tryz.sizeOf6], rfl⟩
theorem zo8 : ZeroOf Tryz.prog 8 [.pv (.int .i64 0), .pv (.int .i64 0), .pv (.bool false), .pv (.int .u8 0)] := ⟨_, _, Tryz.zeroValue8, .inl rfl, rfl⟩
theorem fo8_0 : FieldOf Tryz.prog 8 0 0 := by
  refine ⟨_, _, 0, Tryz.underlying8, rfl, rfl, ?_⟩
  exact Tryz.sizeOf2
theorem fv8_0 : FieldV1 Tryz.prog 8 0 0 := by
  refine ⟨_, _, Tryz.underlying8, rfl, rfl, ?_⟩
  exact Tryz.isAgg2
theorem fo8_1 : FieldOf Tryz.prog 8 1 1 := by
  refine ⟨_, _, 0, Tryz.underlying8, rfl, rfl, ?_⟩
  exact Tryz.sizeOf3
theorem fv8_1 : FieldV1 Tryz.prog 8 1 1 := by
  refine ⟨_, _, Tryz.underlying8, rfl, rfl, ?_⟩
  exact Tryz.isAgg3
theorem fo8_2 : FieldOf Tryz.prog 8 2 2 := by
  refine ⟨_, _, 0, Tryz.underlying8, rfl, rfl, ?_⟩
  exact Tryz.sizeOf4
theorem fv8_2 : FieldV1 Tryz.prog 8 2 2 := by
  refine ⟨_, _, Tryz.underlying8, rfl, rfl, ?_⟩
  exact Tryz.isAgg4
theorem fo8_3 : FieldOf Tryz.prog 8 3 3 := by
  refine ⟨_, _, 0, Tryz.underlying8, rfl, rfl, ?_⟩
  exact Tryz.sizeOf6
theorem fv8_3 : FieldV1 Tryz.prog 8 3 3 := by
  refine ⟨_, _, Tryz.underlying8, rfl, rfl, ?_⟩
  exact Tryz.isAgg6
theorem bo8 : BuildOf Tryz.prog 8 [(0, 1), (1, 1), (2, 1), (3, 1)] [.pv (.int .i64 0), .pv (.int .i64 0), .pv (.bool false), .pv (.int .u8 0)] := ⟨_, #[(0, 1), (1, 1), (2, 1), (3, 1)], _, _, Tryz.underlying8, Tryz.zeroValue8, .inl rfl, rfl, fun w => by simp [Tryz.sizeOf2, Tryz.sizeOf3, Tryz.sizeOf4, Tryz.sizeOf6], rfl⟩
theorem zo9 : ZeroOf Tryz.prog 9 [.pv (.str ⟨#[]⟩)] := ⟨_, _, Tryz.zeroValue9, .inl rfl, rfl⟩
theorem zo10 : ZeroOf Tryz.prog 10 [.pv (.str ⟨#[]⟩)] := ⟨_, _, Tryz.zeroValue10, .inl rfl, rfl⟩
theorem zo11 : ZeroOf Tryz.prog 11 [.pv (.str ⟨#[]⟩)] := ⟨_, _, Tryz.zeroValue11, .inl rfl, rfl⟩
theorem zo12 : ZeroOf Tryz.prog 12 [.pv (.int .u64 0)] := ⟨_, _, Tryz.zeroValue12, .inl rfl, rfl⟩
theorem zo13 : ZeroOf Tryz.prog 13 [.pv (.str ⟨#[]⟩), .pv (.int .u64 0)] := ⟨_, _, Tryz.zeroValue13, .inl rfl, rfl⟩
theorem fo13_0 : FieldOf Tryz.prog 13 0 0 := by
  refine ⟨_, _, 0, Tryz.underlying13, rfl, rfl, ?_⟩
  exact Tryz.sizeOf9
theorem fv13_0 : FieldV1 Tryz.prog 13 0 0 := by
  refine ⟨_, _, Tryz.underlying13, rfl, rfl, ?_⟩
  exact Tryz.isAgg9
theorem fo13_1 : FieldOf Tryz.prog 13 1 1 := by
  refine ⟨_, _, 0, Tryz.underlying13, rfl, rfl, ?_⟩
  exact Tryz.sizeOf12
theorem fv13_1 : FieldV1 Tryz.prog 13 1 1 := by
  refine ⟨_, _, Tryz.underlying13, rfl, rfl, ?_⟩
  exact Tryz.isAgg12
theorem bo13 : BuildOf Tryz.prog 13 [(0, 1), (1, 1)] [.pv (.str ⟨#[]⟩), .pv (.int .u64 0)] := ⟨_, #[(0, 1), (1, 1)], _, _, Tryz.underlying13, Tryz.zeroValue13, .inl rfl, rfl, fun w => by simp [Tryz.sizeOf9, Tryz.sizeOf12], rfl⟩
theorem zo14 : ZeroOf Tryz.prog 14 [.pv (.str ⟨#[]⟩), .pv (.int .u64 0)] := ⟨_, _, Tryz.zeroValue14, .inl rfl, rfl⟩
theorem fo14_0 : FieldOf Tryz.prog 14 0 0 := by
  refine ⟨_, _, 0, Tryz.underlying14, rfl, rfl, ?_⟩
  exact Tryz.sizeOf9
theorem fv14_0 : FieldV1 Tryz.prog 14 0 0 := by
  refine ⟨_, _, Tryz.underlying14, rfl, rfl, ?_⟩
  exact Tryz.isAgg9
theorem fo14_1 : FieldOf Tryz.prog 14 1 1 := by
  refine ⟨_, _, 0, Tryz.underlying14, rfl, rfl, ?_⟩
  exact Tryz.sizeOf12
theorem fv14_1 : FieldV1 Tryz.prog 14 1 1 := by
  refine ⟨_, _, Tryz.underlying14, rfl, rfl, ?_⟩
  exact Tryz.isAgg12
theorem bo14 : BuildOf Tryz.prog 14 [(0, 1), (1, 1)] [.pv (.str ⟨#[]⟩), .pv (.int .u64 0)] := ⟨_, #[(0, 1), (1, 1)], _, _, Tryz.underlying14, Tryz.zeroValue14, .inl rfl, rfl, fun w => by simp [Tryz.sizeOf9, Tryz.sizeOf12], rfl⟩
theorem zo15 : ZeroOf Tryz.prog 15 [.pv .nilp] := ⟨_, _, Tryz.zeroValue15, .inl rfl, rfl⟩
theorem zo16 : ZeroOf Tryz.prog 16 [.pv .nilp] := ⟨_, _, Tryz.zeroValue16, .inl rfl, rfl⟩
theorem zo17 : ZeroOf Tryz.prog 17 [.pv .nilp] := ⟨_, _, Tryz.zeroValue17, .inl rfl, rfl⟩
theorem zo18 : ZeroOf Tryz.prog 18 [.pv .nilp] := ⟨_, _, Tryz.zeroValue18, .inl rfl, rfl⟩
theorem fo18_0 : FieldOf Tryz.prog 18 0 0 := by
  refine ⟨_, _, 0, Tryz.underlying18, rfl, rfl, ?_⟩
  exact Tryz.sizeOf17
theorem fv18_0 : FieldV1 Tryz.prog 18 0 0 := by
  refine ⟨_, _, Tryz.underlying18, rfl, rfl, ?_⟩
  exact Tryz.isAgg17
theorem bo18 : BuildOf Tryz.prog 18 [(0, 1)] [.pv .nilp] := ⟨_, #[(0, 1)], _, _, Tryz.underlying18, Tryz.zeroValue18, .inl rfl, rfl, fun w => by simp [Tryz.sizeOf17], rfl⟩
theorem zo19 : ZeroOf Tryz.prog 19 [.pv .nilp] := ⟨_, _, Tryz.zeroValue19, .inl rfl, rfl⟩
theorem fo19_0 : FieldOf Tryz.prog 19 0 0 := by
  refine ⟨_, _, 0, Tryz.underlying19, rfl, rfl, ?_⟩
  exact Tryz.sizeOf17
theorem fv19_0 : FieldV1 Tryz.prog 19 0 0 := by
  refine ⟨_, _, Tryz.underlying19, rfl, rfl, ?_⟩
  exact Tryz.isAgg17
theorem bo19 : BuildOf Tryz.prog 19 [(0, 1)] [.pv .nilp] := ⟨_, #[(0, 1)], _, _, Tryz.underlying19, Tryz.zeroValue19, .inl rfl, rfl, fun w => by simp [Tryz.sizeOf17], rfl⟩
theorem zo21 : ZeroOf Tryz.prog 21 [.pv (.int .i32 0)] := ⟨_, _, Tryz.zeroValue21, .inl rfl, rfl⟩
theorem zo22 : ZeroOf Tryz.prog 22 [.pv (.sl [])] := ⟨_, _, Tryz.zeroValue22, .inl rfl, rfl⟩
theorem zoN22 : ZeroOf Tryz.prog 22 [.pv .nils] := ⟨_, _, Tryz.zeroValue22, .inr rfl, rfl⟩
theorem so22 : SliceOf Tryz.prog 22 42 6 := ⟨Tryz.underlying22, Tryz.sizeOf42, by decide, _, Tryz.zeroValue42⟩
theorem ei42 : EI Tryz.prog 42 6 88 := EI.mk (z := (Value.agg #[(Value.string ⟨#[]⟩), (Value.int IntKind.i64 (0)), (Value.int IntKind.i64 (0)), (Value.int IntKind.i64 (0)), (Value.slice none (0) (0)), (Value.slice none (0) (0))])) (by kernel_rfl) rfl (by decide) (by decide)
theorem zo23 : ZeroOf Tryz.prog 23 [.pv (.sl [])] := ⟨_, _, Tryz.zeroValue23, .inl rfl, rfl⟩
theorem zoN23 : ZeroOf Tryz.prog 23 [.pv .nils] := ⟨_, _, Tryz.zeroValue23, .inr rfl, rfl⟩
theorem fo23_0 : FieldOf Tryz.prog 23 0 0 := by
  refine ⟨_, _, 0, Tryz.underlying23, rfl, rfl, ?_⟩
  exact Tryz.sizeOf22
theorem fv23_0 : FieldV1 Tryz.prog 23 0 0 := by
  refine ⟨_, _, Tryz.underlying23, rfl, rfl, ?_⟩
  exact Tryz.isAgg22
theorem bo23 : BuildOf Tryz.prog 23 [(0, 1)] [.pv (.sl [])] := ⟨_, #[(0, 1)], _, _, Tryz.underlying23, Tryz.zeroValue23, .inl rfl, rfl, fun w => by simp [Tryz.sizeOf22], rfl⟩
theorem boN23 : BuildOf Tryz.prog 23 [(0, 1)] [.pv .nils] := ⟨_, #[(0, 1)], _, _, Tryz.underlying23, Tryz.zeroValue23, .inr rfl, rfl, fun w => by simp [Tryz.sizeOf22], rfl⟩
theorem zo24 : ZeroOf Tryz.prog 24 [.pv (.sl [])] := ⟨_, _, Tryz.zeroValue24, .inl rfl, rfl⟩
theorem zoN24 : ZeroOf Tryz.prog 24 [.pv .nils] := ⟨_, _, Tryz.zeroValue24, .inr rfl, rfl⟩
theorem fo24_0 : FieldOf Tryz.prog 24 0 0 := by
  refine ⟨_, _, 0, Tryz.underlying24, rfl, rfl, ?_⟩
  exact Tryz.sizeOf22
theorem fv24_0 : FieldV1 Tryz.prog 24 0 0 := by
  refine ⟨_, _, Tryz.underlying24, rfl, rfl, ?_⟩
  exact Tryz.isAgg22
theorem bo24 : BuildOf Tryz.prog 24 [(0, 1)] [.pv (.sl [])] := ⟨_, #[(0, 1)], _, _, Tryz.underlying24, Tryz.zeroValue24, .inl rfl, rfl, fun w => by simp [Tryz.sizeOf22], rfl⟩
theorem boN24 : BuildOf Tryz.prog 24 [(0, 1)] [.pv .nils] := ⟨_, #[(0, 1)], _, _, Tryz.underlying24, Tryz.zeroValue24, .inr rfl, rfl, fun w => by simp [Tryz.sizeOf22], rfl⟩
theorem zo25 : ZeroOf Tryz.prog 25 [.pv (.sl [])] := ⟨_, _, Tryz.zeroValue25, .inl rfl, rfl⟩
theorem zoN25 : ZeroOf Tryz.prog 25 [.pv .nils] := ⟨_, _, Tryz.zeroValue25, .inr rfl, rfl⟩
theorem so25 : SliceOf Tryz.prog 25 44 15 := ⟨Tryz.underlying25, Tryz.sizeOf44, by decide, _, Tryz.zeroValue44⟩
theorem ei44 : EI Tryz.prog 44 15 216 := EI.mk (z := (Value.agg #[(Value.int IntKind.i64 (0)), (Value.string ⟨#[]⟩), (Value.string ⟨#[]⟩), (Value.string ⟨#[]⟩), (Value.int IntKind.i64 (0)), (Value.int IntKind.i64 (0)), (Value.string ⟨#[]⟩), (Value.string ⟨#[]⟩), (Value.slice none (0) (0)), (Value.string ⟨#[]⟩), (Value.int IntKind.i64 (0)), (Value.int IntKind.i64 (0)), (Value.int IntKind.i64 (0)), (Value.slice none (0) (0)), (Value.slice none (0) (0))])) (by kernel_rfl) rfl (by decide) (by decide)
theorem zo29 : ZeroOf Tryz.prog 29 [.pv (.sl [])] := ⟨_, _, Tryz.zeroValue29, .inl rfl, rfl⟩
theorem zoN29 : ZeroOf Tryz.prog 29 [.pv .nils] := ⟨_, _, Tryz.zeroValue29, .inr rfl, rfl⟩
theorem so29 : SliceOf Tryz.prog 29 3 1 := ⟨Tryz.underlying29, Tryz.sizeOf3, by decide, _, Tryz.zeroValue3⟩
theorem ei3 : EI Tryz.prog 3 1 8 := EI.mk (z := (Value.int IntKind.i64 (0))) (by kernel_rfl) rfl (by decide) (by decide)
theorem zo30 : ZeroOf Tryz.prog 30 [.pv (.int .i64 0), .pv (.sl [])] := ⟨_, _, Tryz.zeroValue30, .inl rfl, rfl⟩
theorem zoN30 : ZeroOf Tryz.prog 30 [.pv (.int .i64 0), .pv .nils] := ⟨_, _, Tryz.zeroValue30, .inr rfl, rfl⟩
theorem fo30_0 : FieldOf Tryz.prog 30 0 0 := by
  refine ⟨_, _, 0, Tryz.underlying30, rfl, rfl, ?_⟩
  exact Tryz.sizeOf3
theorem fv30_0 : FieldV1 Tryz.prog 30 0 0 := by
  refine ⟨_, _, Tryz.underlying30, rfl, rfl, ?_⟩
  exact Tryz.isAgg3
theorem fo30_1 : FieldOf Tryz.prog 30 1 1 := by
  refine ⟨_, _, 0, Tryz.underlying30, rfl, rfl, ?_⟩
  exact Tryz.sizeOf29
theorem fv30_1 : FieldV1 Tryz.prog 30 1 1 := by
  refine ⟨_, _, Tryz.underlying30, rfl, rfl, ?_⟩
  exact Tryz.isAgg29
theorem bo30 : BuildOf Tryz.prog 30 [(0, 1), (1, 1)] [.pv (.int .i64 0), .pv (.sl [])] := ⟨_, #[(0, 1), (1, 1)], _, _, Tryz.underlying30, Tryz.zeroValue30, .inl rfl, rfl, fun w => by simp [Tryz.sizeOf3, Tryz.sizeOf29], rfl⟩
theorem boN30 : BuildOf Tryz.prog 30 [(0, 1), (1, 1)] [.pv (.int .i64 0), .pv .nils] := ⟨_, #[(0, 1), (1, 1)], _, _, Tryz.underlying30, Tryz.zeroValue30, .inr rfl, rfl, fun w => by simp [Tryz.sizeOf3, Tryz.sizeOf29], rfl⟩
theorem zo31 : ZeroOf Tryz.prog 31 [.pv (.int .i64 0), .pv (.sl [])] := ⟨_, _, Tryz.zeroValue31, .inl rfl, rfl⟩
theorem zoN31 : ZeroOf Tryz.prog 31 [.pv (.int .i64 0), .pv .nils] := ⟨_, _, Tryz.zeroValue31, .inr rfl, rfl⟩
theorem fo31_0 : FieldOf Tryz.prog 31 0 0 := by
  refine ⟨_, _, 0, Tryz.underlying31, rfl, rfl, ?_⟩
  exact Tryz.sizeOf3
theorem fv31_0 : FieldV1 Tryz.prog 31 0 0 := by
  refine ⟨_, _, Tryz.underlying31, rfl, rfl, ?_⟩
  exact Tryz.isAgg3
theorem fo31_1 : FieldOf Tryz.prog 31 1 1 := by
  refine ⟨_, _, 0, Tryz.underlying31, rfl, rfl, ?_⟩
  exact Tryz.sizeOf29
theorem fv31_1 : FieldV1 Tryz.prog 31 1 1 := by
  refine ⟨_, _, Tryz.underlying31, rfl, rfl, ?_⟩
  exact Tryz.isAgg29
theorem bo31 : BuildOf Tryz.prog 31 [(0, 1), (1, 1)] [.pv (.int .i64 0), .pv (.sl [])] := ⟨_, #[(0, 1), (1, 1)], _, _, Tryz.underlying31, Tryz.zeroValue31, .inl rfl, rfl, fun w => by simp [Tryz.sizeOf3, Tryz.sizeOf29], rfl⟩
theorem boN31 : BuildOf Tryz.prog 31 [(0, 1), (1, 1)] [.pv (.int .i64 0), .pv .nils] := ⟨_, #[(0, 1), (1, 1)], _, _, Tryz.underlying31, Tryz.zeroValue31, .inr rfl, rfl, fun w => by simp [Tryz.sizeOf3, Tryz.sizeOf29], rfl⟩
theorem zo37 : ZeroOf Tryz.prog 37 [.pv (.int .i64 0), .pv (.int .i64 0)] := ⟨_, _, Tryz.zeroValue37, .inl rfl, rfl⟩
theorem fo37_0 : FieldOf Tryz.prog 37 0 0 := by
  refine ⟨_, _, 0, Tryz.underlying37, rfl, rfl, ?_⟩
  exact Tryz.sizeOf3
theorem fv37_0 : FieldV1 Tryz.prog 37 0 0 := by
  refine ⟨_, _, Tryz.underlying37, rfl, rfl, ?_⟩
  exact Tryz.isAgg3
theorem fo37_1 : FieldOf Tryz.prog 37 1 1 := by
  refine ⟨_, _, 0, Tryz.underlying37, rfl, rfl, ?_⟩
  exact Tryz.sizeOf3
theorem fv37_1 : FieldV1 Tryz.prog 37 1 1 := by
  refine ⟨_, _, Tryz.underlying37, rfl, rfl, ?_⟩
  exact Tryz.isAgg3
theorem bo37 : BuildOf Tryz.prog 37 [(0, 1), (1, 1)] [.pv (.int .i64 0), .pv (.int .i64 0)] := ⟨_, #[(0, 1), (1, 1)], _, _, Tryz.underlying37, Tryz.zeroValue37, .inl rfl, rfl, fun w => by simp [Tryz.sizeOf3], rfl⟩
theorem zo38 : ZeroOf Tryz.prog 38 [.pv (.int .i64 0), .pv (.int .i64 0)] := ⟨_, _, Tryz.zeroValue38, .inl rfl, rfl⟩
theorem fo38_0 : FieldOf Tryz.prog 38 0 0 := by
  refine ⟨_, _, 0, Tryz.underlying38, rfl, rfl, ?_⟩
  exact Tryz.sizeOf3
theorem fv38_0 : FieldV1 Tryz.prog 38 0 0 := by
  refine ⟨_, _, Tryz.underlying38, rfl, rfl, ?_⟩
  exact Tryz.isAgg3
theorem fo38_1 : FieldOf Tryz.prog 38 1 1 := by
  refine ⟨_, _, 0, Tryz.underlying38, rfl, rfl, ?_⟩
  exact Tryz.sizeOf3
theorem fv38_1 : FieldV1 Tryz.prog 38 1 1 := by
  refine ⟨_, _, Tryz.underlying38, rfl, rfl, ?_⟩
  exact Tryz.isAgg3
theorem bo38 : BuildOf Tryz.prog 38 [(0, 1), (1, 1)] [.pv (.int .i64 0), .pv (.int .i64 0)] := ⟨_, #[(0, 1), (1, 1)], _, _, Tryz.underlying38, Tryz.zeroValue38, .inl rfl, rfl, fun w => by simp [Tryz.sizeOf3], rfl⟩
theorem se38 (a0 b0 : Int) (a1 b1 : Int) (w : World) : (Op.equalIn 10000 38 (.agg [.int .i64 a0, .int .i64 a1].toArray) (.agg [.int .i64 b0, .int .i64 b1].toArray)).run Tryz.prog w = .ok (decide (a0 = b0) && decide (a1 = b1)) w := by
  refine (run_equalIn_struct (P := Tryz.prog) w 9999 38 _ _ (by simp [Program.fieldsOf, Tryz.underlying38]) Tryz.stoodInHeld38).trans ?_
  have h3 : ∀ (d : Nat) (a b : Int) (w : World), (Op.equalIn (d + 1) 3 (.int .i64 a) (.int .i64 b)).run Tryz.prog w = .ok (decide (a = b)) w := fun d a b w => by rw [run_equalIn_int w d 3 _ _ a b Tryz.underlying3]; by_cases h : a = b <;> simp [h]
  by_cases e0 : a0 = b0 <;> by_cases e1 : a1 = b1 <;> simp [Program.fieldsOf, Tryz.underlying38, Op.eqFields, part, h3, Tryz.isAgg3, e0, e1]
theorem zo39 : ZeroOf Tryz.prog 39 [.pv (.sl [])] := ⟨_, _, Tryz.zeroValue39, .inl rfl, rfl⟩
theorem zoN39 : ZeroOf Tryz.prog 39 [.pv .nils] := ⟨_, _, Tryz.zeroValue39, .inr rfl, rfl⟩
theorem so39 : SliceOf Tryz.prog 39 9 1 := ⟨Tryz.underlying39, Tryz.sizeOf9, by decide, _, Tryz.zeroValue9⟩
theorem ei9 : EI Tryz.prog 9 1 16 := EI.mk (z := (Value.string ⟨#[]⟩)) (by kernel_rfl) rfl (by decide) (by decide)
theorem zo40 : ZeroOf Tryz.prog 40 [.pv (.sl [])] := ⟨_, _, Tryz.zeroValue40, .inl rfl, rfl⟩
theorem zoN40 : ZeroOf Tryz.prog 40 [.pv .nils] := ⟨_, _, Tryz.zeroValue40, .inr rfl, rfl⟩
theorem so40 : SliceOf Tryz.prog 40 62 2 := ⟨Tryz.underlying40, Tryz.sizeOf62, by decide, _, Tryz.zeroValue62⟩
theorem ei62 : EI Tryz.prog 62 2 32 := EI.mk (z := (Value.agg #[(Value.string ⟨#[]⟩), (Value.string ⟨#[]⟩)])) (by kernel_rfl) rfl (by decide) (by decide)
theorem zo41 : ZeroOf Tryz.prog 41 [.pv (.str ⟨#[]⟩), .pv (.int .i64 0), .pv (.int .i64 0), .pv (.int .i64 0), .pv (.sl []), .pv (.sl [])] := ⟨_, _, Tryz.zeroValue41, .inl rfl, rfl⟩
theorem zoN41 : ZeroOf Tryz.prog 41 [.pv (.str ⟨#[]⟩), .pv (.int .i64 0), .pv (.int .i64 0), .pv (.int .i64 0), .pv .nils, .pv .nils] := ⟨_, _, Tryz.zeroValue41, .inr rfl, rfl⟩
theorem fo41_0 : FieldOf Tryz.prog 41 0 0 := by
  refine ⟨_, _, 0, Tryz.underlying41, rfl, rfl, ?_⟩
  exact Tryz.sizeOf9
theorem fv41_0 : FieldV1 Tryz.prog 41 0 0 := by
  refine ⟨_, _, Tryz.underlying41, rfl, rfl, ?_⟩
  exact Tryz.isAgg9
theorem fo41_1 : FieldOf Tryz.prog 41 1 1 := by
  refine ⟨_, _, 0, Tryz.underlying41, rfl, rfl, ?_⟩
  exact Tryz.sizeOf3
theorem fv41_1 : FieldV1 Tryz.prog 41 1 1 := by
  refine ⟨_, _, Tryz.underlying41, rfl, rfl, ?_⟩
  exact Tryz.isAgg3
theorem fo41_2 : FieldOf Tryz.prog 41 2 2 := by
  refine ⟨_, _, 1, Tryz.underlying41, rfl, rfl, ?_⟩
  exact Tryz.sizeOf38
theorem fv41_2 : FieldVn Tryz.prog 41 2 2 2 := by
  refine ⟨_, _, Tryz.underlying41, rfl, rfl, ?_, ?_, by decide⟩
  · exact Tryz.isAgg38
  · exact Tryz.sizeOf38
theorem fo41_3 : FieldOf Tryz.prog 41 3 4 := by
  refine ⟨_, _, 0, Tryz.underlying41, rfl, rfl, ?_⟩
  exact Tryz.sizeOf39
theorem fv41_3 : FieldV1 Tryz.prog 41 3 4 := by
  refine ⟨_, _, Tryz.underlying41, rfl, rfl, ?_⟩
  exact Tryz.isAgg39
theorem fo41_4 : FieldOf Tryz.prog 41 4 5 := by
  refine ⟨_, _, 0, Tryz.underlying41, rfl, rfl, ?_⟩
  exact Tryz.sizeOf40
theorem fv41_4 : FieldV1 Tryz.prog 41 4 5 := by
  refine ⟨_, _, Tryz.underlying41, rfl, rfl, ?_⟩
  exact Tryz.isAgg40
theorem bo41 : BuildOf Tryz.prog 41 [(0, 1), (1, 1), (2, 2), (4, 1), (5, 1)] [.pv (.str ⟨#[]⟩), .pv (.int .i64 0), .pv (.int .i64 0), .pv (.int .i64 0), .pv (.sl []), .pv (.sl [])] := ⟨_, #[(0, 1), (1, 1), (2, 2), (4, 1), (5, 1)], _, _, Tryz.underlying41, Tryz.zeroValue41, .inl rfl, rfl, fun w => by simp [Tryz.sizeOf3, Tryz.sizeOf9, Tryz.sizeOf38, Tryz.sizeOf39, Tryz.sizeOf40], rfl⟩
theorem boN41 : BuildOf Tryz.prog 41 [(0, 1), (1, 1), (2, 2), (4, 1), (5, 1)] [.pv (.str ⟨#[]⟩), .pv (.int .i64 0), .pv (.int .i64 0), .pv (.int .i64 0), .pv .nils, .pv .nils] := ⟨_, #[(0, 1), (1, 1), (2, 2), (4, 1), (5, 1)], _, _, Tryz.underlying41, Tryz.zeroValue41, .inr rfl, rfl, fun w => by simp [Tryz.sizeOf3, Tryz.sizeOf9, Tryz.sizeOf38, Tryz.sizeOf39, Tryz.sizeOf40], rfl⟩
theorem zo42 : ZeroOf Tryz.prog 42 [.pv (.str ⟨#[]⟩), .pv (.int .i64 0), .pv (.int .i64 0), .pv (.int .i64 0), .pv (.sl []), .pv (.sl [])] := ⟨_, _, Tryz.zeroValue42, .inl rfl, rfl⟩
theorem zoN42 : ZeroOf Tryz.prog 42 [.pv (.str ⟨#[]⟩), .pv (.int .i64 0), .pv (.int .i64 0), .pv (.int .i64 0), .pv .nils, .pv .nils] := ⟨_, _, Tryz.zeroValue42, .inr rfl, rfl⟩
theorem fo42_0 : FieldOf Tryz.prog 42 0 0 := by
  refine ⟨_, _, 0, Tryz.underlying42, rfl, rfl, ?_⟩
  exact Tryz.sizeOf9
theorem fv42_0 : FieldV1 Tryz.prog 42 0 0 := by
  refine ⟨_, _, Tryz.underlying42, rfl, rfl, ?_⟩
  exact Tryz.isAgg9
theorem fo42_1 : FieldOf Tryz.prog 42 1 1 := by
  refine ⟨_, _, 0, Tryz.underlying42, rfl, rfl, ?_⟩
  exact Tryz.sizeOf3
theorem fv42_1 : FieldV1 Tryz.prog 42 1 1 := by
  refine ⟨_, _, Tryz.underlying42, rfl, rfl, ?_⟩
  exact Tryz.isAgg3
theorem fo42_2 : FieldOf Tryz.prog 42 2 2 := by
  refine ⟨_, _, 1, Tryz.underlying42, rfl, rfl, ?_⟩
  exact Tryz.sizeOf38
theorem fv42_2 : FieldVn Tryz.prog 42 2 2 2 := by
  refine ⟨_, _, Tryz.underlying42, rfl, rfl, ?_, ?_, by decide⟩
  · exact Tryz.isAgg38
  · exact Tryz.sizeOf38
theorem fo42_3 : FieldOf Tryz.prog 42 3 4 := by
  refine ⟨_, _, 0, Tryz.underlying42, rfl, rfl, ?_⟩
  exact Tryz.sizeOf39
theorem fv42_3 : FieldV1 Tryz.prog 42 3 4 := by
  refine ⟨_, _, Tryz.underlying42, rfl, rfl, ?_⟩
  exact Tryz.isAgg39
theorem fo42_4 : FieldOf Tryz.prog 42 4 5 := by
  refine ⟨_, _, 0, Tryz.underlying42, rfl, rfl, ?_⟩
  exact Tryz.sizeOf40
theorem fv42_4 : FieldV1 Tryz.prog 42 4 5 := by
  refine ⟨_, _, Tryz.underlying42, rfl, rfl, ?_⟩
  exact Tryz.isAgg40
theorem bo42 : BuildOf Tryz.prog 42 [(0, 1), (1, 1), (2, 2), (4, 1), (5, 1)] [.pv (.str ⟨#[]⟩), .pv (.int .i64 0), .pv (.int .i64 0), .pv (.int .i64 0), .pv (.sl []), .pv (.sl [])] := ⟨_, #[(0, 1), (1, 1), (2, 2), (4, 1), (5, 1)], _, _, Tryz.underlying42, Tryz.zeroValue42, .inl rfl, rfl, fun w => by simp [Tryz.sizeOf3, Tryz.sizeOf9, Tryz.sizeOf38, Tryz.sizeOf39, Tryz.sizeOf40], rfl⟩
theorem boN42 : BuildOf Tryz.prog 42 [(0, 1), (1, 1), (2, 2), (4, 1), (5, 1)] [.pv (.str ⟨#[]⟩), .pv (.int .i64 0), .pv (.int .i64 0), .pv (.int .i64 0), .pv .nils, .pv .nils] := ⟨_, #[(0, 1), (1, 1), (2, 2), (4, 1), (5, 1)], _, _, Tryz.underlying42, Tryz.zeroValue42, .inr rfl, rfl, fun w => by simp [Tryz.sizeOf3, Tryz.sizeOf9, Tryz.sizeOf38, Tryz.sizeOf39, Tryz.sizeOf40], rfl⟩
theorem zo43 : ZeroOf Tryz.prog 43 [.pv (.int .i64 0), .pv (.str ⟨#[]⟩), .pv (.str ⟨#[]⟩), .pv (.str ⟨#[]⟩), .pv (.int .i64 0), .pv (.int .i64 0), .pv (.str ⟨#[]⟩), .pv (.str ⟨#[]⟩), .pv (.sl []), .pv (.str ⟨#[]⟩), .pv (.int .i64 0), .pv (.int .i64 0), .pv (.int .i64 0), .pv (.sl []), .pv (.sl [])] := ⟨_, _, Tryz.zeroValue43, .inl rfl, rfl⟩
theorem zoN43 : ZeroOf Tryz.prog 43 [.pv (.int .i64 0), .pv (.str ⟨#[]⟩), .pv (.str ⟨#[]⟩), .pv (.str ⟨#[]⟩), .pv (.int .i64 0), .pv (.int .i64 0), .pv (.str ⟨#[]⟩), .pv (.str ⟨#[]⟩), .pv .nils, .pv (.str ⟨#[]⟩), .pv (.int .i64 0), .pv (.int .i64 0), .pv (.int .i64 0), .pv .nils, .pv .nils] := ⟨_, _, Tryz.zeroValue43, .inr rfl, rfl⟩
theorem fo43_0 : FieldOf Tryz.prog 43 0 0 := by
  refine ⟨_, _, 0, Tryz.underlying43, rfl, rfl, ?_⟩
  exact Tryz.sizeOf3
theorem fv43_0 : FieldV1 Tryz.prog 43 0 0 := by
  refine ⟨_, _, Tryz.underlying43, rfl, rfl, ?_⟩
  exact Tryz.isAgg3
theorem fo43_1 : FieldOf Tryz.prog 43 1 1 := by
  refine ⟨_, _, 0, Tryz.underlying43, rfl, rfl, ?_⟩
  exact Tryz.sizeOf9
theorem fv43_1 : FieldV1 Tryz.prog 43 1 1 := by
  refine ⟨_, _, Tryz.underlying43, rfl, rfl, ?_⟩
  exact Tryz.isAgg9
theorem fo43_2 : FieldOf Tryz.prog 43 2 2 := by
  refine ⟨_, _, 0, Tryz.underlying43, rfl, rfl, ?_⟩
  exact Tryz.sizeOf9
theorem fv43_2 : FieldV1 Tryz.prog 43 2 2 := by
  refine ⟨_, _, Tryz.underlying43, rfl, rfl, ?_⟩
  exact Tryz.isAgg9
theorem fo43_3 : FieldOf Tryz.prog 43 3 3 := by
  refine ⟨_, _, 0, Tryz.underlying43, rfl, rfl, ?_⟩
  exact Tryz.sizeOf9
theorem fv43_3 : FieldV1 Tryz.prog 43 3 3 := by
  refine ⟨_, _, Tryz.underlying43, rfl, rfl, ?_⟩
  exact Tryz.isAgg9
theorem fo43_4 : FieldOf Tryz.prog 43 4 4 := by
  refine ⟨_, _, 1, Tryz.underlying43, rfl, rfl, ?_⟩
  exact Tryz.sizeOf38
theorem fv43_4 : FieldVn Tryz.prog 43 4 4 2 := by
  refine ⟨_, _, Tryz.underlying43, rfl, rfl, ?_, ?_, by decide⟩
  · exact Tryz.isAgg38
  · exact Tryz.sizeOf38
theorem fo43_5 : FieldOf Tryz.prog 43 5 6 := by
  refine ⟨_, _, 0, Tryz.underlying43, rfl, rfl, ?_⟩
  exact Tryz.sizeOf9
theorem fv43_5 : FieldV1 Tryz.prog 43 5 6 := by
  refine ⟨_, _, Tryz.underlying43, rfl, rfl, ?_⟩
  exact Tryz.isAgg9
theorem fo43_6 : FieldOf Tryz.prog 43 6 7 := by
  refine ⟨_, _, 0, Tryz.underlying43, rfl, rfl, ?_⟩
  exact Tryz.sizeOf9
theorem fv43_6 : FieldV1 Tryz.prog 43 6 7 := by
  refine ⟨_, _, Tryz.underlying43, rfl, rfl, ?_⟩
  exact Tryz.isAgg9
theorem fo43_7 : FieldOf Tryz.prog 43 7 8 := by
  refine ⟨_, _, 0, Tryz.underlying43, rfl, rfl, ?_⟩
  exact Tryz.sizeOf39
theorem fv43_7 : FieldV1 Tryz.prog 43 7 8 := by
  refine ⟨_, _, Tryz.underlying43, rfl, rfl, ?_⟩
  exact Tryz.isAgg39
theorem fo43_8 : FieldOf Tryz.prog 43 8 9 := by
  refine ⟨_, _, 5, Tryz.underlying43, rfl, rfl, ?_⟩
  exact Tryz.sizeOf42
theorem fv43_8 : FieldVn Tryz.prog 43 8 9 6 := by
  refine ⟨_, _, Tryz.underlying43, rfl, rfl, ?_, ?_, by decide⟩
  · exact Tryz.isAgg42
  · exact Tryz.sizeOf42
theorem bo43 : BuildOf Tryz.prog 43 [(0, 1), (1, 1), (2, 1), (3, 1), (4, 2), (6, 1), (7, 1), (8, 1), (9, 6)] [.pv (.int .i64 0), .pv (.str ⟨#[]⟩), .pv (.str ⟨#[]⟩), .pv (.str ⟨#[]⟩), .pv (.int .i64 0), .pv (.int .i64 0), .pv (.str ⟨#[]⟩), .pv (.str ⟨#[]⟩), .pv (.sl []), .pv (.str ⟨#[]⟩), .pv (.int .i64 0), .pv (.int .i64 0), .pv (.int .i64 0), .pv (.sl []), .pv (.sl [])] := ⟨_, #[(0, 1), (1, 1), (2, 1), (3, 1), (4, 2), (6, 1), (7, 1), (8, 1), (9, 6)], _, _, Tryz.underlying43, Tryz.zeroValue43, .inl rfl, rfl, fun w => by simp [Tryz.sizeOf3, Tryz.sizeOf9, Tryz.sizeOf38, Tryz.sizeOf39, Tryz.sizeOf42], rfl⟩
theorem boN43 : BuildOf Tryz.prog 43 [(0, 1), (1, 1), (2, 1), (3, 1), (4, 2), (6, 1), (7, 1), (8, 1), (9, 6)] [.pv (.int .i64 0), .pv (.str ⟨#[]⟩), .pv (.str ⟨#[]⟩), .pv (.str ⟨#[]⟩), .pv (.int .i64 0), .pv (.int .i64 0), .pv (.str ⟨#[]⟩), .pv (.str ⟨#[]⟩), .pv .nils, .pv (.str ⟨#[]⟩), .pv (.int .i64 0), .pv (.int .i64 0), .pv (.int .i64 0), .pv .nils, .pv .nils] := ⟨_, #[(0, 1), (1, 1), (2, 1), (3, 1), (4, 2), (6, 1), (7, 1), (8, 1), (9, 6)], _, _, Tryz.underlying43, Tryz.zeroValue43, .inr rfl, rfl, fun w => by simp [Tryz.sizeOf3, Tryz.sizeOf9, Tryz.sizeOf38, Tryz.sizeOf39, Tryz.sizeOf42], rfl⟩
theorem zo44 : ZeroOf Tryz.prog 44 [.pv (.int .i64 0), .pv (.str ⟨#[]⟩), .pv (.str ⟨#[]⟩), .pv (.str ⟨#[]⟩), .pv (.int .i64 0), .pv (.int .i64 0), .pv (.str ⟨#[]⟩), .pv (.str ⟨#[]⟩), .pv (.sl []), .pv (.str ⟨#[]⟩), .pv (.int .i64 0), .pv (.int .i64 0), .pv (.int .i64 0), .pv (.sl []), .pv (.sl [])] := ⟨_, _, Tryz.zeroValue44, .inl rfl, rfl⟩
theorem zoN44 : ZeroOf Tryz.prog 44 [.pv (.int .i64 0), .pv (.str ⟨#[]⟩), .pv (.str ⟨#[]⟩), .pv (.str ⟨#[]⟩), .pv (.int .i64 0), .pv (.int .i64 0), .pv (.str ⟨#[]⟩), .pv (.str ⟨#[]⟩), .pv .nils, .pv (.str ⟨#[]⟩), .pv (.int .i64 0), .pv (.int .i64 0), .pv (.int .i64 0), .pv .nils, .pv .nils] := ⟨_, _, Tryz.zeroValue44, .inr rfl, rfl⟩
theorem fo44_0 : FieldOf Tryz.prog 44 0 0 := by
  refine ⟨_, _, 0, Tryz.underlying44, rfl, rfl, ?_⟩
  exact Tryz.sizeOf3
theorem fv44_0 : FieldV1 Tryz.prog 44 0 0 := by
  refine ⟨_, _, Tryz.underlying44, rfl, rfl, ?_⟩
  exact Tryz.isAgg3
theorem fo44_1 : FieldOf Tryz.prog 44 1 1 := by
  refine ⟨_, _, 0, Tryz.underlying44, rfl, rfl, ?_⟩
  exact Tryz.sizeOf9
theorem fv44_1 : FieldV1 Tryz.prog 44 1 1 := by
  refine ⟨_, _, Tryz.underlying44, rfl, rfl, ?_⟩
  exact Tryz.isAgg9
theorem fo44_2 : FieldOf Tryz.prog 44 2 2 := by
  refine ⟨_, _, 0, Tryz.underlying44, rfl, rfl, ?_⟩
  exact Tryz.sizeOf9
theorem fv44_2 : FieldV1 Tryz.prog 44 2 2 := by
  refine ⟨_, _, Tryz.underlying44, rfl, rfl, ?_⟩
  exact Tryz.isAgg9
theorem fo44_3 : FieldOf Tryz.prog 44 3 3 := by
  refine ⟨_, _, 0, Tryz.underlying44, rfl, rfl, ?_⟩
  exact Tryz.sizeOf9
theorem fv44_3 : FieldV1 Tryz.prog 44 3 3 := by
  refine ⟨_, _, Tryz.underlying44, rfl, rfl, ?_⟩
  exact Tryz.isAgg9
theorem fo44_4 : FieldOf Tryz.prog 44 4 4 := by
  refine ⟨_, _, 1, Tryz.underlying44, rfl, rfl, ?_⟩
  exact Tryz.sizeOf38
theorem fv44_4 : FieldVn Tryz.prog 44 4 4 2 := by
  refine ⟨_, _, Tryz.underlying44, rfl, rfl, ?_, ?_, by decide⟩
  · exact Tryz.isAgg38
  · exact Tryz.sizeOf38
theorem fo44_5 : FieldOf Tryz.prog 44 5 6 := by
  refine ⟨_, _, 0, Tryz.underlying44, rfl, rfl, ?_⟩
  exact Tryz.sizeOf9
theorem fv44_5 : FieldV1 Tryz.prog 44 5 6 := by
  refine ⟨_, _, Tryz.underlying44, rfl, rfl, ?_⟩
  exact Tryz.isAgg9
theorem fo44_6 : FieldOf Tryz.prog 44 6 7 := by
  refine ⟨_, _, 0, Tryz.underlying44, rfl, rfl, ?_⟩
  exact Tryz.sizeOf9
theorem fv44_6 : FieldV1 Tryz.prog 44 6 7 := by
  refine ⟨_, _, Tryz.underlying44, rfl, rfl, ?_⟩
  exact Tryz.isAgg9
theorem fo44_7 : FieldOf Tryz.prog 44 7 8 := by
  refine ⟨_, _, 0, Tryz.underlying44, rfl, rfl, ?_⟩
  exact Tryz.sizeOf39
theorem fv44_7 : FieldV1 Tryz.prog 44 7 8 := by
  refine ⟨_, _, Tryz.underlying44, rfl, rfl, ?_⟩
  exact Tryz.isAgg39
theorem fo44_8 : FieldOf Tryz.prog 44 8 9 := by
  refine ⟨_, _, 5, Tryz.underlying44, rfl, rfl, ?_⟩
  exact Tryz.sizeOf42
theorem fv44_8 : FieldVn Tryz.prog 44 8 9 6 := by
  refine ⟨_, _, Tryz.underlying44, rfl, rfl, ?_, ?_, by decide⟩
  · exact Tryz.isAgg42
  · exact Tryz.sizeOf42
theorem bo44 : BuildOf Tryz.prog 44 [(0, 1), (1, 1), (2, 1), (3, 1), (4, 2), (6, 1), (7, 1), (8, 1), (9, 6)] [.pv (.int .i64 0), .pv (.str ⟨#[]⟩), .pv (.str ⟨#[]⟩), .pv (.str ⟨#[]⟩), .pv (.int .i64 0), .pv (.int .i64 0), .pv (.str ⟨#[]⟩), .pv (.str ⟨#[]⟩), .pv (.sl []), .pv (.str ⟨#[]⟩), .pv (.int .i64 0), .pv (.int .i64 0), .pv (.int .i64 0), .pv (.sl []), .pv (.sl [])] := ⟨_, #[(0, 1), (1, 1), (2, 1), (3, 1), (4, 2), (6, 1), (7, 1), (8, 1), (9, 6)], _, _, Tryz.underlying44, Tryz.zeroValue44, .inl rfl, rfl, fun w => by simp [Tryz.sizeOf3, Tryz.sizeOf9, Tryz.sizeOf38, Tryz.sizeOf39, Tryz.sizeOf42], rfl⟩
theorem boN44 : BuildOf Tryz.prog 44 [(0, 1), (1, 1), (2, 1), (3, 1), (4, 2), (6, 1), (7, 1), (8, 1), (9, 6)] [.pv (.int .i64 0), .pv (.str ⟨#[]⟩), .pv (.str ⟨#[]⟩), .pv (.str ⟨#[]⟩), .pv (.int .i64 0), .pv (.int .i64 0), .pv (.str ⟨#[]⟩), .pv (.str ⟨#[]⟩), .pv .nils, .pv (.str ⟨#[]⟩), .pv (.int .i64 0), .pv (.int .i64 0), .pv (.int .i64 0), .pv .nils, .pv .nils] := ⟨_, #[(0, 1), (1, 1), (2, 1), (3, 1), (4, 2), (6, 1), (7, 1), (8, 1), (9, 6)], _, _, Tryz.underlying44, Tryz.zeroValue44, .inr rfl, rfl, fun w => by simp [Tryz.sizeOf3, Tryz.sizeOf9, Tryz.sizeOf38, Tryz.sizeOf39, Tryz.sizeOf42], rfl⟩
theorem zo48 : ZeroOf Tryz.prog 48 [.pv (.int .i64 0)] := ⟨_, _, Tryz.zeroValue48, .inl rfl, rfl⟩
theorem zo61 : ZeroOf Tryz.prog 61 [.pv (.str ⟨#[]⟩), .pv (.str ⟨#[]⟩)] := ⟨_, _, Tryz.zeroValue61, .inl rfl, rfl⟩
theorem fo61_0 : FieldOf Tryz.prog 61 0 0 := by
  refine ⟨_, _, 0, Tryz.underlying61, rfl, rfl, ?_⟩
  exact Tryz.sizeOf9
theorem fv61_0 : FieldV1 Tryz.prog 61 0 0 := by
  refine ⟨_, _, Tryz.underlying61, rfl, rfl, ?_⟩
  exact Tryz.isAgg9
theorem fo61_1 : FieldOf Tryz.prog 61 1 1 := by
  refine ⟨_, _, 0, Tryz.underlying61, rfl, rfl, ?_⟩
  exact Tryz.sizeOf9
theorem fv61_1 : FieldV1 Tryz.prog 61 1 1 := by
  refine ⟨_, _, Tryz.underlying61, rfl, rfl, ?_⟩
  exact Tryz.isAgg9
theorem bo61 : BuildOf Tryz.prog 61 [(0, 1), (1, 1)] [.pv (.str ⟨#[]⟩), .pv (.str ⟨#[]⟩)] := ⟨_, #[(0, 1), (1, 1)], _, _, Tryz.underlying61, Tryz.zeroValue61, .inl rfl, rfl, fun w => by simp [Tryz.sizeOf9], rfl⟩
theorem zo62 : ZeroOf Tryz.prog 62 [.pv (.str ⟨#[]⟩), .pv (.str ⟨#[]⟩)] := ⟨_, _, Tryz.zeroValue62, .inl rfl, rfl⟩
theorem fo62_0 : FieldOf Tryz.prog 62 0 0 := by
  refine ⟨_, _, 0, Tryz.underlying62, rfl, rfl, ?_⟩
  exact Tryz.sizeOf9
theorem fv62_0 : FieldV1 Tryz.prog 62 0 0 := by
  refine ⟨_, _, Tryz.underlying62, rfl, rfl, ?_⟩
  exact Tryz.isAgg9
theorem fo62_1 : FieldOf Tryz.prog 62 1 1 := by
  refine ⟨_, _, 0, Tryz.underlying62, rfl, rfl, ?_⟩
  exact Tryz.sizeOf9
theorem fv62_1 : FieldV1 Tryz.prog 62 1 1 := by
  refine ⟨_, _, Tryz.underlying62, rfl, rfl, ?_⟩
  exact Tryz.isAgg9
theorem bo62 : BuildOf Tryz.prog 62 [(0, 1), (1, 1)] [.pv (.str ⟨#[]⟩), .pv (.str ⟨#[]⟩)] := ⟨_, #[(0, 1), (1, 1)], _, _, Tryz.underlying62, Tryz.zeroValue62, .inl rfl, rfl, fun w => by simp [Tryz.sizeOf9], rfl⟩
theorem se62 (a0 b0 : ByteArray) (a1 b1 : ByteArray) (w : World) : (Op.equalIn 10000 62 (.agg [.string a0, .string a1].toArray) (.agg [.string b0, .string b1].toArray)).run Tryz.prog w = .ok (decide (a0 = b0) && decide (a1 = b1)) w := by
  refine (run_equalIn_struct (P := Tryz.prog) w 9999 62 _ _ (by simp [Program.fieldsOf, Tryz.underlying62]) Tryz.stoodInHeld62).trans ?_
  have h9 : ∀ (d : Nat) (a b : ByteArray) (w : World), (Op.equalIn (d + 1) 9 (.string a) (.string b)).run Tryz.prog w = .ok (decide (a = b)) w := fun d a b w => by rw [run_equalIn_string w d 9 a b Tryz.underlying9, list_beq]
  by_cases e0 : a0 = b0 <;> by_cases e1 : a1 = b1 <;> simp [Program.fieldsOf, Tryz.underlying62, Op.eqFields, part, h9, Tryz.isAgg9, e0, e1]
theorem zo63 : ZeroOf Tryz.prog 63 [.pv (.sl [])] := ⟨_, _, Tryz.zeroValue63, .inl rfl, rfl⟩
theorem zoN63 : ZeroOf Tryz.prog 63 [.pv .nils] := ⟨_, _, Tryz.zeroValue63, .inr rfl, rfl⟩
theorem so63 : SliceOf Tryz.prog 63 66 15 := ⟨Tryz.underlying63, Tryz.sizeOf66, by decide, _, Tryz.zeroValue66⟩
theorem ei66 : EI Tryz.prog 66 15 200 := EI.mk (z := (Value.agg #[(Value.string ⟨#[]⟩), (Value.bool false), (Value.bool false), (Value.string ⟨#[]⟩), (Value.int IntKind.i64 (0)), (Value.int IntKind.i64 (0)), (Value.int IntKind.i64 (0)), (Value.slice none (0) (0)), (Value.slice none (0) (0)), (Value.string ⟨#[]⟩), (Value.int IntKind.i64 (0)), (Value.int IntKind.i64 (0)), (Value.int IntKind.i64 (0)), (Value.slice none (0) (0)), (Value.slice none (0) (0))])) (by kernel_rfl) rfl (by decide) (by decide)
theorem zo65 : ZeroOf Tryz.prog 65 [.pv (.str ⟨#[]⟩), .pv (.bool false), .pv (.bool false), .pv (.str ⟨#[]⟩), .pv (.int .i64 0), .pv (.int .i64 0), .pv (.int .i64 0), .pv (.sl []), .pv (.sl []), .pv (.str ⟨#[]⟩), .pv (.int .i64 0), .pv (.int .i64 0), .pv (.int .i64 0), .pv (.sl []), .pv (.sl [])] := ⟨_, _, Tryz.zeroValue65, .inl rfl, rfl⟩
theorem zoN65 : ZeroOf Tryz.prog 65 [.pv (.str ⟨#[]⟩), .pv (.bool false), .pv (.bool false), .pv (.str ⟨#[]⟩), .pv (.int .i64 0), .pv (.int .i64 0), .pv (.int .i64 0), .pv .nils, .pv .nils, .pv (.str ⟨#[]⟩), .pv (.int .i64 0), .pv (.int .i64 0), .pv (.int .i64 0), .pv .nils, .pv .nils] := ⟨_, _, Tryz.zeroValue65, .inr rfl, rfl⟩
theorem fo65_0 : FieldOf Tryz.prog 65 0 0 := by
  refine ⟨_, _, 0, Tryz.underlying65, rfl, rfl, ?_⟩
  exact Tryz.sizeOf9
theorem fv65_0 : FieldV1 Tryz.prog 65 0 0 := by
  refine ⟨_, _, Tryz.underlying65, rfl, rfl, ?_⟩
  exact Tryz.isAgg9
theorem fo65_1 : FieldOf Tryz.prog 65 1 1 := by
  refine ⟨_, _, 0, Tryz.underlying65, rfl, rfl, ?_⟩
  exact Tryz.sizeOf4
theorem fv65_1 : FieldV1 Tryz.prog 65 1 1 := by
  refine ⟨_, _, Tryz.underlying65, rfl, rfl, ?_⟩
  exact Tryz.isAgg4
theorem fo65_2 : FieldOf Tryz.prog 65 2 2 := by
  refine ⟨_, _, 0, Tryz.underlying65, rfl, rfl, ?_⟩
  exact Tryz.sizeOf4
theorem fv65_2 : FieldV1 Tryz.prog 65 2 2 := by
  refine ⟨_, _, Tryz.underlying65, rfl, rfl, ?_⟩
  exact Tryz.isAgg4
theorem fo65_3 : FieldOf Tryz.prog 65 3 3 := by
  refine ⟨_, _, 5, Tryz.underlying65, rfl, rfl, ?_⟩
  exact Tryz.sizeOf42
theorem fv65_3 : FieldVn Tryz.prog 65 3 3 6 := by
  refine ⟨_, _, Tryz.underlying65, rfl, rfl, ?_, ?_, by decide⟩
  · exact Tryz.isAgg42
  · exact Tryz.sizeOf42
theorem fo65_4 : FieldOf Tryz.prog 65 4 9 := by
  refine ⟨_, _, 5, Tryz.underlying65, rfl, rfl, ?_⟩
  exact Tryz.sizeOf42
theorem fv65_4 : FieldVn Tryz.prog 65 4 9 6 := by
  refine ⟨_, _, Tryz.underlying65, rfl, rfl, ?_, ?_, by decide⟩
  · exact Tryz.isAgg42
  · exact Tryz.sizeOf42
theorem bo65 : BuildOf Tryz.prog 65 [(0, 1), (1, 1), (2, 1), (3, 6), (9, 6)] [.pv (.str ⟨#[]⟩), .pv (.bool false), .pv (.bool false), .pv (.str ⟨#[]⟩), .pv (.int .i64 0), .pv (.int .i64 0), .pv (.int .i64 0), .pv (.sl []), .pv (.sl []), .pv (.str ⟨#[]⟩), .pv (.int .i64 0), .pv (.int .i64 0), .pv (.int .i64 0), .pv (.sl []), .pv (.sl [])] := ⟨_, #[(0, 1), (1, 1), (2, 1), (3, 6), (9, 6)], _, _, Tryz.underlying65, Tryz.zeroValue65, .inl rfl, rfl, fun w => by simp [Tryz.sizeOf4, Tryz.sizeOf9, Tryz.sizeOf42], rfl⟩
theorem boN65 : BuildOf Tryz.prog 65 [(0, 1), (1, 1), (2, 1), (3, 6), (9, 6)] [.pv (.str ⟨#[]⟩), .pv (.bool false), .pv (.bool false), .pv (.str ⟨#[]⟩), .pv (.int .i64 0), .pv (.int .i64 0), .pv (.int .i64 0), .pv .nils, .pv .nils, .pv (.str ⟨#[]⟩), .pv (.int .i64 0), .pv (.int .i64 0), .pv (.int .i64 0), .pv .nils, .pv .nils] := ⟨_, #[(0, 1), (1, 1), (2, 1), (3, 6), (9, 6)], _, _, Tryz.underlying65, Tryz.zeroValue65, .inr rfl, rfl, fun w => by simp [Tryz.sizeOf4, Tryz.sizeOf9, Tryz.sizeOf42], rfl⟩
theorem zo66 : ZeroOf Tryz.prog 66 [.pv (.str ⟨#[]⟩), .pv (.bool false), .pv (.bool false), .pv (.str ⟨#[]⟩), .pv (.int .i64 0), .pv (.int .i64 0), .pv (.int .i64 0), .pv (.sl []), .pv (.sl []), .pv (.str ⟨#[]⟩), .pv (.int .i64 0), .pv (.int .i64 0), .pv (.int .i64 0), .pv (.sl []), .pv (.sl [])] := ⟨_, _, Tryz.zeroValue66, .inl rfl, rfl⟩
theorem zoN66 : ZeroOf Tryz.prog 66 [.pv (.str ⟨#[]⟩), .pv (.bool false), .pv (.bool false), .pv (.str ⟨#[]⟩), .pv (.int .i64 0), .pv (.int .i64 0), .pv (.int .i64 0), .pv .nils, .pv .nils, .pv (.str ⟨#[]⟩), .pv (.int .i64 0), .pv (.int .i64 0), .pv (.int .i64 0), .pv .nils, .pv .nils] := ⟨_, _, Tryz.zeroValue66, .inr rfl, rfl⟩
theorem fo66_0 : FieldOf Tryz.prog 66 0 0 := by
  refine ⟨_, _, 0, Tryz.underlying66, rfl, rfl, ?_⟩
  exact Tryz.sizeOf9
theorem fv66_0 : FieldV1 Tryz.prog 66 0 0 := by
  refine ⟨_, _, Tryz.underlying66, rfl, rfl, ?_⟩
  exact Tryz.isAgg9
theorem fo66_1 : FieldOf Tryz.prog 66 1 1 := by
  refine ⟨_, _, 0, Tryz.underlying66, rfl, rfl, ?_⟩
  exact Tryz.sizeOf4
theorem fv66_1 : FieldV1 Tryz.prog 66 1 1 := by
  refine ⟨_, _, Tryz.underlying66, rfl, rfl, ?_⟩
  exact Tryz.isAgg4
theorem fo66_2 : FieldOf Tryz.prog 66 2 2 := by
  refine ⟨_, _, 0, Tryz.underlying66, rfl, rfl, ?_⟩
  exact Tryz.sizeOf4
theorem fv66_2 : FieldV1 Tryz.prog 66 2 2 := by
  refine ⟨_, _, Tryz.underlying66, rfl, rfl, ?_⟩
  exact Tryz.isAgg4
theorem fo66_3 : FieldOf Tryz.prog 66 3 3 := by
  refine ⟨_, _, 5, Tryz.underlying66, rfl, rfl, ?_⟩
  exact Tryz.sizeOf42
theorem fv66_3 : FieldVn Tryz.prog 66 3 3 6 := by
  refine ⟨_, _, Tryz.underlying66, rfl, rfl, ?_, ?_, by decide⟩
  · exact Tryz.isAgg42
  · exact Tryz.sizeOf42
theorem fo66_4 : FieldOf Tryz.prog 66 4 9 := by
  refine ⟨_, _, 5, Tryz.underlying66, rfl, rfl, ?_⟩
  exact Tryz.sizeOf42
theorem fv66_4 : FieldVn Tryz.prog 66 4 9 6 := by
  refine ⟨_, _, Tryz.underlying66, rfl, rfl, ?_, ?_, by decide⟩
  · exact Tryz.isAgg42
  · exact Tryz.sizeOf42
theorem bo66 : BuildOf Tryz.prog 66 [(0, 1), (1, 1), (2, 1), (3, 6), (9, 6)] [.pv (.str ⟨#[]⟩), .pv (.bool false), .pv (.bool false), .pv (.str ⟨#[]⟩), .pv (.int .i64 0), .pv (.int .i64 0), .pv (.int .i64 0), .pv (.sl []), .pv (.sl []), .pv (.str ⟨#[]⟩), .pv (.int .i64 0), .pv (.int .i64 0), .pv (.int .i64 0), .pv (.sl []), .pv (.sl [])] := ⟨_, #[(0, 1), (1, 1), (2, 1), (3, 6), (9, 6)], _, _, Tryz.underlying66, Tryz.zeroValue66, .inl rfl, rfl, fun w => by simp [Tryz.sizeOf4, Tryz.sizeOf9, Tryz.sizeOf42], rfl⟩
theorem boN66 : BuildOf Tryz.prog 66 [(0, 1), (1, 1), (2, 1), (3, 6), (9, 6)] [.pv (.str ⟨#[]⟩), .pv (.bool false), .pv (.bool false), .pv (.str ⟨#[]⟩), .pv (.int .i64 0), .pv (.int .i64 0), .pv (.int .i64 0), .pv .nils, .pv .nils, .pv (.str ⟨#[]⟩), .pv (.int .i64 0), .pv (.int .i64 0), .pv (.int .i64 0), .pv .nils, .pv .nils] := ⟨_, #[(0, 1), (1, 1), (2, 1), (3, 6), (9, 6)], _, _, Tryz.underlying66, Tryz.zeroValue66, .inr rfl, rfl, fun w => by simp [Tryz.sizeOf4, Tryz.sizeOf9, Tryz.sizeOf42], rfl⟩
theorem zo67 : ZeroOf Tryz.prog 67 [.pv .nilm] := ⟨_, _, Tryz.zeroValue67, .inl rfl, rfl⟩
theorem zo76 : ZeroOf Tryz.prog 76 [.pv (.sl [])] := ⟨_, _, Tryz.zeroValue76, .inl rfl, rfl⟩
theorem zoN76 : ZeroOf Tryz.prog 76 [.pv .nils] := ⟨_, _, Tryz.zeroValue76, .inr rfl, rfl⟩
theorem so76 : SliceOf Tryz.prog 76 80 4 := ⟨Tryz.underlying76, Tryz.sizeOf80, by decide, _, Tryz.zeroValue80⟩
theorem ei80 : EI Tryz.prog 80 4 32 := EI.mk (z := (Value.agg #[(Value.int IntKind.i64 (0)), (Value.int IntKind.i64 (0)), Value.nilFunc, Value.nilFunc])) (by kernel_rfl) rfl (by decide) (by decide)
theorem zo79 : ZeroOf Tryz.prog 79 [.pv (.int .i64 0), .pv (.int .i64 0), .pv .nilfn, .pv .nilfn] := ⟨_, _, Tryz.zeroValue79, .inl rfl, rfl⟩
theorem fo79_0 : FieldOf Tryz.prog 79 0 0 := by
  refine ⟨_, _, 0, Tryz.underlying79, rfl, rfl, ?_⟩
  exact Tryz.sizeOf3
theorem fv79_0 : FieldV1 Tryz.prog 79 0 0 := by
  refine ⟨_, _, Tryz.underlying79, rfl, rfl, ?_⟩
  exact Tryz.isAgg3
theorem fo79_1 : FieldOf Tryz.prog 79 1 1 := by
  refine ⟨_, _, 0, Tryz.underlying79, rfl, rfl, ?_⟩
  exact Tryz.sizeOf3
theorem fv79_1 : FieldV1 Tryz.prog 79 1 1 := by
  refine ⟨_, _, Tryz.underlying79, rfl, rfl, ?_⟩
  exact Tryz.isAgg3
theorem fo79_2 : FieldOf Tryz.prog 79 2 2 := by
  refine ⟨_, _, 0, Tryz.underlying79, rfl, rfl, ?_⟩
  exact Tryz.sizeOf45
theorem fv79_2 : FieldV1 Tryz.prog 79 2 2 := by
  refine ⟨_, _, Tryz.underlying79, rfl, rfl, ?_⟩
  exact Tryz.isAgg45
theorem fo79_3 : FieldOf Tryz.prog 79 3 3 := by
  refine ⟨_, _, 0, Tryz.underlying79, rfl, rfl, ?_⟩
  exact Tryz.sizeOf78
theorem fv79_3 : FieldV1 Tryz.prog 79 3 3 := by
  refine ⟨_, _, Tryz.underlying79, rfl, rfl, ?_⟩
  exact Tryz.isAgg78
theorem bo79 : BuildOf Tryz.prog 79 [(0, 1), (1, 1), (2, 1), (3, 1)] [.pv (.int .i64 0), .pv (.int .i64 0), .pv .nilfn, .pv .nilfn] := ⟨_, #[(0, 1), (1, 1), (2, 1), (3, 1)], _, _, Tryz.underlying79, Tryz.zeroValue79, .inl rfl, rfl, fun w => by simp [Tryz.sizeOf3, Tryz.sizeOf45, Tryz.sizeOf78], rfl⟩
theorem zo80 : ZeroOf Tryz.prog 80 [.pv (.int .i64 0), .pv (.int .i64 0), .pv .nilfn, .pv .nilfn] := ⟨_, _, Tryz.zeroValue80, .inl rfl, rfl⟩
theorem fo80_0 : FieldOf Tryz.prog 80 0 0 := by
  refine ⟨_, _, 0, Tryz.underlying80, rfl, rfl, ?_⟩
  exact Tryz.sizeOf3
theorem fv80_0 : FieldV1 Tryz.prog 80 0 0 := by
  refine ⟨_, _, Tryz.underlying80, rfl, rfl, ?_⟩
  exact Tryz.isAgg3
theorem fo80_1 : FieldOf Tryz.prog 80 1 1 := by
  refine ⟨_, _, 0, Tryz.underlying80, rfl, rfl, ?_⟩
  exact Tryz.sizeOf3
theorem fv80_1 : FieldV1 Tryz.prog 80 1 1 := by
  refine ⟨_, _, Tryz.underlying80, rfl, rfl, ?_⟩
  exact Tryz.isAgg3
theorem fo80_2 : FieldOf Tryz.prog 80 2 2 := by
  refine ⟨_, _, 0, Tryz.underlying80, rfl, rfl, ?_⟩
  exact Tryz.sizeOf45
theorem fv80_2 : FieldV1 Tryz.prog 80 2 2 := by
  refine ⟨_, _, Tryz.underlying80, rfl, rfl, ?_⟩
  exact Tryz.isAgg45
theorem fo80_3 : FieldOf Tryz.prog 80 3 3 := by
  refine ⟨_, _, 0, Tryz.underlying80, rfl, rfl, ?_⟩
  exact Tryz.sizeOf78
theorem fv80_3 : FieldV1 Tryz.prog 80 3 3 := by
  refine ⟨_, _, Tryz.underlying80, rfl, rfl, ?_⟩
  exact Tryz.isAgg78
theorem bo80 : BuildOf Tryz.prog 80 [(0, 1), (1, 1), (2, 1), (3, 1)] [.pv (.int .i64 0), .pv (.int .i64 0), .pv .nilfn, .pv .nilfn] := ⟨_, #[(0, 1), (1, 1), (2, 1), (3, 1)], _, _, Tryz.underlying80, Tryz.zeroValue80, .inl rfl, rfl, fun w => by simp [Tryz.sizeOf3, Tryz.sizeOf45, Tryz.sizeOf78], rfl⟩
theorem zo91 : ZeroOf Tryz.prog 91 [.pv (.int .i64 0), .pv .nilfn, .pv .nilfn] := ⟨_, _, Tryz.zeroValue91, .inl rfl, rfl⟩
theorem fo91_0 : FieldOf Tryz.prog 91 0 0 := by
  refine ⟨_, _, 0, Tryz.underlying91, rfl, rfl, ?_⟩
  exact Tryz.sizeOf3
theorem fv91_0 : FieldV1 Tryz.prog 91 0 0 := by
  refine ⟨_, _, Tryz.underlying91, rfl, rfl, ?_⟩
  exact Tryz.isAgg3
theorem fo91_1 : FieldOf Tryz.prog 91 1 1 := by
  refine ⟨_, _, 0, Tryz.underlying91, rfl, rfl, ?_⟩
  exact Tryz.sizeOf52
theorem fv91_1 : FieldV1 Tryz.prog 91 1 1 := by
  refine ⟨_, _, Tryz.underlying91, rfl, rfl, ?_⟩
  exact Tryz.isAgg52
theorem fo91_2 : FieldOf Tryz.prog 91 2 2 := by
  refine ⟨_, _, 0, Tryz.underlying91, rfl, rfl, ?_⟩
  exact Tryz.sizeOf78
theorem fv91_2 : FieldV1 Tryz.prog 91 2 2 := by
  refine ⟨_, _, Tryz.underlying91, rfl, rfl, ?_⟩
  exact Tryz.isAgg78
theorem bo91 : BuildOf Tryz.prog 91 [(0, 1), (1, 1), (2, 1)] [.pv (.int .i64 0), .pv .nilfn, .pv .nilfn] := ⟨_, #[(0, 1), (1, 1), (2, 1)], _, _, Tryz.underlying91, Tryz.zeroValue91, .inl rfl, rfl, fun w => by simp [Tryz.sizeOf3, Tryz.sizeOf52, Tryz.sizeOf78], rfl⟩
theorem zo92 : ZeroOf Tryz.prog 92 [.pv (.int .i64 0), .pv .nilfn, .pv .nilfn] := ⟨_, _, Tryz.zeroValue92, .inl rfl, rfl⟩
theorem fo92_0 : FieldOf Tryz.prog 92 0 0 := by
  refine ⟨_, _, 0, Tryz.underlying92, rfl, rfl, ?_⟩
  exact Tryz.sizeOf3
theorem fv92_0 : FieldV1 Tryz.prog 92 0 0 := by
  refine ⟨_, _, Tryz.underlying92, rfl, rfl, ?_⟩
  exact Tryz.isAgg3
theorem fo92_1 : FieldOf Tryz.prog 92 1 1 := by
  refine ⟨_, _, 0, Tryz.underlying92, rfl, rfl, ?_⟩
  exact Tryz.sizeOf52
theorem fv92_1 : FieldV1 Tryz.prog 92 1 1 := by
  refine ⟨_, _, Tryz.underlying92, rfl, rfl, ?_⟩
  exact Tryz.isAgg52
theorem fo92_2 : FieldOf Tryz.prog 92 2 2 := by
  refine ⟨_, _, 0, Tryz.underlying92, rfl, rfl, ?_⟩
  exact Tryz.sizeOf78
theorem fv92_2 : FieldV1 Tryz.prog 92 2 2 := by
  refine ⟨_, _, Tryz.underlying92, rfl, rfl, ?_⟩
  exact Tryz.isAgg78
theorem bo92 : BuildOf Tryz.prog 92 [(0, 1), (1, 1), (2, 1)] [.pv (.int .i64 0), .pv .nilfn, .pv .nilfn] := ⟨_, #[(0, 1), (1, 1), (2, 1)], _, _, Tryz.underlying92, Tryz.zeroValue92, .inl rfl, rfl, fun w => by simp [Tryz.sizeOf3, Tryz.sizeOf52, Tryz.sizeOf78], rfl⟩
theorem zo93 : ZeroOf Tryz.prog 93 [.pv (.int .i64 0), .pv .nilfn, .pv .nilfn, .pv (.int .i64 0), .pv .nilfn, .pv .nilfn, .pv (.int .i64 0), .pv .nilfn, .pv .nilfn, .pv (.int .i64 0), .pv .nilfn, .pv .nilfn, .pv (.int .i64 0), .pv .nilfn, .pv .nilfn] := ⟨_, _, Tryz.zeroValue93, .inl rfl, rfl⟩
theorem ao93 : ArrayOf Tryz.prog 93 3 [.pv (.int .i64 0), .pv .nilfn, .pv .nilfn, .pv (.int .i64 0), .pv .nilfn, .pv .nilfn, .pv (.int .i64 0), .pv .nilfn, .pv .nilfn, .pv (.int .i64 0), .pv .nilfn, .pv .nilfn, .pv (.int .i64 0), .pv .nilfn, .pv .nilfn] := ⟨_, _, _, _, Tryz.underlying93, Tryz.zeroValue93, .inl rfl, rfl, Tryz.sizeOf92⟩
theorem zo97 : ZeroOf Tryz.prog 97 [.pv .nilp] := ⟨_, _, Tryz.zeroValue97, .inl rfl, rfl⟩
theorem zo103 : ZeroOf Tryz.prog 103 [.pv .nilm] := ⟨_, _, Tryz.zeroValue103, .inl rfl, rfl⟩
theorem zo104 : ZeroOf Tryz.prog 104 [.pv (.sl []), .pv .nilm] := ⟨_, _, Tryz.zeroValue104, .inl rfl, rfl⟩
theorem zoN104 : ZeroOf Tryz.prog 104 [.pv .nils, .pv .nilm] := ⟨_, _, Tryz.zeroValue104, .inr rfl, rfl⟩
theorem fo104_0 : FieldOf Tryz.prog 104 0 0 := by
  refine ⟨_, _, 0, Tryz.underlying104, rfl, rfl, ?_⟩
  exact Tryz.sizeOf24
theorem fv104_0 : FieldVn Tryz.prog 104 0 0 1 := by
  refine ⟨_, _, Tryz.underlying104, rfl, rfl, ?_, ?_, by decide⟩
  · exact Tryz.isAgg24
  · exact Tryz.sizeOf24
theorem fo104_1 : FieldOf Tryz.prog 104 1 1 := by
  refine ⟨_, _, 0, Tryz.underlying104, rfl, rfl, ?_⟩
  exact Tryz.sizeOf103
theorem fv104_1 : FieldV1 Tryz.prog 104 1 1 := by
  refine ⟨_, _, Tryz.underlying104, rfl, rfl, ?_⟩
  exact Tryz.isAgg103
theorem bo104 : BuildOf Tryz.prog 104 [(0, 1), (1, 1)] [.pv (.sl []), .pv .nilm] := ⟨_, #[(0, 1), (1, 1)], _, _, Tryz.underlying104, Tryz.zeroValue104, .inl rfl, rfl, fun w => by simp [Tryz.sizeOf24, Tryz.sizeOf103], rfl⟩
theorem boN104 : BuildOf Tryz.prog 104 [(0, 1), (1, 1)] [.pv .nils, .pv .nilm] := ⟨_, #[(0, 1), (1, 1)], _, _, Tryz.underlying104, Tryz.zeroValue104, .inr rfl, rfl, fun w => by simp [Tryz.sizeOf24, Tryz.sizeOf103], rfl⟩
theorem zo105 : ZeroOf Tryz.prog 105 [.pv (.sl []), .pv .nilm] := ⟨_, _, Tryz.zeroValue105, .inl rfl, rfl⟩
theorem zoN105 : ZeroOf Tryz.prog 105 [.pv .nils, .pv .nilm] := ⟨_, _, Tryz.zeroValue105, .inr rfl, rfl⟩
theorem fo105_0 : FieldOf Tryz.prog 105 0 0 := by
  refine ⟨_, _, 0, Tryz.underlying105, rfl, rfl, ?_⟩
  exact Tryz.sizeOf24
theorem fv105_0 : FieldVn Tryz.prog 105 0 0 1 := by
  refine ⟨_, _, Tryz.underlying105, rfl, rfl, ?_, ?_, by decide⟩
  · exact Tryz.isAgg24
  · exact Tryz.sizeOf24
theorem fo105_1 : FieldOf Tryz.prog 105 1 1 := by
  refine ⟨_, _, 0, Tryz.underlying105, rfl, rfl, ?_⟩
  exact Tryz.sizeOf103
theorem fv105_1 : FieldV1 Tryz.prog 105 1 1 := by
  refine ⟨_, _, Tryz.underlying105, rfl, rfl, ?_⟩
  exact Tryz.isAgg103
theorem bo105 : BuildOf Tryz.prog 105 [(0, 1), (1, 1)] [.pv (.sl []), .pv .nilm] := ⟨_, #[(0, 1), (1, 1)], _, _, Tryz.underlying105, Tryz.zeroValue105, .inl rfl, rfl, fun w => by simp [Tryz.sizeOf24, Tryz.sizeOf103], rfl⟩
theorem boN105 : BuildOf Tryz.prog 105 [(0, 1), (1, 1)] [.pv .nils, .pv .nilm] := ⟨_, #[(0, 1), (1, 1)], _, _, Tryz.underlying105, Tryz.zeroValue105, .inr rfl, rfl, fun w => by simp [Tryz.sizeOf24, Tryz.sizeOf103], rfl⟩
theorem zo134 : ZeroOf Tryz.prog 134 [.pv (.str ⟨#[]⟩), .pv (.str ⟨#[]⟩), .pv (.str ⟨#[]⟩), .pv (.str ⟨#[]⟩)] := ⟨_, _, Tryz.zeroValue134, .inl rfl, rfl⟩
theorem ao134 : ArrayOf Tryz.prog 134 1 [.pv (.str ⟨#[]⟩), .pv (.str ⟨#[]⟩), .pv (.str ⟨#[]⟩), .pv (.str ⟨#[]⟩)] := ⟨_, _, _, _, Tryz.underlying134, Tryz.zeroValue134, .inl rfl, rfl, Tryz.sizeOf9⟩
theorem zo138 : ZeroOf Tryz.prog 138 [.pv (.sl []), .pv (.str ⟨#[]⟩), .pv (.int .i64 0)] := ⟨_, _, Tryz.zeroValue138, .inl rfl, rfl⟩
theorem zoN138 : ZeroOf Tryz.prog 138 [.pv .nils, .pv (.str ⟨#[]⟩), .pv (.int .i64 0)] := ⟨_, _, Tryz.zeroValue138, .inr rfl, rfl⟩
theorem fo138_0 : FieldOf Tryz.prog 138 0 0 := by
  refine ⟨_, _, 0, Tryz.underlying138, rfl, rfl, ?_⟩
  exact Tryz.sizeOf22
theorem fv138_0 : FieldV1 Tryz.prog 138 0 0 := by
  refine ⟨_, _, Tryz.underlying138, rfl, rfl, ?_⟩
  exact Tryz.isAgg22
theorem fo138_1 : FieldOf Tryz.prog 138 1 1 := by
  refine ⟨_, _, 0, Tryz.underlying138, rfl, rfl, ?_⟩
  exact Tryz.sizeOf9
theorem fv138_1 : FieldV1 Tryz.prog 138 1 1 := by
  refine ⟨_, _, Tryz.underlying138, rfl, rfl, ?_⟩
  exact Tryz.isAgg9
theorem fo138_2 : FieldOf Tryz.prog 138 2 2 := by
  refine ⟨_, _, 0, Tryz.underlying138, rfl, rfl, ?_⟩
  exact Tryz.sizeOf48
theorem fv138_2 : FieldV1 Tryz.prog 138 2 2 := by
  refine ⟨_, _, Tryz.underlying138, rfl, rfl, ?_⟩
  exact Tryz.isAgg48
theorem bo138 : BuildOf Tryz.prog 138 [(0, 1), (1, 1), (2, 1)] [.pv (.sl []), .pv (.str ⟨#[]⟩), .pv (.int .i64 0)] := ⟨_, #[(0, 1), (1, 1), (2, 1)], _, _, Tryz.underlying138, Tryz.zeroValue138, .inl rfl, rfl, fun w => by simp [Tryz.sizeOf9, Tryz.sizeOf22, Tryz.sizeOf48], rfl⟩
theorem boN138 : BuildOf Tryz.prog 138 [(0, 1), (1, 1), (2, 1)] [.pv .nils, .pv (.str ⟨#[]⟩), .pv (.int .i64 0)] := ⟨_, #[(0, 1), (1, 1), (2, 1)], _, _, Tryz.underlying138, Tryz.zeroValue138, .inr rfl, rfl, fun w => by simp [Tryz.sizeOf9, Tryz.sizeOf22, Tryz.sizeOf48], rfl⟩
theorem zo139 : ZeroOf Tryz.prog 139 [.pv (.sl []), .pv (.str ⟨#[]⟩), .pv (.int .i64 0)] := ⟨_, _, Tryz.zeroValue139, .inl rfl, rfl⟩
theorem zoN139 : ZeroOf Tryz.prog 139 [.pv .nils, .pv (.str ⟨#[]⟩), .pv (.int .i64 0)] := ⟨_, _, Tryz.zeroValue139, .inr rfl, rfl⟩
theorem fo139_0 : FieldOf Tryz.prog 139 0 0 := by
  refine ⟨_, _, 0, Tryz.underlying139, rfl, rfl, ?_⟩
  exact Tryz.sizeOf22
theorem fv139_0 : FieldV1 Tryz.prog 139 0 0 := by
  refine ⟨_, _, Tryz.underlying139, rfl, rfl, ?_⟩
  exact Tryz.isAgg22
theorem fo139_1 : FieldOf Tryz.prog 139 1 1 := by
  refine ⟨_, _, 0, Tryz.underlying139, rfl, rfl, ?_⟩
  exact Tryz.sizeOf9
theorem fv139_1 : FieldV1 Tryz.prog 139 1 1 := by
  refine ⟨_, _, Tryz.underlying139, rfl, rfl, ?_⟩
  exact Tryz.isAgg9
theorem fo139_2 : FieldOf Tryz.prog 139 2 2 := by
  refine ⟨_, _, 0, Tryz.underlying139, rfl, rfl, ?_⟩
  exact Tryz.sizeOf48
theorem fv139_2 : FieldV1 Tryz.prog 139 2 2 := by
  refine ⟨_, _, Tryz.underlying139, rfl, rfl, ?_⟩
  exact Tryz.isAgg48
theorem bo139 : BuildOf Tryz.prog 139 [(0, 1), (1, 1), (2, 1)] [.pv (.sl []), .pv (.str ⟨#[]⟩), .pv (.int .i64 0)] := ⟨_, #[(0, 1), (1, 1), (2, 1)], _, _, Tryz.underlying139, Tryz.zeroValue139, .inl rfl, rfl, fun w => by simp [Tryz.sizeOf9, Tryz.sizeOf22, Tryz.sizeOf48], rfl⟩
theorem boN139 : BuildOf Tryz.prog 139 [(0, 1), (1, 1), (2, 1)] [.pv .nils, .pv (.str ⟨#[]⟩), .pv (.int .i64 0)] := ⟨_, #[(0, 1), (1, 1), (2, 1)], _, _, Tryz.underlying139, Tryz.zeroValue139, .inr rfl, rfl, fun w => by simp [Tryz.sizeOf9, Tryz.sizeOf22, Tryz.sizeOf48], rfl⟩
theorem zo145 : ZeroOf Tryz.prog 145 [.pv (.int .u64 0)] := ⟨_, _, Tryz.zeroValue145, .inl rfl, rfl⟩
theorem zo146 : ZeroOf Tryz.prog 146 [.pv (.sl [])] := ⟨_, _, Tryz.zeroValue146, .inl rfl, rfl⟩
theorem zoN146 : ZeroOf Tryz.prog 146 [.pv .nils] := ⟨_, _, Tryz.zeroValue146, .inr rfl, rfl⟩
theorem so146 : SliceOf Tryz.prog 146 24 1 := ⟨Tryz.underlying146, Tryz.sizeOf24, by decide, _, Tryz.zeroValue24⟩
theorem ei24 : EI Tryz.prog 24 1 24 := EI.mk (z := (Value.agg #[(Value.slice none (0) (0))])) (by kernel_rfl) rfl (by decide) (by decide)
theorem zo158 : ZeroOf Tryz.prog 158 [.pv (.int .i64 0), .pv (.int .i64 0)] := ⟨_, _, Tryz.zeroValue158, .inl rfl, rfl⟩
theorem fo158_0 : FieldOf Tryz.prog 158 0 0 := by
  refine ⟨_, _, 0, Tryz.underlying158, rfl, rfl, ?_⟩
  exact Tryz.sizeOf3
theorem fv158_0 : FieldV1 Tryz.prog 158 0 0 := by
  refine ⟨_, _, Tryz.underlying158, rfl, rfl, ?_⟩
  exact Tryz.isAgg3
theorem fo158_1 : FieldOf Tryz.prog 158 1 1 := by
  refine ⟨_, _, 0, Tryz.underlying158, rfl, rfl, ?_⟩
  exact Tryz.sizeOf3
theorem fv158_1 : FieldV1 Tryz.prog 158 1 1 := by
  refine ⟨_, _, Tryz.underlying158, rfl, rfl, ?_⟩
  exact Tryz.isAgg3
theorem bo158 : BuildOf Tryz.prog 158 [(0, 1), (1, 1)] [.pv (.int .i64 0), .pv (.int .i64 0)] := ⟨_, #[(0, 1), (1, 1)], _, _, Tryz.underlying158, Tryz.zeroValue158, .inl rfl, rfl, fun w => by simp [Tryz.sizeOf3], rfl⟩
theorem zo159 : ZeroOf Tryz.prog 159 [.pv (.int .i64 0), .pv (.int .i64 0)] := ⟨_, _, Tryz.zeroValue159, .inl rfl, rfl⟩
theorem fo159_0 : FieldOf Tryz.prog 159 0 0 := by
  refine ⟨_, _, 0, Tryz.underlying159, rfl, rfl, ?_⟩
  exact Tryz.sizeOf3
theorem fv159_0 : FieldV1 Tryz.prog 159 0 0 := by
  refine ⟨_, _, Tryz.underlying159, rfl, rfl, ?_⟩
  exact Tryz.isAgg3
theorem fo159_1 : FieldOf Tryz.prog 159 1 1 := by
  refine ⟨_, _, 0, Tryz.underlying159, rfl, rfl, ?_⟩
  exact Tryz.sizeOf3
theorem fv159_1 : FieldV1 Tryz.prog 159 1 1 := by
  refine ⟨_, _, Tryz.underlying159, rfl, rfl, ?_⟩
  exact Tryz.isAgg3
theorem bo159 : BuildOf Tryz.prog 159 [(0, 1), (1, 1)] [.pv (.int .i64 0), .pv (.int .i64 0)] := ⟨_, #[(0, 1), (1, 1)], _, _, Tryz.underlying159, Tryz.zeroValue159, .inl rfl, rfl, fun w => by simp [Tryz.sizeOf3], rfl⟩
theorem se159 (a0 b0 : Int) (a1 b1 : Int) (w : World) : (Op.equalIn 10000 159 (.agg [.int .i64 a0, .int .i64 a1].toArray) (.agg [.int .i64 b0, .int .i64 b1].toArray)).run Tryz.prog w = .ok (decide (a0 = b0) && decide (a1 = b1)) w := by
  refine (run_equalIn_struct (P := Tryz.prog) w 9999 159 _ _ (by simp [Program.fieldsOf, Tryz.underlying159]) Tryz.stoodInHeld159).trans ?_
  have h3 : ∀ (d : Nat) (a b : Int) (w : World), (Op.equalIn (d + 1) 3 (.int .i64 a) (.int .i64 b)).run Tryz.prog w = .ok (decide (a = b)) w := fun d a b w => by rw [run_equalIn_int w d 3 _ _ a b Tryz.underlying3]; by_cases h : a = b <;> simp [h]
  by_cases e0 : a0 = b0 <;> by_cases e1 : a1 = b1 <;> simp [Program.fieldsOf, Tryz.underlying159, Op.eqFields, part, h3, Tryz.isAgg3, e0, e1]
theorem zo167 : ZeroOf Tryz.prog 167 [.pv (.str ⟨#[]⟩), .pv (.str ⟨#[]⟩), .pv (.str ⟨#[]⟩), .pv (.str ⟨#[]⟩), .pv (.str ⟨#[]⟩), .pv (.str ⟨#[]⟩)] := ⟨_, _, Tryz.zeroValue167, .inl rfl, rfl⟩
theorem ao167 : ArrayOf Tryz.prog 167 1 [.pv (.str ⟨#[]⟩), .pv (.str ⟨#[]⟩), .pv (.str ⟨#[]⟩), .pv (.str ⟨#[]⟩), .pv (.str ⟨#[]⟩), .pv (.str ⟨#[]⟩)] := ⟨_, _, _, _, Tryz.underlying167, Tryz.zeroValue167, .inl rfl, rfl, Tryz.sizeOf9⟩
theorem zo168 : ZeroOf Tryz.prog 168 [.pv (.int .i64 0), .pv (.int .i64 0), .pv (.int .i64 0), .pv (.int .i64 0), .pv (.int .i64 0), .pv (.int .i64 0)] := ⟨_, _, Tryz.zeroValue168, .inl rfl, rfl⟩
theorem ao168 : ArrayOf Tryz.prog 168 1 [.pv (.int .i64 0), .pv (.int .i64 0), .pv (.int .i64 0), .pv (.int .i64 0), .pv (.int .i64 0), .pv (.int .i64 0)] := ⟨_, _, _, _, Tryz.underlying168, Tryz.zeroValue168, .inl rfl, rfl, Tryz.sizeOf3⟩
theorem zo172 : ZeroOf Tryz.prog 172 [.pv .nilm] := ⟨_, _, Tryz.zeroValue172, .inl rfl, rfl⟩
theorem zo182 : ZeroOf Tryz.prog 182 [.pv (.int .i64 0)] := ⟨_, _, Tryz.zeroValue182, .inl rfl, rfl⟩
theorem zo190 : ZeroOf Tryz.prog 190 [.pv (.int .u32 0)] := ⟨_, _, Tryz.zeroValue190, .inl rfl, rfl⟩
theorem zo192 : ZeroOf Tryz.prog 192 [.pv (.int .u64 0)] := ⟨_, _, Tryz.zeroValue192, .inl rfl, rfl⟩
theorem zo195 : ZeroOf Tryz.prog 195 [.pv (.sl [])] := ⟨_, _, Tryz.zeroValue195, .inl rfl, rfl⟩
theorem zoN195 : ZeroOf Tryz.prog 195 [.pv .nils] := ⟨_, _, Tryz.zeroValue195, .inr rfl, rfl⟩
theorem so195 : SliceOf Tryz.prog 195 39 1 := ⟨Tryz.underlying195, Tryz.sizeOf39, by decide, _, Tryz.zeroValue39⟩
theorem ei39 : EI Tryz.prog 39 1 24 := EI.mk (z := (Value.slice none (0) (0))) (by kernel_rfl) rfl (by decide) (by decide)
theorem zo197 : ZeroOf Tryz.prog 197 [.pv (.sl [])] := ⟨_, _, Tryz.zeroValue197, .inl rfl, rfl⟩
theorem zoN197 : ZeroOf Tryz.prog 197 [.pv .nils] := ⟨_, _, Tryz.zeroValue197, .inr rfl, rfl⟩
theorem so197 : SliceOf Tryz.prog 197 40 1 := ⟨Tryz.underlying197, Tryz.sizeOf40, by decide, _, Tryz.zeroValue40⟩
theorem ei40 : EI Tryz.prog 40 1 24 := EI.mk (z := (Value.slice none (0) (0))) (by kernel_rfl) rfl (by decide) (by decide)
theorem zo199 : ZeroOf Tryz.prog 199 [.pv (.sl [])] := ⟨_, _, Tryz.zeroValue199, .inl rfl, rfl⟩
theorem zoN199 : ZeroOf Tryz.prog 199 [.pv .nils] := ⟨_, _, Tryz.zeroValue199, .inr rfl, rfl⟩
theorem so199 : SliceOf Tryz.prog 199 38 2 := ⟨Tryz.underlying199, Tryz.sizeOf38, by decide, _, Tryz.zeroValue38⟩
theorem ei38 : EI Tryz.prog 38 2 16 := EI.mk (z := (Value.agg #[(Value.int IntKind.i64 (0)), (Value.int IntKind.i64 (0))])) (by kernel_rfl) rfl (by decide) (by decide)
theorem zo214 : ZeroOf Tryz.prog 214 [.pv (.int .u64 0)] := ⟨_, _, Tryz.zeroValue214, .inl rfl, rfl⟩
theorem zo218 : ZeroOf Tryz.prog 218 [.pv .nilp] := ⟨_, _, Tryz.zeroValue218, .inl rfl, rfl⟩
theorem zo221 : ZeroOf Tryz.prog 221 [.pv .nilp] := ⟨_, _, Tryz.zeroValue221, .inl rfl, rfl⟩
theorem zo227 : ZeroOf Tryz.prog 227 [.pv .nilp, .pv .nilp, .pv .nilp, .pv (.str ⟨#[]⟩)] := ⟨_, _, Tryz.zeroValue227, .inl rfl, rfl⟩
theorem fo227_0 : FieldOf Tryz.prog 227 0 0 := by
  refine ⟨_, _, 0, Tryz.underlying227, rfl, rfl, ?_⟩
  exact Tryz.sizeOf17
theorem fv227_0 : FieldV1 Tryz.prog 227 0 0 := by
  refine ⟨_, _, Tryz.underlying227, rfl, rfl, ?_⟩
  exact Tryz.isAgg17
theorem fo227_1 : FieldOf Tryz.prog 227 1 1 := by
  refine ⟨_, _, 0, Tryz.underlying227, rfl, rfl, ?_⟩
  exact Tryz.sizeOf17
theorem fv227_1 : FieldV1 Tryz.prog 227 1 1 := by
  refine ⟨_, _, Tryz.underlying227, rfl, rfl, ?_⟩
  exact Tryz.isAgg17
theorem fo227_2 : FieldOf Tryz.prog 227 2 2 := by
  refine ⟨_, _, 0, Tryz.underlying227, rfl, rfl, ?_⟩
  exact Tryz.sizeOf17
theorem fv227_2 : FieldV1 Tryz.prog 227 2 2 := by
  refine ⟨_, _, Tryz.underlying227, rfl, rfl, ?_⟩
  exact Tryz.isAgg17
theorem fo227_3 : FieldOf Tryz.prog 227 3 3 := by
  refine ⟨_, _, 0, Tryz.underlying227, rfl, rfl, ?_⟩
  exact Tryz.sizeOf9
theorem fv227_3 : FieldV1 Tryz.prog 227 3 3 := by
  refine ⟨_, _, Tryz.underlying227, rfl, rfl, ?_⟩
  exact Tryz.isAgg9
theorem bo227 : BuildOf Tryz.prog 227 [(0, 1), (1, 1), (2, 1), (3, 1)] [.pv .nilp, .pv .nilp, .pv .nilp, .pv (.str ⟨#[]⟩)] := ⟨_, #[(0, 1), (1, 1), (2, 1), (3, 1)], _, _, Tryz.underlying227, Tryz.zeroValue227, .inl rfl, rfl, fun w => by simp [Tryz.sizeOf9, Tryz.sizeOf17], rfl⟩
theorem zo228 : ZeroOf Tryz.prog 228 [.pv .nilp, .pv .nilp, .pv .nilp, .pv (.str ⟨#[]⟩)] := ⟨_, _, Tryz.zeroValue228, .inl rfl, rfl⟩
theorem fo228_0 : FieldOf Tryz.prog 228 0 0 := by
  refine ⟨_, _, 0, Tryz.underlying228, rfl, rfl, ?_⟩
  exact Tryz.sizeOf17
theorem fv228_0 : FieldV1 Tryz.prog 228 0 0 := by
  refine ⟨_, _, Tryz.underlying228, rfl, rfl, ?_⟩
  exact Tryz.isAgg17
theorem fo228_1 : FieldOf Tryz.prog 228 1 1 := by
  refine ⟨_, _, 0, Tryz.underlying228, rfl, rfl, ?_⟩
  exact Tryz.sizeOf17
theorem fv228_1 : FieldV1 Tryz.prog 228 1 1 := by
  refine ⟨_, _, Tryz.underlying228, rfl, rfl, ?_⟩
  exact Tryz.isAgg17
theorem fo228_2 : FieldOf Tryz.prog 228 2 2 := by
  refine ⟨_, _, 0, Tryz.underlying228, rfl, rfl, ?_⟩
  exact Tryz.sizeOf17
theorem fv228_2 : FieldV1 Tryz.prog 228 2 2 := by
  refine ⟨_, _, Tryz.underlying228, rfl, rfl, ?_⟩
  exact Tryz.isAgg17
theorem fo228_3 : FieldOf Tryz.prog 228 3 3 := by
  refine ⟨_, _, 0, Tryz.underlying228, rfl, rfl, ?_⟩
  exact Tryz.sizeOf9
theorem fv228_3 : FieldV1 Tryz.prog 228 3 3 := by
  refine ⟨_, _, Tryz.underlying228, rfl, rfl, ?_⟩
  exact Tryz.isAgg9
theorem bo228 : BuildOf Tryz.prog 228 [(0, 1), (1, 1), (2, 1), (3, 1)] [.pv .nilp, .pv .nilp, .pv .nilp, .pv (.str ⟨#[]⟩)] := ⟨_, #[(0, 1), (1, 1), (2, 1), (3, 1)], _, _, Tryz.underlying228, Tryz.zeroValue228, .inl rfl, rfl, fun w => by simp [Tryz.sizeOf9, Tryz.sizeOf17], rfl⟩
theorem zo233 : ZeroOf Tryz.prog 233 [.pv (.int .u8 0)] := ⟨_, _, Tryz.zeroValue233, .inl rfl, rfl⟩
theorem zo234 : ZeroOf Tryz.prog 234 [.pv (.int .u8 0)] := ⟨_, _, Tryz.zeroValue234, .inl rfl, rfl⟩
theorem zo236 : ZeroOf Tryz.prog 236 [.pv .nilp] := ⟨_, _, Tryz.zeroValue236, .inl rfl, rfl⟩
theorem zo237 : ZeroOf Tryz.prog 237 [.pv (.int .i32 0)] := ⟨_, _, Tryz.zeroValue237, .inl rfl, rfl⟩
theorem zo238 : ZeroOf Tryz.prog 238 [.pv (.int .i32 0)] := ⟨_, _, Tryz.zeroValue238, .inl rfl, rfl⟩
theorem zo239 : ZeroOf Tryz.prog 239 [.pv (.int .u64 0), .pv (.int .u64 0), .pv (.int .u32 0), .pv (.int .u8 0), .pv (.int .u8 0), .pv (.int .u8 0), .pv (.int .u8 0), .pv .nilfn, .pv .nilp, .pv (.int .i32 0), .pv (.int .i32 0)] := ⟨_, _, Tryz.zeroValue239, .inl rfl, rfl⟩
theorem fo239_0 : FieldOf Tryz.prog 239 0 0 := by
  refine ⟨_, _, 0, Tryz.underlying239, rfl, rfl, ?_⟩
  exact Tryz.sizeOf12
theorem fv239_0 : FieldV1 Tryz.prog 239 0 0 := by
  refine ⟨_, _, Tryz.underlying239, rfl, rfl, ?_⟩
  exact Tryz.isAgg12
theorem fo239_1 : FieldOf Tryz.prog 239 1 1 := by
  refine ⟨_, _, 0, Tryz.underlying239, rfl, rfl, ?_⟩
  exact Tryz.sizeOf12
theorem fv239_1 : FieldV1 Tryz.prog 239 1 1 := by
  refine ⟨_, _, Tryz.underlying239, rfl, rfl, ?_⟩
  exact Tryz.isAgg12
theorem fo239_2 : FieldOf Tryz.prog 239 2 2 := by
  refine ⟨_, _, 0, Tryz.underlying239, rfl, rfl, ?_⟩
  exact Tryz.sizeOf190
theorem fv239_2 : FieldV1 Tryz.prog 239 2 2 := by
  refine ⟨_, _, Tryz.underlying239, rfl, rfl, ?_⟩
  exact Tryz.isAgg190
theorem fo239_3 : FieldOf Tryz.prog 239 3 3 := by
  refine ⟨_, _, 0, Tryz.underlying239, rfl, rfl, ?_⟩
  exact Tryz.sizeOf233
theorem fv239_3 : FieldV1 Tryz.prog 239 3 3 := by
  refine ⟨_, _, Tryz.underlying239, rfl, rfl, ?_⟩
  exact Tryz.isAgg233
theorem fo239_4 : FieldOf Tryz.prog 239 4 4 := by
  refine ⟨_, _, 0, Tryz.underlying239, rfl, rfl, ?_⟩
  exact Tryz.sizeOf5
theorem fv239_4 : FieldV1 Tryz.prog 239 4 4 := by
  refine ⟨_, _, Tryz.underlying239, rfl, rfl, ?_⟩
  exact Tryz.isAgg5
theorem fo239_5 : FieldOf Tryz.prog 239 5 5 := by
  refine ⟨_, _, 0, Tryz.underlying239, rfl, rfl, ?_⟩
  exact Tryz.sizeOf5
theorem fv239_5 : FieldV1 Tryz.prog 239 5 5 := by
  refine ⟨_, _, Tryz.underlying239, rfl, rfl, ?_⟩
  exact Tryz.isAgg5
theorem fo239_6 : FieldOf Tryz.prog 239 6 6 := by
  refine ⟨_, _, 0, Tryz.underlying239, rfl, rfl, ?_⟩
  exact Tryz.sizeOf234
theorem fv239_6 : FieldV1 Tryz.prog 239 6 6 := by
  refine ⟨_, _, Tryz.underlying239, rfl, rfl, ?_⟩
  exact Tryz.isAgg234
theorem fo239_7 : FieldOf Tryz.prog 239 7 7 := by
  refine ⟨_, _, 0, Tryz.underlying239, rfl, rfl, ?_⟩
  exact Tryz.sizeOf235
theorem fv239_7 : FieldV1 Tryz.prog 239 7 7 := by
  refine ⟨_, _, Tryz.underlying239, rfl, rfl, ?_⟩
  exact Tryz.isAgg235
theorem fo239_8 : FieldOf Tryz.prog 239 8 8 := by
  refine ⟨_, _, 0, Tryz.underlying239, rfl, rfl, ?_⟩
  exact Tryz.sizeOf236
theorem fv239_8 : FieldV1 Tryz.prog 239 8 8 := by
  refine ⟨_, _, Tryz.underlying239, rfl, rfl, ?_⟩
  exact Tryz.isAgg236
theorem fo239_9 : FieldOf Tryz.prog 239 9 9 := by
  refine ⟨_, _, 0, Tryz.underlying239, rfl, rfl, ?_⟩
  exact Tryz.sizeOf237
theorem fv239_9 : FieldV1 Tryz.prog 239 9 9 := by
  refine ⟨_, _, Tryz.underlying239, rfl, rfl, ?_⟩
  exact Tryz.isAgg237
theorem fo239_10 : FieldOf Tryz.prog 239 10 10 := by
  refine ⟨_, _, 0, Tryz.underlying239, rfl, rfl, ?_⟩
  exact Tryz.sizeOf238
theorem fv239_10 : FieldV1 Tryz.prog 239 10 10 := by
  refine ⟨_, _, Tryz.underlying239, rfl, rfl, ?_⟩
  exact Tryz.isAgg238
theorem bo239 : BuildOf Tryz.prog 239 [(0, 1), (1, 1), (2, 1), (3, 1), (4, 1), (5, 1), (6, 1), (7, 1), (8, 1), (9, 1), (10, 1)] [.pv (.int .u64 0), .pv (.int .u64 0), .pv (.int .u32 0), .pv (.int .u8 0), .pv (.int .u8 0), .pv (.int .u8 0), .pv (.int .u8 0), .pv .nilfn, .pv .nilp, .pv (.int .i32 0), .pv (.int .i32 0)] := ⟨_, #[(0, 1), (1, 1), (2, 1), (3, 1), (4, 1), (5, 1), (6, 1), (7, 1), (8, 1), (9, 1), (10, 1)], _, _, Tryz.underlying239, Tryz.zeroValue239, .inl rfl, rfl, fun w => by simp [Tryz.sizeOf5, Tryz.sizeOf12, Tryz.sizeOf190, Tryz.sizeOf233, Tryz.sizeOf234, Tryz.sizeOf235, Tryz.sizeOf236, Tryz.sizeOf237, Tryz.sizeOf238], rfl⟩
theorem zo240 : ZeroOf Tryz.prog 240 [.pv (.int .u64 0), .pv (.int .u64 0), .pv (.int .u32 0), .pv (.int .u8 0), .pv (.int .u8 0), .pv (.int .u8 0), .pv (.int .u8 0), .pv .nilfn, .pv .nilp, .pv (.int .i32 0), .pv (.int .i32 0)] := ⟨_, _, Tryz.zeroValue240, .inl rfl, rfl⟩
theorem fo240_0 : FieldOf Tryz.prog 240 0 0 := by
  refine ⟨_, _, 0, Tryz.underlying240, rfl, rfl, ?_⟩
  exact Tryz.sizeOf12
theorem fv240_0 : FieldV1 Tryz.prog 240 0 0 := by
  refine ⟨_, _, Tryz.underlying240, rfl, rfl, ?_⟩
  exact Tryz.isAgg12
theorem fo240_1 : FieldOf Tryz.prog 240 1 1 := by
  refine ⟨_, _, 0, Tryz.underlying240, rfl, rfl, ?_⟩
  exact Tryz.sizeOf12
theorem fv240_1 : FieldV1 Tryz.prog 240 1 1 := by
  refine ⟨_, _, Tryz.underlying240, rfl, rfl, ?_⟩
  exact Tryz.isAgg12
theorem fo240_2 : FieldOf Tryz.prog 240 2 2 := by
  refine ⟨_, _, 0, Tryz.underlying240, rfl, rfl, ?_⟩
  exact Tryz.sizeOf190
theorem fv240_2 : FieldV1 Tryz.prog 240 2 2 := by
  refine ⟨_, _, Tryz.underlying240, rfl, rfl, ?_⟩
  exact Tryz.isAgg190
theorem fo240_3 : FieldOf Tryz.prog 240 3 3 := by
  refine ⟨_, _, 0, Tryz.underlying240, rfl, rfl, ?_⟩
  exact Tryz.sizeOf233
theorem fv240_3 : FieldV1 Tryz.prog 240 3 3 := by
  refine ⟨_, _, Tryz.underlying240, rfl, rfl, ?_⟩
  exact Tryz.isAgg233
theorem fo240_4 : FieldOf Tryz.prog 240 4 4 := by
  refine ⟨_, _, 0, Tryz.underlying240, rfl, rfl, ?_⟩
  exact Tryz.sizeOf5
theorem fv240_4 : FieldV1 Tryz.prog 240 4 4 := by
  refine ⟨_, _, Tryz.underlying240, rfl, rfl, ?_⟩
  exact Tryz.isAgg5
theorem fo240_5 : FieldOf Tryz.prog 240 5 5 := by
  refine ⟨_, _, 0, Tryz.underlying240, rfl, rfl, ?_⟩
  exact Tryz.sizeOf5
theorem fv240_5 : FieldV1 Tryz.prog 240 5 5 := by
  refine ⟨_, _, Tryz.underlying240, rfl, rfl, ?_⟩
  exact Tryz.isAgg5
theorem fo240_6 : FieldOf Tryz.prog 240 6 6 := by
  refine ⟨_, _, 0, Tryz.underlying240, rfl, rfl, ?_⟩
  exact Tryz.sizeOf234
theorem fv240_6 : FieldV1 Tryz.prog 240 6 6 := by
  refine ⟨_, _, Tryz.underlying240, rfl, rfl, ?_⟩
  exact Tryz.isAgg234
theorem fo240_7 : FieldOf Tryz.prog 240 7 7 := by
  refine ⟨_, _, 0, Tryz.underlying240, rfl, rfl, ?_⟩
  exact Tryz.sizeOf235
theorem fv240_7 : FieldV1 Tryz.prog 240 7 7 := by
  refine ⟨_, _, Tryz.underlying240, rfl, rfl, ?_⟩
  exact Tryz.isAgg235
theorem fo240_8 : FieldOf Tryz.prog 240 8 8 := by
  refine ⟨_, _, 0, Tryz.underlying240, rfl, rfl, ?_⟩
  exact Tryz.sizeOf236
theorem fv240_8 : FieldV1 Tryz.prog 240 8 8 := by
  refine ⟨_, _, Tryz.underlying240, rfl, rfl, ?_⟩
  exact Tryz.isAgg236
theorem fo240_9 : FieldOf Tryz.prog 240 9 9 := by
  refine ⟨_, _, 0, Tryz.underlying240, rfl, rfl, ?_⟩
  exact Tryz.sizeOf237
theorem fv240_9 : FieldV1 Tryz.prog 240 9 9 := by
  refine ⟨_, _, Tryz.underlying240, rfl, rfl, ?_⟩
  exact Tryz.isAgg237
theorem fo240_10 : FieldOf Tryz.prog 240 10 10 := by
  refine ⟨_, _, 0, Tryz.underlying240, rfl, rfl, ?_⟩
  exact Tryz.sizeOf238
theorem fv240_10 : FieldV1 Tryz.prog 240 10 10 := by
  refine ⟨_, _, Tryz.underlying240, rfl, rfl, ?_⟩
  exact Tryz.isAgg238
theorem bo240 : BuildOf Tryz.prog 240 [(0, 1), (1, 1), (2, 1), (3, 1), (4, 1), (5, 1), (6, 1), (7, 1), (8, 1), (9, 1), (10, 1)] [.pv (.int .u64 0), .pv (.int .u64 0), .pv (.int .u32 0), .pv (.int .u8 0), .pv (.int .u8 0), .pv (.int .u8 0), .pv (.int .u8 0), .pv .nilfn, .pv .nilp, .pv (.int .i32 0), .pv (.int .i32 0)] := ⟨_, #[(0, 1), (1, 1), (2, 1), (3, 1), (4, 1), (5, 1), (6, 1), (7, 1), (8, 1), (9, 1), (10, 1)], _, _, Tryz.underlying240, Tryz.zeroValue240, .inl rfl, rfl, fun w => by simp [Tryz.sizeOf5, Tryz.sizeOf12, Tryz.sizeOf190, Tryz.sizeOf233, Tryz.sizeOf234, Tryz.sizeOf235, Tryz.sizeOf236, Tryz.sizeOf237, Tryz.sizeOf238], rfl⟩
theorem zo241 : ZeroOf Tryz.prog 241 [.pv .nilp] := ⟨_, _, Tryz.zeroValue241, .inl rfl, rfl⟩
end Go.Proofs.YtdgoodjhndeojaaGreat
end
section
set_option linter.unusedVariables false
set_option linter.unusedSimpArgs false
namespace Go.Proofs.YtdgoodjhndeojaaGreat
open Go.Abs
theorem follows : Tryz.prog.follows .mixedOrders = true := by kernel_rfl

structure GTag where
  key : ByteArray
  val : ByteArray
structure GObj where
  id : ByteArray
  kind : Int
  x : Int
  y : Int
  refs : List ByteArray
  tags : List GTag
structure GEdit where
  op : Int
  id : ByteArray
  other : ByteArray
  node : ByteArray
  x : Int
  y : Int
  key : ByteArray
  val : ByteArray
  refs : List ByteArray
  obj : GObj
structure GEv where
  kind : Int
  edits : List Int

def encStr (s : ByteArray) : List PV := [.str s]
def encInt (n : Int) : List PV := [.int .i64 n]
def encTag (t : GTag) : List PV := [.str t.key, .str t.val]
def encObj (o : GObj) : List PV := [.str o.id, .int .i64 o.kind, .int .i64 o.x, .int .i64 o.y, .sl (o.refs.map encStr), .sl (o.tags.map encTag)]
def encEdit (e : GEdit) : List PV := [.int .i64 e.op, .str e.id, .str e.other, .str e.node, .int .i64 e.x, .int .i64 e.y, .str e.key, .str e.val, .sl (e.refs.map encStr),
  .str e.obj.id, .int .i64 e.obj.kind, .int .i64 e.obj.x, .int .i64 e.obj.y, .sl (e.obj.refs.map encStr), .sl (e.obj.tags.map encTag)]
def slStrs (l : List ByteArray) : PV := .sl (l.map encStr)
def slTags (l : List GTag) : PV := .sl (l.map encTag)
def slObjs (l : List GObj) : PV := .sl (l.map encObj)
def slEdits (l : List GEdit) : PV := .sl (l.map encEdit)
def slInts (l : List Int) : PV := .sl (l.map encInt)
def zObj : GObj := ⟨⟨#[]⟩, 0, 0, 0, [], []⟩

theorem map_get {α : Type} {f : α → List PV} {l : List α} {k : Nat} {a : α} (h : l[k]? = some a) : (l.map f)[k]? = some (f a) := by rw [List.getElem?_map, h]; rfl
theorem get_of_lt {α : Type} {l : List α} {k : Nat} (h : k < l.length) : ∃ a, l[k]? = some a := ⟨_, List.getElem?_eq_getElem h⟩
theorem fidx_some {α : Type} {p : α → Bool} {l : List α} {k : Nat} {a : α} (h : ∀ j, j < k → ∀ b, l[j]? = some b → p b = false) (hk : l[k]? = some a) (hp : p a = true) : l.findIdx? p = some k := by
  rw [List.findIdx?_eq_some_iff_getElem]
  obtain ⟨hlt, he⟩ := List.getElem?_eq_some_iff.1 hk
  refine ⟨hlt, by rw [he]; exact hp, fun j hj => ?_⟩
  have := h j hj l[j] (List.getElem?_eq_getElem (by omega))
  simp [this]
theorem fidx_none {α : Type} {p : α → Bool} {l : List α} (h : ∀ j, j < l.length → ∀ b, l[j]? = some b → p b = false) : l.findIdx? p = none := by
  rw [List.findIdx?_eq_none_iff]
  intro x hx
  obtain ⟨j, hj⟩ := List.mem_iff_getElem?.1 hx
  exact h j (List.getElem?_eq_some_iff.1 hj).1 x hj
/-- Go's index of a first element. -/
def gidx {α : Type} (p : α → Bool) (l : List α) : Int := match l.findIdx? p with | some i => (i : Int) | none => -1
theorem gidx_any {α : Type} (p : α → Bool) (l : List α) : decide (0 ≤ gidx p l) = l.any p := by
  unfold gidx
  cases h : l.findIdx? p with
  | none =>
    have : l.any p = false := by
      rw [List.findIdx?_eq_none_iff] at h
      rw [List.any_eq_false]
      intro x hx; simp [h x hx]
    simp [this]
  | some i =>
    have : l.any p = true := by
      rw [List.findIdx?_eq_some_iff_getElem] at h
      obtain ⟨h1, h2, _⟩ := h
      exact List.any_eq_true.2 ⟨_, List.getElem_mem h1, h2⟩
    simp [this]
theorem gidx_cases {α : Type} (p : α → Bool) (l : List α) : (gidx p l = -1 ∧ l.find? p = none) ∨ ∃ (k : Nat) (o : α), gidx p l = (k : Int) ∧ l[k]? = some o ∧ l.find? p = some o := by
  cases h : l.findIdx? p with
  | none =>
    left
    refine ⟨by simp [gidx, h], ?_⟩
    rw [List.findIdx?_eq_none_iff] at h
    rw [List.find?_eq_none]
    intro x hx; simp [h x hx]
  | some k =>
    right
    have h' := h
    rw [List.findIdx?_eq_some_iff_getElem] at h
    obtain ⟨h1, h2, h3⟩ := h
    refine ⟨k, l[k], by simp [gidx, h'], List.getElem?_eq_getElem h1, ?_⟩
    rw [List.find?_eq_some_iff_getElem]
    exact ⟨h2, k, h1, rfl, fun j hj => by have := h3 j hj; simpa using this⟩
theorem find_none {α : Type} {p : α → Bool} {l : List α} (h : ∀ j, j < l.length → ∀ b, l[j]? = some b → p b = false) : l.find? p = none := by
  rw [List.find?_eq_none]
  intro x hx
  obtain ⟨j, hj⟩ := List.mem_iff_getElem?.1 hx
  simp [h j (List.getElem?_eq_some_iff.1 hj).1 x hj]
theorem find_some {α : Type} {p : α → Bool} {l : List α} {k : Nat} {a : α} (h : ∀ j, j < k → ∀ b, l[j]? = some b → p b = false) (hk : l[k]? = some a) (hp : p a = true) : l.find? p = some a := by
  obtain ⟨hlt, he⟩ := List.getElem?_eq_some_iff.1 hk
  rw [List.find?_eq_some_iff_getElem]
  refine ⟨hp, k, hlt, he, fun j hj => ?_⟩
  have := h j hj l[j] (List.getElem?_eq_getElem (by omega))
  simpa using this
/-- One more element without the mark. -/
theorem pre_succ {α : Type} {p : α → Bool} {l : List α} {k : Nat} {a : α} (h : ∀ j, j < k → ∀ b, l[j]? = some b → p b = false) (hk : l[k]? = some a) (hp : p a = false) : ∀ j, j < k + 1 → ∀ b, l[j]? = some b → p b = false := by
  intro j hj b hb
  by_cases e : j = k
  · subst e; rw [hk] at hb; cases hb; exact hp
  · exact h j (by omega) b hb
theorem any_none {α : Type} {p : α → Bool} {l : List α} (h : ∀ j, j < l.length → ∀ b, l[j]? = some b → p b = false) : l.any p = false := by
  rw [List.any_eq_false]
  intro x hx
  obtain ⟨j, hj⟩ := List.mem_iff_getElem?.1 hx
  simp [h j (List.getElem?_eq_some_iff.1 hj).1 x hj]
theorem any_some {α : Type} {p : α → Bool} {l : List α} {k : Nat} {a : α} (hk : l[k]? = some a) (hp : p a = true) : l.any p = true := List.any_eq_true.2 ⟨_, List.mem_of_getElem? hk, hp⟩
end Go.Proofs.YtdgoodjhndeojaaGreat
end
section
set_option linter.unusedVariables false
set_option linter.unusedSimpArgs false
namespace Go.Abs
section
variable {I : Nat → Prop} {ι : Plc} {H : Heap} {w : World} {id sz ty : Nat} {ob : Ob}
/-- An object has no block any more. -/
theorem Rel.renew (hr : Rel I ι H w) (hH : H.get id = some ob) (hsz : 0 < sz) :
    Rel I (fun j => if j = id then none else ι j) ((id, ⟨ob.g + 1, sz, ty, []⟩) :: H) w ∧ Step I ι H w I (fun j => if j = id then none else ι j) ((id, ⟨ob.g + 1, sz, ty, []⟩) :: H) w := by
  have h1 : Heap.get ((id, ⟨ob.g + 1, sz, ty, []⟩) :: H) id = some ⟨ob.g + 1, sz, ty, []⟩ := by simp [Heap.get, beq_self]
  have h2 : ∀ j, j ≠ id → Heap.get ((id, ⟨ob.g + 1, sz, ty, []⟩) :: H) j = H.get j := fun j e => by simp [Heap.get, beq_ne (Ne.symm e)]
  have hst : Step I ι H w I (fun j => if j = id then none else ι j) ((id, ⟨ob.g + 1, sz, ty, []⟩) :: H) w := by
    refine ⟨rfl, rfl, rfl, Nat.le_refl _, fun a _ => rfl, fun _ h => h, fun _ h => .inl h, ?_, fun _ _ _ => rfl, ?_⟩
    · rintro x ⟨j, o, c, hj, hc⟩
      by_cases e : j = id
      · simp [e] at hc
      · simp only [e, if_false] at hc; exact .inl ⟨j, o, c, (h2 j e).symm.trans hj, hc⟩
    · intro j o hj
      by_cases e : j = id
      · subst e; rw [hH] at hj; cases hj
        exact ⟨_, h1, Nat.le_succ _, fun e => absurd e (Nat.succ_ne_self _)⟩
      · exact ⟨o, (h2 j e).trans hj, Nat.le_refl _, fun _ => ⟨by simp [e], rfl, fun _ => Nat.le_refl _⟩⟩
  refine ⟨⟨hr.imm, ?_, ?_⟩, hst⟩
  · intro j o hj
    by_cases e : j = id
    · subst e
      rw [h1] at hj; cases hj
      exact .inl ⟨hsz, by simp, .inr ⟨by simp, rfl⟩⟩
    · rw [h2 j e] at hj
      exact (hr.obj j o hj).keep (by simp [e]) (fun x c _ _ => ⟨rfl, fun h => h⟩) (fun r _ a _ v hv => hv.mono hr hst)
  · intro j j' o o' x c c' hj hj' hc hc'
    by_cases e : j = id
    · simp [e] at hc
    · by_cases e' : j' = id
      · simp [e'] at hc'
      · simp only [e, if_false] at hc
        simp only [e', if_false] at hc'
        exact hr.inj j j' o o' x c c' ((h2 j e).symm.trans hj) ((h2 j' e').symm.trans hj') hc hc'
end
section
variable {P : Program} {N : Nat} {o : Oper} {E : Env} {H : Heap} {T : TypeId} {x y : Operand}
/-- nil is stored in the place of an owned slice, which begins anew. -/
theorem opd_store_nil {r r' : List AV} {id g i k q gq sz ty : Nat} {ob oq : Ob} {rows' : List (List AV)} (ho : o.op = .store T x (.const (.slice none 0 0))) (hs : ∀ w, (sizeOf T).run P w = .ok 1 w) (hx : aeval E x = some (.ref id g i k))
    (hH : H.get id = some ob) (hg : ob.g = g) (hq : H.get q = some oq) (hgq : oq.g + 1 = gq) (hsz : Nat.blt 0 sz = true) (hne : Nat.beq q id = false) (hi : ob.rows[i]? = some r) (hk : k < r.length) (hr' : r.set k (.osl q gq 0 0) = r') (hrows : ob.rows.set i r' = rows') :
    OpD P N o E H .any ((id, ⟨g, ob.sz, ob.ty, rows'⟩) :: (q, ⟨gq, sz, ty, []⟩) :: H) := by
  subst hg hrows hgq
  intro a w I ι _ _ hr he K Q hkk
  have hne' : id ≠ q := fun e => by subst e; rw [beq_self] at hne; cases hne
  obtain ⟨a1, a2⟩ := Rel.renew (sz := sz) (ty := ty) hr hq (by simpa [Nat.blt_eq] using hsz)
  have hH' : Heap.get ((q, ⟨oq.g + 1, sz, ty, []⟩) :: H) id = some ob := by rw [get_cons_other _ _ hne']; exact hH
  refine store_wp (v := .osl q (oq.g + 1) 0 0) (cells := [.osl q (oq.g + 1) 0 0]) (r' := r') (H2 := Heap.set ((q, ⟨oq.g + 1, sz, ty, []⟩) :: H) id { ob with rows := ob.rows.set i r' }) ho a1 ((aeval_rel he hx).mono hr a2)
    (.osl ⟨oq.g + 1, sz, ty, []⟩ (get_cons_same _ _ _) (Nat.le_refl _) rfl fun _ => ⟨by simpa [Nat.blt_eq] using hsz, by simp, .inr ⟨by simp, rfl, rfl, rfl⟩⟩) rfl hs rfl hH' rfl hi (by omega) ?_ rfl K Q (fun c w' k1 k2 => ?_)
  · rw [← hr', List.set_eq_take_append_cons_drop, if_pos hk]
    rfl
  · have he : ∀ j, Heap.get ((id, ⟨ob.g, ob.sz, ob.ty, ob.rows.set i r'⟩) :: (q, ⟨oq.g + 1, sz, ty, []⟩) :: H) j = (Heap.set ((q, ⟨oq.g + 1, sz, ty, []⟩) :: H) id { ob with rows := ob.rows.set i r' }).get j := fun j => set_cons _ _ _ j
    have hsub : Sub ((id, ⟨ob.g, ob.sz, ob.ty, ob.rows.set i r'⟩) :: (q, ⟨oq.g + 1, sz, ty, []⟩) :: H) (Heap.set ((q, ⟨oq.g + 1, sz, ty, []⟩) :: H) id { ob with rows := ob.rows.set i r' }) := fun j o hj => (he j).symm.trans hj
    have hst := a2.trans k2
    refine hkk c w' I (fun j => if j = q then none else ι j) .any _ ⟨rfl, rfl⟩ (.any _) ?_ ?_
    · refine ⟨k1.imm, fun j o hj => ?_, fun j j' o o' b c c' hj hj' => k1.inj j j' o o' b c c' ((he j).symm.trans hj) ((he j').symm.trans hj')⟩
      exact (k1.obj j o ((he j).symm.trans hj)).keep rfl (fun _ _ _ _ => ⟨rfl, fun h => h⟩) (fun r _ a _ v hv => hv.mono' (fun _ _ => rfl) (fun _ h => h) (fun id o ho => ⟨o, (he id).trans ho, Nat.le_refl _, fun _ => ⟨rfl, rfl, fun _ => Nat.le_refl _⟩⟩))
    · refine ⟨hst.os, hst.tape, hst.output, hst.size, hst.froz, hst.imm, hst.immNew, fun b ⟨j, o, c, hj, hc⟩ => hst.own b ⟨j, o, c, (he j).symm.trans hj, hc⟩, hst.keep, fun j o hj => ?_⟩
      obtain ⟨o', e1, e2⟩ := hst.objs j o hj
      exact ⟨o', (he j).trans e1, e2⟩
/-- A new variable in the place of an old one. -/
theorem opd_box_again {v : AV} {cells : List AV} {id n g : Nat} {ob : Ob} (ho : o.op = .box T x) (hx : aeval E x = some v) (hc : acl v = some cells) (hn : cells.length = n + 1) (hid : H.get id = some ob) (hg : ob.g + 1 = g) :
    OpD P N o E H (.ref id g 0 0) ((id, ⟨g, n + 1, T, [cells]⟩) :: H) := by
  subst hg
  intro a w I ι _ _ hr he K Q hk
  obtain ⟨h1, h2, h3⟩ := cells_rel (aeval_rel he hx) hc
  generalize hcv : a.eval x = c at h1 h2 h3
  have hp := Rel.place (H' := (id, ⟨ob.g + 1, cells.length, T, [cells]⟩) :: H) (id := id) (cap := 1) (ob' := ⟨ob.g + 1, cells.length, T, [cells]⟩) (cs' := c.cells) (w' := w.alloc (.cells c.cells T)) hr rfl rfl rfl rfl
    (fun o ho => by rw [hid] at ho; cases ho; exact Nat.lt_succ_self _) (by show 0 < cells.length; omega) (by simp [h1]) (by simp) (by simp [maxLen]) (by simp) (fun i r hi k a hk => by
      cases i with
      | zero => simp at hi; subst hi; simpa using h3 k a hk
      | succ i => simp at hi) (get_cons_same _ _ _) (fun j hj => get_cons_other _ _ hj)
  have hv : VRel (w.alloc (.cells c.cells T)) I (fun j => if j = id then some (w.heap.size, 1) else ι j) ((id, ⟨ob.g + 1, cells.length, T, [cells]⟩) :: H) (.pointer (some ⟨w.heap.size, 0, none⟩)) (.ref id (ob.g + 1) 0 0) :=
    .ref ⟨ob.g + 1, cells.length, T, [cells]⟩ (get_cons_same _ _ _) (Nat.le_refl _) rfl fun _ => ⟨by show 0 < cells.length; omega, w.heap.size, 1, by simp, by simp⟩
  obtain ⟨r1, r2⟩ := hp
  rw [hn] at hv r1 r2
  unfold Oper.wp execOp
  simp only [ho, Instr.box, newVar, newRow, Sem.run_bind, run_newObj, Sem.run_pure, Result.andThen_ok, hcv]
  exact hk _ _ I _ _ _ ⟨rfl, rfl⟩ hv r1 r2
end

/-! ### the frame -/
def subL (H : Heap) : Heap → Prop
  | [] => True
  | (id, o) :: r => H.get id = some o ∧ subL H r
theorem subL.sub {H : Heap} : ∀ {L : Heap}, subL H L → Sub L H
  | [], _, id, o, h => by cases h
  | (i, o') :: r, h, id, o, ho => by
    simp only [Heap.get] at ho
    cases e : Nat.beq i id with
    | true => rw [e] at ho; cases ho; rw [← Nat.eq_of_beq_eq_true e]; exact h.1
    | false => rw [e] at ho; exact h.2.sub id o ho
theorem hget_app (D H : Heap) (k : Nat) : Heap.get (D ++ H) k = match D.get k with | some v => some v | none => H.get k := get_app D H k
/-- A call of which the heap is a part of a greater one. -/
theorem ACalls.frame {P : Program} {f : FuncId} {args : List AV} {H0 H1 H : Heap} {r0 : AV} (h : ACalls P f args H0 (fun r H' => r = r0 ∧ H' = H1)) (hs : Sub H0 H) (hc : Closed H0) (ha : ∀ a ∈ args, Clo H0 a)
    (hk : ∀ id, (H1.get id).isSome = true → (H0.get id).isSome = true ∨ H.get id = none) : ACalls P f args H (fun r H' => r = r0 ∧ H' = H1 ++ H) := by
  intro I ι w vs hr hl hv
  refine (h I ι w vs (hr.restrict hs hc) hl (fun i v a h1 h2 => (hv i v a h1 h2).restrict hs (ha a (List.mem_of_getElem? h2)))).mono ?_
  rintro e w' ⟨r, H', I', ι', v, rfl, ⟨rfl, rfl⟩, k1, k2, k3⟩
  obtain ⟨ι2, hι2⟩ : ∃ ι2 : Plc, ι2 = (fun j => if (H'.get j).isSome = true then ι' j else ι j) := ⟨_, rfl⟩
  have i1 : ∀ j o, H'.get j = some o → ι2 j = ι' j := fun j o hj => by rw [hι2]; simp [hj]
  have i2 : ∀ j, H'.get j = none → ι2 j = ι j := fun j hj => by rw [hι2]; simp [hj]
  have g1 : ∀ j o, H'.get j = some o → Heap.get (H' ++ H) j = some o := fun j o hj => by rw [hget_app, hj]
  have g2 : ∀ j, H'.get j = none → Heap.get (H' ++ H) j = H.get j := fun j hj => by rw [hget_app, hj]
  -- an object of the frame is none of the call's
  have hfr : ∀ j o, H.get j = some o → H'.get j = none → H0.get j = none := fun j o hj hn => by
    cases e : H0.get j with
    | none => rfl
    | some o0 =>
      obtain ⟨o', e1, _⟩ := k3.objs j o0 e
      rw [hn] at e1; cases e1
  have hno : ∀ j o b c, H.get j = some o → H'.get j = none → ι j = some (b, c) → ¬ Own ι H0 b := fun j o b c hj hn hb ⟨j', o', c', hj', hb'⟩ => by
    have := hr.inj j j' o o' b c c' hj (hs _ _ hj') hb hb'
    subst this
    rw [hfr j o hj hn] at hj'; cases hj'
  have hst : Step I ι H w I' ι2 (H' ++ H) w' := by
    refine ⟨k3.os, k3.tape, k3.output, k3.size, k3.froz, k3.imm, fun b hb => ?_, ?_, ?_, ?_⟩
    · rcases k3.immNew b hb with h1 | h1 | h1
      · exact .inl h1
      · exact .inr (.inl (h1.sub hs))
      · exact .inr (.inr h1)
    · rintro b ⟨j, o, c, hj, hc⟩
      cases e : H'.get j with
      | some o' =>
        rw [i1 j o' e] at hc
        rcases k3.own b ⟨j, o', c, e, hc⟩ with h1 | h1
        · exact .inl (h1.sub hs)
        · exact .inr h1
      | none =>
        rw [i2 j e] at hc
        rw [g2 j e] at hj
        exact .inl ⟨j, o, c, hj, hc⟩
    · intro b hb hn
      exact k3.keep b hb (fun h => hn (h.sub hs))
    · intro j o hj
      cases e : H'.get j with
      | some o' =>
        rcases hk j (by rw [e]; rfl) with h1 | h1
        · obtain ⟨o0, e0⟩ := Option.isSome_iff_exists.1 h1
          have := hs _ _ e0
          rw [hj] at this; cases this
          obtain ⟨o2, q1, q2, q3⟩ := k3.objs j o e0
          exact ⟨o2, g1 j o2 q1, q2, fun e => by rw [i1 j o2 q1]; exact q3 e⟩
        · rw [hj] at h1; cases h1
      | none => exact ⟨o, (g2 j e).trans hj, Nat.le_refl _, fun _ => ⟨i2 j e, rfl, fun _ => Nat.le_refl _⟩⟩
  have hv' : ∀ {v : Value} {a : AV}, VRel w' I' ι' H' v a → VRel w' I' ι2 (H' ++ H) v a := fun hva =>
    hva.mono' (fun _ _ => rfl) (fun _ h => h) (fun id o ho => ⟨o, g1 id o ho, Nat.le_refl _, fun _ => ⟨i1 id o ho, rfl, fun _ => Nat.le_refl _⟩⟩)
  refine ⟨r, H' ++ H, I', ι2, v, rfl, ⟨rfl, rfl⟩, hv' k1, ⟨k2.imm, fun j o hj => ?_, fun j j' o o' b c c' hj hj' hc hc' => ?_⟩, hst⟩
  · cases e : H'.get j with
    | some o' =>
      rw [g1 j o' e] at hj
      obtain rfl : o' = o := Option.some.inj hj
      exact (k2.obj j o' e).keep (i1 j o' e) (fun _ _ _ _ => ⟨rfl, fun h => h⟩) (fun r _ a _ v hv => hv' hv)
    | none =>
      rw [g2 j e] at hj
      refine (hr.obj j o hj).keep (i2 j e) (fun b' cap' e1 hlt => ⟨k3.keep b' hlt (hno j o b' cap' hj e e1), fun e3 hi => ?_⟩) (fun r _ a _ v hv => hv.mono hr hst)
      rcases k3.immNew b' hi with h1 | h1 | h1
      · exact e3 h1
      · exact hno j o b' cap' hj e e1 h1
      · omega
  · cases e : H'.get j with
    | some q =>
      rw [i1 j q e] at hc
      cases e' : H'.get j' with
      | some q' =>
        rw [i1 j' q' e'] at hc'
        exact k2.inj j j' q q' b c c' e e' hc hc'
      | none =>
        rw [i2 j' e'] at hc'
        rw [g2 j' e'] at hj'
        have hlt := hr.lt ⟨j', o', c', hj', hc'⟩
        rcases k3.own b ⟨j, q, c, e, hc⟩ with h1 | h1
        · exact absurd h1 (hno j' o' b c' hj' e' hc')
        · omega
    | none =>
      rw [i2 j e] at hc
      rw [g2 j e] at hj
      cases e' : H'.get j' with
      | some q' =>
        rw [i1 j' q' e'] at hc'
        have hlt := hr.lt ⟨j, o, c, hj, hc⟩
        rcases k3.own b ⟨j', q', c', e', hc'⟩ with h1 | h1
        · exact absurd h1 (hno j o b c hj e hc)
        · omega
      | none =>
        rw [i2 j' e'] at hc'
        rw [g2 j' e'] at hj'
        exact hr.inj j j' o o' b c c' hj hj' hc hc'

/-! ### names of objects changed -/
mutual
def renA (ρ : Nat → Nat) : AV → AV
  | .any => .any
  | .pv p => .pv p
  | .ref id g i k => .ref (ρ id) g i k
  | .pad rows i k => .pad rows i k
  | .osl id g off len => .osl (ρ id) g off len
  | .clo f caps => .clo f (renL ρ caps)
  | .agg cs => .agg (renL ρ cs)
  | .tup vs => .tup (renL ρ vs)
  | .mp id g => .mp (ρ id) g
  | .it id g => .it (ρ id) g
def renL (ρ : Nat → Nat) : List AV → List AV
  | [] => []
  | a :: l => renA ρ a :: renL ρ l
end
theorem renL_map (ρ : Nat → Nat) (l : List AV) : renL ρ l = l.map (renA ρ) := by
  induction l with
  | nil => rfl
  | cons a l ih => simp [renL, ih]
def renO (ρ : Nat → Nat) (o : Ob) : Ob := ⟨o.g, o.sz, o.ty, o.rows.map (renL ρ)⟩
def renH (ρ : Nat → Nat) (H : Heap) : Heap := H.map fun p => (ρ p.1, renO ρ p.2)
section
variable {ρ : Nat → Nat} (hρ : ∀ n, ρ (ρ n) = n)
include hρ
theorem renH_get (H : Heap) (id : Nat) : (renH ρ H).get (ρ id) = (H.get id).map (renO ρ) := by
  induction H with
  | nil => rfl
  | cons p H ih =>
    obtain ⟨i, o⟩ := p
    simp only [renH, List.map_cons, Heap.get] at ih ⊢
    by_cases e : i = id
    · subst e; simp [beq_self]
    · have : ρ i ≠ ρ id := fun h => e (by rw [← hρ i, h, hρ])
      simp [beq_ne e, beq_ne this, ih]
theorem renH_get' (H : Heap) (id : Nat) : (renH ρ H).get id = (H.get (ρ id)).map (renO ρ) := by
  have := renH_get hρ H (ρ id)
  rwa [hρ] at this
theorem VRel.ren {w : World} {I : Nat → Prop} {ι : Plc} {H : Heap} {v : Value} {a : AV} (h : VRel w I ι H v a) : VRel w I (fun j => ι (ρ j)) (renH ρ H) v (renA ρ a) := by
  induction h with
  | any v => exact .any v
  | pv h => exact .pv h
  | ref o hH hg h1 h =>
    refine .ref (renO ρ o) (by rw [renH_get hρ, hH]; rfl) hg h1 (fun e => ?_)
    obtain ⟨e0, b, cap, e1, e2⟩ := h e
    exact ⟨e0, b, cap, by rw [hρ]; exact e1, e2⟩
  | pad b off cap sz h hsz hlen cs hI hc hp => exact .pad b off cap sz h hsz hlen cs hI hc hp
  | osl o hH hg h1 h =>
    refine .osl (renO ρ o) (by rw [renH_get hρ, hH]; rfl) hg h1 (fun e => ?_)
    obtain ⟨e0, e1, e2⟩ := h e
    refine ⟨e0, by simpa [renO] using e1, ?_⟩
    rw [hρ]
    exact e2
  | clo hl h ih =>
    unfold renA
    rw [renL_map]
    refine .clo (by simpa using hl) (fun i v a hv ha => ?_)
    rw [List.getElem?_map] at ha
    obtain ⟨a0, h0, rfl⟩ := Option.map_eq_some_iff.1 ha
    exact ih i v a0 hv h0
  | agg hl h1 h ih =>
    unfold renA
    rw [renL_map]
    refine .agg (by simpa using hl) h1 (fun i v a hv ha => ?_)
    rw [List.getElem?_map] at ha
    obtain ⟨a0, h0, rfl⟩ := Option.map_eq_some_iff.1 ha
    exact ih i v a0 hv h0
  | tup hl h ih =>
    unfold renA
    rw [renL_map]
    refine .tup (by simpa using hl) (fun i v a hv ha => ?_)
    rw [List.getElem?_map] at ha
    obtain ⟨a0, h0, rfl⟩ := Option.map_eq_some_iff.1 ha
    exact ih i v a0 hv h0
  | mp o hH hg h1 h =>
    refine .mp (renO ρ o) (by rw [renH_get hρ, hH]; rfl) hg h1 (fun e => ?_)
    obtain ⟨e0, b, e1, e2⟩ := h e
    exact ⟨e0, b, by rw [hρ]; exact e1, e2⟩
  | it o hH hg h1 h =>
    refine .it (renO ρ o) (by rw [renH_get hρ, hH]; rfl) hg h1 (fun e => ?_)
    obtain ⟨e0, b, e1, e2⟩ := h e
    exact ⟨e0, b, by rw [hρ]; exact e1, e2⟩
theorem Rel.ren {w : World} {I : Nat → Prop} {ι : Plc} {H : Heap} (h : Rel I ι H w) : Rel I (fun j => ι (ρ j)) (renH ρ H) w := by
  refine ⟨h.imm, fun id o ho => ?_, fun id id' o o' b c c' ho ho' hi hi' => ?_⟩
  · rw [renH_get' hρ] at ho
    obtain ⟨o0, h0, rfl⟩ := Option.map_eq_some_iff.1 ho
    refine (h.obj _ o0 h0).keepG rfl rfl (by simp [renO]) rfl (fun _ _ _ _ => ⟨rfl, fun h => h⟩) (fun i r hi => ?_)
    simp only [renO, List.getElem?_map] at hi
    obtain ⟨r0, hr0, rfl⟩ := Option.map_eq_some_iff.1 hi
    refine ⟨r0, hr0, by rw [renL_map, List.length_map], fun k a a' h1 h2 v hv => ?_⟩
    rw [renL_map, List.getElem?_map, h1] at h2
    cases h2
    exact hv.ren hρ
  · rw [renH_get' hρ] at ho ho'
    obtain ⟨o0, h0, rfl⟩ := Option.map_eq_some_iff.1 ho
    obtain ⟨o1, h1, rfl⟩ := Option.map_eq_some_iff.1 ho'
    have := h.inj _ _ o0 o1 b c c' h0 h1 hi hi'
    rw [← hρ id, this, hρ]
theorem Step.ren {w w' : World} {I I' : Nat → Prop} {ι ι' : Plc} {H H' : Heap} (h : Step I ι H w I' ι' H' w') : Step I (fun j => ι (ρ j)) (renH ρ H) w I' (fun j => ι' (ρ j)) (renH ρ H') w' := by
  have own : ∀ {ι : Plc} {H : Heap} {b : Nat}, Own (fun j => ι (ρ j)) (renH ρ H) b ↔ Own ι H b := by
    intro ι H b
    constructor
    · rintro ⟨id, o, c, ho, hi⟩
      rw [renH_get' hρ] at ho
      obtain ⟨o0, h0, rfl⟩ := Option.map_eq_some_iff.1 ho
      exact ⟨_, o0, c, h0, hi⟩
    · rintro ⟨id, o, c, ho, hi⟩
      exact ⟨ρ id, renO ρ o, c, by rw [renH_get hρ, ho]; rfl, by show ι (ρ (ρ id)) = _; rw [hρ]; exact hi⟩
  refine ⟨h.os, h.tape, h.output, h.size, h.froz, h.imm, fun b hb => ?_, fun b hb => ?_, fun b hb hn => h.keep b hb (fun ho => hn (own.2 ho)), fun id o ho => ?_⟩
  · rcases h.immNew b hb with h1 | h1 | h1
    · exact .inl h1
    · exact .inr (.inl (own.2 h1))
    · exact .inr (.inr h1)
  · rcases h.own b (own.1 hb) with h1 | h1
    · exact .inl (own.2 h1)
    · exact .inr h1
  · rw [renH_get' hρ] at ho
    obtain ⟨o0, h0, rfl⟩ := Option.map_eq_some_iff.1 ho
    obtain ⟨o', e1, e2, e3⟩ := h.objs _ o0 h0
    exact ⟨renO ρ o', by rw [renH_get' hρ, e1]; rfl, e2, fun e => by
      obtain ⟨q1, q2, q3⟩ := e3 e
      exact ⟨q1, q2, by simpa [renO] using q3⟩⟩
theorem renL_renL (l : List AV) : renL ρ (renL ρ l) = l ∧ ∀ a ∈ l, renA ρ (renA ρ a) = a := by
  have key : ∀ n : Nat, ∀ a : AV, SizeOf.sizeOf a ≤ n → renA ρ (renA ρ a) = a := by
    intro n
    induction n with
    | zero => intro a ha; cases a <;> simp at ha <;> omega
    | succ n ih =>
      have hl : ∀ l : List AV, SizeOf.sizeOf l ≤ n + 1 → renL ρ (renL ρ l) = l := by
        intro l hl
        rw [renL_map, renL_map, List.map_map]
        have : ∀ a ∈ l, (renA ρ ∘ renA ρ) a = a := fun a ha => ih a (by have := List.sizeOf_lt_of_mem ha; omega)
        rw [List.map_congr_left this, List.map_id']
      intro a ha
      cases a with
      | any => rfl
      | pv p => rfl
      | ref id g i k => simp only [renA, hρ]
      | pad rows i k => rfl
      | osl id g off len => simp only [renA, hρ]
      | clo f caps => simp only [renA]; rw [hl caps (by simp at ha; omega)]
      | agg cs => simp only [renA]; rw [hl cs (by simp at ha; omega)]
      | tup cs => simp only [renA]; rw [hl cs (by simp at ha; omega)]
      | mp id g => simp only [renA, hρ]
      | it id g => simp only [renA, hρ]
  have h2 : ∀ a ∈ l, renA ρ (renA ρ a) = a := fun a _ => key _ a (Nat.le_refl _)
  refine ⟨?_, h2⟩
  rw [renL_map, renL_map, List.map_map]
  have : ∀ a ∈ l, (renA ρ ∘ renA ρ) a = a := h2
  rw [List.map_congr_left this, List.map_id']
theorem renH_renH (H : Heap) : renH ρ (renH ρ H) = H := by
  simp only [renH, List.map_map]
  have : ∀ p ∈ H, ((fun p : Nat × Ob => (ρ p.1, renO ρ p.2)) ∘ fun p => (ρ p.1, renO ρ p.2)) p = p := by
    rintro ⟨i, o⟩ _
    simp only [Function.comp, hρ, renO, List.map_map]
    have : ∀ r ∈ o.rows, (renL ρ ∘ renL ρ) r = r := fun r _ => (renL_renL hρ r).1
    rw [List.map_congr_left this, List.map_id']
  rw [List.map_congr_left this, List.map_id']
/-- A call under other names. -/
theorem ACalls.ren {P : Program} {f : FuncId} {args args' : List AV} {H H' H1 H1' : Heap} {r r' : AV} (h : ACalls P f args H (fun x K => x = r ∧ K = H1)) (ha : renL ρ args = args') (hH : renH ρ H = H') (hr : renA ρ r = r') (hH1 : renH ρ H1 = H1') :
    ACalls P f args' H' (fun x K => x = r' ∧ K = H1') := by
  subst ha hH hr hH1
  intro I ι w vs hrel hl hv
  have hrel' := hrel.ren hρ
  rw [renH_renH hρ] at hrel'
  have hl' : vs.size = args.length := by rw [hl, renL_map, List.length_map]
  refine (h I _ w vs hrel' hl' (fun i v a h1 h2 => ?_)).mono ?_
  · have := (hv i v (renA ρ a) h1 (by rw [renL_map, List.getElem?_map, h2]; rfl)).ren hρ
    rwa [renH_renH hρ, (renL_renL hρ [a]).2 a (by simp)] at this
  · rintro e w' ⟨x, K, I', ι', v, rfl, ⟨rfl, rfl⟩, k1, k2, k3⟩
    have k3' := k3.ren hρ
    have e1 : (fun j => (fun j => ι (ρ j)) (ρ j)) = ι := by funext j; simp only [hρ]
    rw [e1] at k3'
    exact ⟨_, _, I', _, v, rfl, ⟨rfl, rfl⟩, k1.ren hρ, k2.ren hρ, k3'⟩
end
end Go.Abs
end
section
set_option linter.unusedVariables false
set_option linter.unusedSimpArgs false
namespace Go.Abs

/-- A kind of keys. -/
structure KeyKind (α : Type) where
  d : TypeDesc
  pv : α → PV
  val : α → Value
  rel : ∀ (w : World) (I : Nat → Prop) (v : Value) (a : α), PRep w I v (pv a) → v = val a
  inj : ∀ a b, val a = val b → a = b
  is : ∀ a, MapKept.IsKey d (val a)
  rep : ∀ (w : World) (I : Nat → Prop) (a : α), PRep w I (val a) (pv a)
def strK : KeyKind ByteArray := ⟨.string, .str, .string, fun _ _ _ _ h => by cases h; rfl, fun _ _ h => by cases h; rfl, fun _ => trivial, fun _ _ _ => .str _⟩
def intK (k : IntKind) : KeyKind Int := ⟨.int k, .int k, .int k, fun _ _ _ _ h => by cases h; rfl, fun _ _ h => by cases h; rfl, fun _ => rfl, fun _ _ _ => .int _ _⟩
def boolK : KeyKind Bool := ⟨.bool, .bool, .bool, fun _ _ _ _ h => by cases h; rfl, fun _ _ h => by cases h; rfl, fun _ => trivial, fun _ _ _ => .bool _⟩

/-- The rows of a map from which nothing was struck: the stamps are the places. -/
def mrows {α : Type} (κ : KeyKind α) (l : List (α × AV)) : List (List AV) := l.mapIdx fun i p => [.pv (κ.pv p.1), p.2, .pv (.int .i64 i)]
theorem mrows_get {α : Type} {κ : KeyKind α} {l : List (α × AV)} {i : Nat} {r : List AV} : (mrows κ l)[i]? = some r ↔ ∃ p, l[i]? = some p ∧ r = [.pv (κ.pv p.1), p.2, .pv (.int .i64 i)] := by
  rw [mrows, List.getElem?_mapIdx]
  cases l[i]? with
  | none => simp
  | some p => simp [eq_comm]
theorem mrows_length {α : Type} (κ : KeyKind α) (l : List (α × AV)) : (mrows κ l).length = l.length := by simp [mrows]
theorem rep_val {α : Type} {κ : KeyKind α} {H : Heap} {w : World} {I : Nat → Prop} {ι : Plc} {v : Value} {k : α} (h : VRel w I ι H v (.pv (κ.pv k))) : v = κ.val k := κ.rel _ _ _ _ h.pv_inv
section
variable {α : Type}
/-- What a map's block holds. -/
structure MapAt (w : World) (I : Nat → Prop) (ι : Plc) (H : Heap) (κ : KeyKind α) (l : List (α × AV)) (es : Array MapEntry) : Prop where
  size : es.size = l.length
  rel : ∀ (i : Nat) (p : α × AV), l[i]? = some p → ∃ e, es[i]? = some e ∧ e.born = i ∧ e.key = κ.val p.1 ∧ VRel w I ι H e.val p.2

theorem map_at {w : World} {I : Nat → Prop} {ι : Plc} {H : Heap} {id b : Nat} {ob : Ob} {κ : KeyKind α} {l : List (α × AV)} (h : ObjRel w I ι H id ob) (hz : ob.sz = 0) (hι : ι id = some (b, 0)) (hrows : ob.rows = mrows κ l) :
    ∃ es, w.heap[b]? = some (.map es ob.ty) ∧ ¬ I b ∧ MapAt w I ι H κ l es := by
  obtain ⟨_, b', es, e1, e2, e3, e4, e5, e6, e7⟩ := h.map hz hι
  rw [hι] at e1; cases e1
  refine ⟨es, e2, e3, ⟨by rw [e4, hrows, mrows_length], fun i p hp => ?_⟩⟩
  obtain ⟨e, k, a, n, q1, q2, q3, q4, q5⟩ := e7 i _ (by rw [hrows]; exact mrows_get.2 ⟨p, hp, rfl⟩)
  cases q2
  exact ⟨e, q1, by injection q5.int_inv with _ hh; omega, κ.rel _ _ _ _ q3.pv_inv, q4⟩
theorem MapAt.born {w : World} {I : Nat → Prop} {ι : Plc} {H : Heap} {κ : KeyKind α} {l : List (α × AV)} {es : Array MapEntry} (h : MapAt w I ι H κ l es) {i : Nat} {e : MapEntry} (hi : es[i]? = some e) : e.born = i ∧ i < l.length := by
  have hlt : i < l.length := by rw [← h.size]; exact (Array.getElem?_eq_some_iff.1 hi).1
  obtain ⟨e', q1, q2, _⟩ := h.rel i l[i] (List.getElem?_eq_getElem hlt)
  rw [hi] at q1; cases q1
  exact ⟨q2, hlt⟩
section
variable {I : Nat → Prop} {ι : Plc} {H H' : Heap} {w : World} {id b cap : Nat} {ob ob' : Ob}
def World.setObj (w : World) (b : Nat) (x : Obj) : World := { w with heap := w.heap.setIfInBounds b x }
def isCells : Obj → Bool
  | .cells .. => true
  | _ => false
/-- The block of a map or of an iterator is written anew. -/
theorem Rel.rewrite {x0 x : Obj} (hr : Rel I ι H w) (hH : H.get id = some ob) (hι : ι id = some (b, cap)) (hz : ob.sz = 0) (hb : w.heap[b]? = some x0) (h0 : isCells x0 = false) (hx : isCells x = false) (hg : ob'.g = ob.g) (hz' : ob'.sz = 0)
    (hnew : w.heap.size = (World.setObj w b x).heap.size → (World.setObj w b x).heap[b]? = some x → ¬ I b → (∀ v a, VRel w I ι H v a → VRel (World.setObj w b x) I ι H' v a) → ObjRel (World.setObj w b x) I ι H' id ob')
    (h1 : H'.get id = some ob') (h2 : ∀ j, j ≠ id → H'.get j = H.get j) : Rel I ι H' (World.setObj w b x) ∧ Step I ι H w I ι H' (World.setObj w b x) := by
  have hown : Own ι H b := ⟨id, ob, cap, hH, hι⟩
  obtain ⟨hs1, hs2⟩ := MapKept.heap_set (w := w) (o' := x) hb
  have hst : Step I ι H w I ι H' (World.setObj w b x) := by
    refine ⟨rfl, rfl, rfl, by simp [World.setObj], fun a _ => ?_, fun _ h => h, fun _ h => .inl h, ?_, ?_, ?_⟩
    · by_cases e : a.block = b
      · simp only [World.frozen?, World.setObj, e, hs1, hb]
        cases x <;> cases x0 <;> first | rfl | (simp [isCells] at hx h0)
      · simp [World.frozen?, World.setObj, hs2 _ e]
    · rintro y ⟨j, o, c, hj, hc⟩
      by_cases e : j = id
      · subst e; exact .inl ⟨j, ob, c, hH, hc⟩
      · exact .inl ⟨j, o, c, (h2 j e).symm.trans hj, hc⟩
    · intro y _ hy
      exact hs2 y (fun e => hy (e ▸ hown))
    · intro j o hj
      by_cases e : j = id
      · subst e
        rw [hH] at hj; cases hj
        exact ⟨ob', h1, by omega, fun _ => ⟨rfl, by omega, fun h => by omega⟩⟩
      · exact ⟨o, (h2 j e).trans hj, Nat.le_refl _, fun _ => ⟨rfl, rfl, fun _ => Nat.le_refl _⟩⟩
  refine ⟨⟨fun y hy => by simpa [World.setObj] using hr.imm y hy, ?_, ?_⟩, hst⟩
  · intro j o hj
    by_cases e : j = id
    · subst e
      rw [h1] at hj; cases hj
      exact hnew (by simp [World.setObj]) hs1 ((hr.obj j ob hH).block hι).2 (fun v a hv => hv.mono hr hst)
    · rw [h2 j e] at hj
      exact (hr.obj j o hj).keep rfl (fun y c hy _ => ⟨hs2 y (fun hbb => e (hr.inj j id o ob b c cap hj hH (hbb ▸ hy) hι)), fun h => h⟩) (fun r _ a _ v hv => hv.mono hr hst)
  · intro j j' o o' y c c' hj hj' hc hc'
    have key : ∀ j o, H'.get j = some o → ∃ o, H.get j = some o := by
      intro j o hj
      by_cases e : j = id
      · exact ⟨ob, e ▸ hH⟩
      · exact ⟨o, (h2 j e).symm.trans hj⟩
    obtain ⟨q, hq⟩ := key j o hj
    obtain ⟨q', hq'⟩ := key j' o' hj'
    exact hr.inj j j' q q' y c c' hq hq' hc hc'
theorem Rel.remap {κ : KeyKind α} {l : List (α × AV)} {es0 es' : Array MapEntry} {c0 : Nat} (hr : Rel I ι H w) (hH : H.get id = some ob) (hι : ι id = some (b, 0)) (hz : ob.sz = 0) (hb : w.heap[b]? = some (.map es0 c0)) (hg : ob'.g = ob.g) (hz' : ob'.sz = 0) (hty : ob'.ty = l.length) (hrows : ob'.rows = mrows κ l)
    (hm : MapAt w I ι H κ l es') (h1 : H'.get id = some ob') (h2 : ∀ j, j ≠ id → H'.get j = H.get j) : Rel I ι H' (World.setObj w b (.map es' l.length)) ∧ Step I ι H w I ι H' (World.setObj w b (.map es' l.length)) := by
  refine hr.rewrite hH hι hz hb rfl rfl hg hz' (fun _ hs1 hI hmono => ?_) h1 h2
  refine .inr (.inl ⟨hz', b, es', hι, by rw [hty]; exact hs1, hI, by rw [hm.size, hrows, mrows_length], fun i e hi => ?_, fun i j e e' hij hi hj => ?_, fun i r hr' => ?_⟩)
  · obtain ⟨q1, q2⟩ := hm.born hi
    rw [q1, hty]; exact q2
  · have q1 := (hm.born hi).1
    have q2 := (hm.born hj).1
    omega
  · rw [hrows] at hr'
    obtain ⟨p, hp, rfl⟩ := mrows_get.1 hr'
    obtain ⟨e, q1, q2, q3, q4⟩ := hm.rel i p hp
    exact ⟨e, _, _, _, q1, rfl, by rw [q3]; exact .pv (κ.rep _ _ p.1), hmono _ _ q4, by rw [q2]; exact .pv (.int _ _)⟩
end

theorem mp_ptr {w : World} {I : Nat → Prop} {ι : Plc} {H : Heap} {v : Value} {id g : Nat} {ob : Ob} (h : VRel w I ι H v (.mp id g)) (hH : H.get id = some ob) (hg : ob.g = g) : ob.sz = 0 ∧ ∃ b, ι id = some (b, 0) ∧ v = .map (some b) := by
  cases h with
  | mp o' h1 h2 _ h3 =>
    rw [hH] at h1; cases h1
    exact h3 hg
/-- The entries of a map are counted. -/
theorem opd_len_mp {P : Program} {N : Nat} {o : Oper} {E : Env} {H : Heap} {T kt et : TypeId} {x : Operand} {κ : KeyKind α} {l : List (α × AV)} {id g : Nat} {ob : Ob} (ho : o.op = .call { callee := .builtin .len, args := #[x], argTypes := #[T] }) (hT : P.underlying T = some (.map kt et)) (hx : aeval E x = some (.mp id g)) (hH : H.get id = some ob) (hg : ob.g = g) (hrows : ob.rows = mrows κ l) :
    OpD P N o E H (.pv (.int .i64 l.length)) H :=
  .of_run fun a w I ι hr he => by
    obtain ⟨hsz, b, hι, hvx⟩ := mp_ptr (aeval_rel he hx) hH hg
    obtain ⟨es, e2, e3, e4⟩ := map_at (hr.obj id ob hH) hsz hι hrows
    refine ⟨.int .i64 l.length, ?_, .pv (.int _ _)⟩
    simp [execOp, ho, resolve, invoke, builtin, hvx, Builtin.len_, run_underlying hT, MapKept.run_getObj_map e2, goInt, e4.size]
variable [DecidableEq α]
def mget : List (α × AV) → α → Option AV
  | [], _ => none
  | (k', a) :: r, k => if k' = k then some a else mget r k
def mput : List (α × AV) → α → AV → List (α × AV)
  | [], k, v => [(k, v)]
  | (k', a) :: r, k, v => if k' = k then (k, v) :: r else (k', a) :: mput r k v
def mdel : List (α × AV) → α → List (α × AV)
  | [], _ => []
  | (k', a) :: r, k => if k' = k then r else (k', a) :: mdel r k

theorem find_at {w : World} {I : Nat → Prop} {ι : Plc} {H : Heap} (κ : KeyKind α) (k : α) : ∀ (l : List (α × AV)) (es : List MapEntry) (i : Nat), es.length = l.length → (∀ (i : Nat) (p : α × AV), l[i]? = some p → ∃ e, es[i]? = some e ∧ e.key = κ.val p.1 ∧ VRel w I ι H e.val p.2) →
    (Instr.findNow κ.d (κ.val k) es i = some none ∧ mget l k = none ∧ ∀ v, mput l k v = l ++ [(k, v)]) ∨
    ∃ j e a, Instr.findNow κ.d (κ.val k) es i = some (some (i + j, e.val)) ∧ es[j]? = some e ∧ e.key = κ.val k ∧ mget l k = some a ∧ VRel w I ι H e.val a ∧ l[j]? = some (k, a) ∧ (∀ v, mput l k v = l.set j (k, v)) ∧ mdel l k = l.eraseIdx j
  | [], [], i, _, _ => .inl ⟨rfl, rfl, fun _ => rfl⟩
  | (k', a) :: l, e :: es, i, hl, hr => by
    obtain ⟨e0, z1, z2, z3⟩ := hr 0 (k', a) rfl
    cases z1
    obtain ⟨r, hr1, hiff⟩ := MapKept.sameNow_of_keys (κ.is k) (show MapKept.IsKey κ.d e.key by rw [z2]; exact κ.is k')
    by_cases hk : k' = k
    · subst hk
      have hrt : r = true := hiff.2 z2.symm
      subst hrt
      exact .inr ⟨0, e, a, by simp [Instr.findNow, hr1], rfl, z2, by simp [mget], z3, rfl, fun v => by simp [mput], by simp [mdel]⟩
    · have hrf : r = false := by
        cases r with
        | false => rfl
        | true => exact absurd (κ.inj _ _ ((hiff.1 rfl).trans z2)).symm hk
      subst hrf
      rcases find_at κ k l es (i + 1) (by simpa using hl) (fun i p hp => hr (i + 1) p hp) with ⟨h1, h2, h3⟩ | ⟨j, e', a', h1, h2, h3, h4, h5, h6, h7, h8⟩
      · exact .inl ⟨by simp [Instr.findNow, hr1, h1], by simp [mget, hk, h2], fun v => by simp [mput, hk, h3]⟩
      · exact .inr ⟨j + 1, e', a', by simp [Instr.findNow, hr1, h1]; omega, by simpa using h2, h3, by simp [mget, hk, h4], h5, by simpa using h6, fun v => by simp [mput, hk, h7], by simp [mdel, hk, h8]⟩

section
variable {P : Program} {N : Nat} {o : Oper} {E : Env} {H : Heap} {T kt et : TypeId} {x y z : Operand} {κ : KeyKind α} {l : List (α × AV)} {id g : Nat} {ob : Ob} {k : α}
/-- A map is asked. -/
theorem opd_lookup {zv : Value} {v0 : AV} (ho : o.op = .lookup T x y false) (hT : P.underlying T = some (.map kt et)) (hd : P.underlying kt = some κ.d) (hx : aeval E x = some (.mp id g)) (hH : H.get id = some ob) (hg : ob.g = g)
    (hrows : ob.rows = mrows κ l) (hy : aeval E y = some (.pv (κ.pv k))) (hz : ∀ w, (zeroValue et).run P w = .ok zv w) (hv : ZV zv v0) : OpD P N o E H ((mget l k).getD v0) H :=
  .of_run fun a w I ι hr he => by
    obtain ⟨hsz, b, hι, hvx⟩ := mp_ptr (aeval_rel he hx) hH hg
    obtain ⟨es, e2, e3, e4⟩ := map_at (hr.obj id ob hH) hsz hι hrows
    have hvy := rep_val (aeval_rel he hy)
    rcases find_at κ k l es.toList 0 (by simpa using e4.size) (fun i p hp => let ⟨e, q1, _, q3⟩ := e4.rel i p hp; ⟨e, by simpa using q1, q3⟩) with ⟨h1, h2, h3⟩ | ⟨j, e, a', h1, h2, h3, h4, h5, _⟩
    · refine ⟨zv, ?_, by rw [h2]; exact hv.rel⟩
      simp only [execOp, ho, hvx, hvy]
      simp [Instr.lookup, run_underlying hT, MapKept.run_getObj_map e2, MapKept.run_checkKey hd (κ.is k), MapKept.run_findKey hd h1, hz]
    · refine ⟨e.val, ?_, by rw [h4]; exact h5⟩
      simp only [execOp, ho, hvx, hvy]
      simp [Instr.lookup, run_underlying hT, MapKept.run_getObj_map e2, MapKept.run_checkKey hd (κ.is k), MapKept.run_findKey hd h1]
theorem opd_lookup_ok {zv : Value} {v0 : AV} (ho : o.op = .lookup T x y true) (hT : P.underlying T = some (.map kt et)) (hd : P.underlying kt = some κ.d) (hx : aeval E x = some (.mp id g)) (hH : H.get id = some ob) (hg : ob.g = g)
    (hrows : ob.rows = mrows κ l) (hy : aeval E y = some (.pv (κ.pv k))) (hz : ∀ w, (zeroValue et).run P w = .ok zv w) (hv : ZV zv v0) : OpD P N o E H (.tup [(mget l k).getD v0, .pv (.bool (mget l k).isSome)]) H :=
  .of_run fun a w I ι hr he => by
    obtain ⟨hsz, b, hι, hvx⟩ := mp_ptr (aeval_rel he hx) hH hg
    obtain ⟨es, e2, e3, e4⟩ := map_at (hr.obj id ob hH) hsz hι hrows
    have hvy := rep_val (aeval_rel he hy)
    have two : ∀ {u : Value} {a : AV} {c : Bool}, VRel w I ι H u a → VRel w I ι H (.tuple #[u, .bool c]) (.tup [a, .pv (.bool c)]) := fun {u a c} hu => .tup rfl (fun i v q hv hq => by
      match i with
      | 0 => simp at hv hq; subst hv hq; exact hu
      | 1 => simp at hv hq; subst hv hq; exact .pv (.bool _)
      | i + 2 => simp at hv)
    rcases find_at κ k l es.toList 0 (by simpa using e4.size) (fun i p hp => let ⟨e, q1, _, q3⟩ := e4.rel i p hp; ⟨e, by simpa using q1, q3⟩) with ⟨h1, h2, h3⟩ | ⟨j, e, a', h1, h2, h3, h4, h5, _⟩
    · refine ⟨.tuple #[zv, .bool false], ?_, by rw [h2]; exact two hv.rel⟩
      simp only [execOp, ho, hvx, hvy]
      simp [Instr.lookup, run_underlying hT, MapKept.run_getObj_map e2, MapKept.run_checkKey hd (κ.is k), MapKept.run_findKey hd h1, hz]
    · refine ⟨.tuple #[e.val, .bool true], ?_, by rw [h4]; exact two h5⟩
      simp only [execOp, ho, hvx, hvy]
      simp [Instr.lookup, run_underlying hT, MapKept.run_getObj_map e2, MapKept.run_checkKey hd (κ.is k), MapKept.run_findKey hd h1]
/-- An entry is written. -/
theorem opd_mapUpdate {v : AV} {H2 : Heap} (ho : o.op = .mapUpdate T x y z ∨ o.op = .insert T x y z) (hT : P.underlying T = some (.map kt et)) (hd : P.underlying kt = some κ.d) (hx : aeval E x = some (.mp id g)) (hH : H.get id = some ob) (hg : ob.g = g)
    (hty : ob.ty = l.length) (hrows : ob.rows = mrows κ l) (hy : aeval E y = some (.pv (κ.pv k))) (hz : aeval E z = some v) (hH2 : H.set id { ob with ty := (mput l k v).length, rows := mrows κ (mput l k v) } = H2) : OpD P N o E H .any H2 := by
  intro a w I ι _ _ hr he K Q hkk
  obtain ⟨hsz, b, hι, hvx⟩ := mp_ptr (aeval_rel he hx) hH hg
  obtain ⟨es, e2, e3, e4⟩ := map_at (hr.obj id ob hH) hsz hι hrows
  rw [hty] at e2
  have hvy := rep_val (aeval_rel he hy)
  have hvz := aeval_rel he hz
  subst hH2
  have fin : ∀ es', (Instr.mapUpdate T (a.eval x) (a.eval y) (a.eval z)).run P w = .ok () (World.setObj w b (.map es' (mput l k v).length)) → MapAt w I ι H κ (mput l k v) es' → o.wp P a w K Q := by
    intro es' hrun hm
    obtain ⟨k2, k3⟩ := Rel.remap (H' := H.set id { ob with ty := (mput l k v).length, rows := mrows κ (mput l k v) }) (ob' := { ob with ty := (mput l k v).length, rows := mrows κ (mput l k v) }) hr hH hι hsz e2 rfl hsz rfl rfl hm (Heap.get_set_same _ _ _) (fun j hj => Heap.get_set_other _ _ hj)
    unfold Oper.wp execOp
    rcases ho with ho | ho
    · simp only [ho, Sem.run_bind, hrun, Result.andThen_ok, Sem.run_pure]
      exact hkk _ _ I ι _ _ ⟨rfl, rfl⟩ (.any _) k2 k3
    · simp only [ho, Sem.run_bind, hrun, Result.andThen_ok, Sem.run_pure]
      exact hkk _ _ I ι _ _ ⟨rfl, rfl⟩ (.any _) k2 k3
  rcases find_at κ k l es.toList 0 (by simpa using e4.size) (fun i p hp => let ⟨e, q1, _, q3⟩ := e4.rel i p hp; ⟨e, by simpa using q1, q3⟩) with ⟨h1, h2, h3⟩ | ⟨j, e, a', h1, h2, h3, h4, h5, h6, h7, h8⟩
  · refine fin (es.push { key := κ.val k, val := a.eval z, born := l.length }) ?_ ⟨?_, ?_⟩
    · simp [Instr.mapUpdate, hvx, hvy, run_underlying hT, MapKept.run_getObj_map e2, MapKept.run_checkKey hd (κ.is k), MapKept.run_findKey hd h1, MapKept.run_setObj_map _ e2, World.setObj, h3]
    · rw [h3]; simp [e4.size]
    · intro i p hp
      rw [h3] at hp
      by_cases hi : i < l.length
      · rw [List.getElem?_append_left hi] at hp
        obtain ⟨e, q1, q2⟩ := e4.rel i p hp
        exact ⟨e, by rw [Array.getElem?_push, if_neg (by rw [e4.size]; omega)]; exact q1, q2⟩
      · rw [List.getElem?_append_right (by omega)] at hp
        cases hil : i - l.length with
        | zero =>
          rw [hil] at hp
          cases hp
          exact ⟨_, by rw [Array.getElem?_push, if_pos (by rw [e4.size]; omega)], by show l.length = i; omega, rfl, hvz⟩
        | succ m => rw [hil] at hp; simp at hp
  · have hj : es[j]? = some e := by simpa using h2
    have hjl : j < es.size := (Array.getElem?_eq_some_iff.1 hj).1
    have hln : (mput l k v).length = l.length := by rw [h7]; simp
    refine fin (es.modify j fun e => { e with key := κ.val k, val := a.eval z }) ?_ ⟨?_, ?_⟩
    · simp [Instr.mapUpdate, hvx, hvy, run_underlying hT, MapKept.run_getObj_map e2, MapKept.run_checkKey hd (κ.is k), MapKept.run_findKey hd h1, hj, h3, MapKept.run_keyThatStays (κ.is k), MapKept.run_setObj_map _ e2, World.setObj, hln]
    · rw [h7]; simp [e4.size]
    · intro i p hp
      rw [h7] at hp
      by_cases e : i = j
      · subst e
        rw [List.getElem?_set_self (by rw [← e4.size]; exact hjl)] at hp
        cases hp
        exact ⟨{ e with key := κ.val k, val := a.eval z }, by rw [Array.getElem?_modify, if_pos rfl, hj]; rfl, (e4.born hj).1, rfl, hvz⟩
      · rw [List.getElem?_set_ne (Ne.symm e)] at hp
        obtain ⟨e', q1, q2⟩ := e4.rel i p hp
        exact ⟨e', by rw [Array.getElem?_modify, if_neg (Ne.symm e)]; exact q1, q2⟩

/-- A map or an iterator gets a new block. -/
theorem Rel.placeX {I : Nat → Prop} {ι : Plc} {H H' : Heap} {w w' : World} {id cap : Nat} {ob' : Ob} {x : Obj} (hr : Rel I ι H w) (hos : w'.os = w.os) (htape : w'.tape = w.tape) (hout : w'.output = w.output) (hw : w'.heap = w.heap.push x)
    (hold : ∀ o, H.get id = some o → o.g < ob'.g)
    (hobj : w'.heap[w.heap.size]? = some x → ¬ I w.heap.size → (∀ v a, VRel w I ι H v a → VRel w' I (fun j => if j = id then some (w.heap.size, cap) else ι j) H' v a) → ObjRel w' I (fun j => if j = id then some (w.heap.size, cap) else ι j) H' id ob')
    (h1 : H'.get id = some ob') (h2 : ∀ j, j ≠ id → H'.get j = H.get j) :
    Rel I (fun j => if j = id then some (w.heap.size, cap) else ι j) H' w' ∧ Step I ι H w I (fun j => if j = id then some (w.heap.size, cap) else ι j) H' w' := by
  have hnew : w'.heap[w.heap.size]? = some x := by rw [hw]; simp
  have holdb : ∀ x, x < w.heap.size → w'.heap[x]? = w.heap[x]? := fun x hx => by rw [hw, Array.getElem?_push, if_neg (Nat.ne_of_lt hx)]
  have hsize : w'.heap.size = w.heap.size + 1 := by rw [hw]; simp
  have hst : Step I ι H w I (fun j => if j = id then some (w.heap.size, cap) else ι j) H' w' := by
    refine ⟨hos, htape, hout, by omega, fun a ha => ?_, fun _ h => h, fun _ h => .inl h, ?_, fun x hx _ => holdb x hx, ?_⟩
    · simp [World.frozen?, holdb a.block ha]
    · rintro x ⟨j, o, c, hj, hc⟩
      by_cases e : j = id
      · simp only [e, if_true] at hc; cases hc; exact .inr (Nat.le_refl _)
      · simp only [e, if_false] at hc; exact .inl ⟨j, o, c, (h2 j e).symm.trans hj, hc⟩
    · intro j o hj
      by_cases e : j = id
      · subst e
        have := hold o hj
        exact ⟨ob', h1, by omega, fun e => by omega⟩
      · exact ⟨o, (h2 j e).trans hj, Nat.le_refl _, fun _ => ⟨by simp [e], rfl, fun _ => Nat.le_refl _⟩⟩
  refine ⟨⟨fun x hx => by have := hr.imm x hx; omega, ?_, ?_⟩, hst⟩
  · intro j o hj
    by_cases e : j = id
    · subst e
      rw [h1] at hj; cases hj
      exact hobj hnew (fun hi => Nat.lt_irrefl _ (hr.imm _ hi)) (fun v a hv => hv.mono hr hst)
    · rw [h2 j e] at hj
      exact (hr.obj j o hj).keep (by simp [e]) (fun x c _ hx => ⟨holdb x hx, fun h => h⟩) (fun r _ a _ v hv => hv.mono hr hst)
  · intro j j' o o' x c c' hj hj' hc hc'
    by_cases e : j = id <;> by_cases e' : j' = id
    · rw [e, e']
    · simp only [e, if_true] at hc
      simp only [e', if_false] at hc'
      cases hc
      have := hr.lt ⟨j', o', c', (h2 j' e').symm.trans hj', hc'⟩
      exact absurd this (Nat.lt_irrefl _)
    · simp only [e, if_false] at hc
      simp only [e', if_true] at hc'
      cases hc'
      have := hr.lt ⟨j, o, c, (h2 j e).symm.trans hj, hc⟩
      exact absurd this (Nat.lt_irrefl _)
    · simp only [e, if_false] at hc
      simp only [e', if_false] at hc'
      exact hr.inj j j' o o' x c c' ((h2 j e).symm.trans hj) ((h2 j' e').symm.trans hj') hc hc'
theorem Rel.placeM {I : Nat → Prop} {ι : Plc} {H H' : Heap} {w w' : World} {id : Nat} {ob' : Ob} (hr : Rel I ι H w) (hos : w'.os = w.os) (htape : w'.tape = w.tape) (hout : w'.output = w.output) (hw : w'.heap = w.heap.push (.map #[] 0))
    (hold : ∀ o, H.get id = some o → o.g < ob'.g) (hsz : ob'.sz = 0) (hty : ob'.ty = 0) (hrows : ob'.rows = []) (h1 : H'.get id = some ob') (h2 : ∀ j, j ≠ id → H'.get j = H.get j) :
    Rel I (fun j => if j = id then some (w.heap.size, 0) else ι j) H' w' ∧ Step I ι H w I (fun j => if j = id then some (w.heap.size, 0) else ι j) H' w' :=
  hr.placeX hos htape hout hw hold (fun hnew hI _ => .inr (.inl ⟨hsz, w.heap.size, #[], by simp, by rw [hty]; exact hnew, hI, by rw [hrows]; rfl, by simp, by simp, by rw [hrows]; simp⟩)) h1 h2
theorem lay_map {I : Nat → Prop} {ι : Plc} {w : World} {id gg : Nat} (hr : Rel I ι H w) (hid : ∀ o, H.get id = some o → o.g < gg) :
    ∃ ι', VRel (w.alloc (.map #[] 0)) I ι' ((id, ⟨gg, 0, 0, []⟩) :: H) (.map (some w.heap.size)) (.mp id gg) ∧ Rel I ι' ((id, ⟨gg, 0, 0, []⟩) :: H) (w.alloc (.map #[] 0)) ∧ Step I ι H w I ι' ((id, ⟨gg, 0, 0, []⟩) :: H) (w.alloc (.map #[] 0)) := by
  obtain ⟨h1, h2⟩ := Rel.placeM (H' := (id, ⟨gg, 0, 0, []⟩) :: H) (id := id) (ob' := ⟨gg, 0, 0, []⟩) (w' := w.alloc (.map #[] 0)) hr rfl rfl rfl rfl hid rfl rfl rfl (get_cons_same _ _ _) (fun j hj => get_cons_other _ _ hj)
  exact ⟨_, .mp ⟨gg, 0, 0, []⟩ (get_cons_same _ _ _) (Nat.le_refl _) rfl fun _ => ⟨rfl, w.heap.size, by simp, rfl⟩, h1, h2⟩
theorem opd_makeMap {α : Type} (κ : KeyKind α) (ho : o.op = .makeMap T none) (hid : H.get id = none) : OpD P N o E H (.mp id 0) ((id, ⟨0, 0, ([] : List (α × AV)).length, mrows κ []⟩) :: H) := by
  intro a w I ι _ _ hr he K Q hk
  obtain ⟨ι', h1, h2, h3⟩ := lay_map (id := id) (gg := 0) hr (fun o ho => by rw [hid] at ho; cases ho)
  unfold Oper.wp execOp
  simp only [ho, Instr.makeMap, Option.map_none, Sem.run_bind, run_newObj, Sem.run_pure, Result.andThen_ok]
  exact hk _ _ I ι' _ _ ⟨rfl, rfl⟩ h1 h2 h3
theorem opd_makeMap_n {α : Type} (κ : KeyKind α) {kk : IntKind} {n : Int} (ho : o.op = .makeMap T (some x)) (hT : P.underlying T = some (.map kt et)) (hx : aeval E x = some (.pv (.int kk n))) (hid : H.get id = none) : OpD P N o E H (.mp id 0) ((id, ⟨0, 0, ([] : List (α × AV)).length, mrows κ []⟩) :: H) := by
  intro a w I ι _ _ hr he K Q hk
  obtain ⟨ι', h1, h2, h3⟩ := lay_map (id := id) (gg := 0) hr (fun o ho => by rw [hid] at ho; cases ho)
  have hn := (aeval_rel he hx).int_inv
  unfold Oper.wp execOp
  simp only [ho, Instr.makeMap, Option.map_some, hn, Sem.run_bind, run_underlying hT, asInt, asIntOf, run_newObj, Sem.run_pure, Result.andThen_ok]
  exact hk _ _ I ι' _ _ ⟨rfl, rfl⟩ h1 h2 h3
theorem x_mapUpdate {v : AV} {l' : List (α × AV)} (ho : o.op = .mapUpdate T x y z ∨ o.op = .insert T x y z) (hT : P.underlying T = some (.map kt et)) (hd : P.underlying kt = some κ.d) (hx : aeval E x = some (.mp id g)) (hH : H.get id = some ob) (hg : ob.g = g)
    (hty : ob.ty = l.length) (hrows : ob.rows = mrows κ l) (hy : aeval E y = some (.pv (κ.pv k))) (hz : aeval E z = some v) (hr : mput l k v = l') : OpD P N o E H .any ((id, ⟨g, ob.sz, l'.length, mrows κ l'⟩) :: H) := by
  subst hg hr
  exact (opd_mapUpdate ho hT hd hx hH rfl hty hrows hy hz rfl).congr (set_cons _ _ _)
end
end
end Go.Abs
end
