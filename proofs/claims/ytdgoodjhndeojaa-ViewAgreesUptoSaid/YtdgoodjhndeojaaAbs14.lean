/-
  THE BRIDGE: what an argument reads, as the abstract logic's pure values; and it reads so behind a call that leaves the old blocks. Conditions: types of booleans, integers, strings, slices and structs of such.
-/
import Derived.Test.YtdgoodjhndeojaaRows
import Derived.Test.YtdgoodjhndeojaaAbs13
set_option linter.unusedVariables false
namespace Go.Abs
open Go.Proofs.Ytdgoodjhndeojaa

theorem bulk_pos {H : Type} (d : DataW H) : 1 ≤ Rows.uptoBulk d := by
  cases d with
  | lit l => cases l <;> simp [Rows.uptoBulk]
  | _ => simp [Rows.uptoBulk]
theorem bulk_mem {H : Type} {d : DataW H} {l : List (DataW H)} (h : d ∈ l) : Rows.uptoBulk d ≤ Rows.uptoBulkAll l := by
  induction l with
  | nil => cases h
  | cons x r ih =>
    simp only [Rows.uptoBulkAll]
    rcases List.mem_cons.1 h with e | e
    · subst e; omega
    · have := ih e; omega
theorem bulk_len {H : Type} (l : List (DataW H)) : l.length ≤ Rows.uptoBulkAll l := by
  induction l with
  | nil => simp
  | cons x r ih => have := bulk_pos x; simp only [Rows.uptoBulkAll, List.length_cons]; omega

/-- The cells of a value and the pure values that they hold. -/
inductive PL (w : World) (I : Nat → Prop) : List Value → List PV → Prop
  | nil : PL w I [] []
  | cons {c : Value} {p : PV} {cs : List Value} {ps : List PV} (h : PRep w I c p) (r : PL w I cs ps) : PL w I (c :: cs) (p :: ps)
theorem PL.length {w : World} {I : Nat → Prop} {cs : List Value} {ps : List PV} (h : PL w I cs ps) : cs.length = ps.length := by
  induction h with
  | nil => rfl
  | cons h r ih => simp [ih]
theorem PL.append {w : World} {I : Nat → Prop} {cs cs' : List Value} {ps ps' : List PV} (h : PL w I cs ps) (h' : PL w I cs' ps') : PL w I (cs ++ cs') (ps ++ ps') := by
  induction h with
  | nil => exact h'
  | cons h r ih => exact .cons h ih
theorem PL.get {w : World} {I : Nat → Prop} {cs : List Value} {ps : List PV} (h : PL w I cs ps) : ∀ (k : Nat) (c : Value) (p : PV), cs[k]? = some c → ps[k]? = some p → PRep w I c p := by
  induction h with
  | nil => intro k c p h; simp at h
  | cons h r ih =>
    intro k c p hc hp
    cases k with
    | zero => cases hc; cases hp; exact h
    | succ k => exact ih k c p hc hp

def contig (P : Program) : Nat → List Field → Nat → Bool
  | o, [], n => Nat.beq o n
  | o, f :: r, n => Nat.beq f.offset o && contig P (o + P.cellsOf f.type) r n
/-- Types of pure values. -/
def pureT (P : Program) : Nat → TypeId → Bool
  | 0, _ => false
  | n + 1, t => match P.underlying t with
    | some .bool => true
    | some (.int _) => true
    | some .string => true
    | some (.slice e) => pureT P n e && Nat.blt 0 (P.cellsOf e)
    | some (.struct fs) => contig P 0 fs.toList (P.cellsOf t) && fs.toList.all fun f => pureT P n f.type
    | _ => false
def ShF (S : TypeId → List PV → Prop) (c : TypeId → Nat) : List Field → List PV → Prop
  | [], ps => ps = []
  | f :: r, ps => ∃ a b, ps = a ++ b ∧ a.length = c f.type ∧ S f.type a ∧ ShF S c r b
/-- The shape of the pure values of a type. -/
def Sh (P : Program) (B : Nat) : Nat → TypeId → List PV → Prop
  | 0, _, _ => False
  | n + 1, t, ps => match P.underlying t with
    | some .bool => ∃ b, ps = [.bool b]
    | some (.int k) => ∃ i, ps = [.int k i] ∧ (Lit.int k i).wf = true
    | some .string => ∃ s, ps = [.str s] ∧ s.size ≤ B
    | some (.slice e) => ∃ rows, ps = [.sl rows] ∧ rows.length ≤ B ∧ ∀ r ∈ rows, r.length = P.cellsOf e ∧ Sh P B n e r
    | some (.struct fs) => ShF (fun t ps => Sh P B n t ps) P.cellsOf fs.toList ps
    | _ => False

theorem mapM_build {α β γ : Type} {g : α → Option β} {R : α → γ → Prop} : ∀ {l : List α} {ys : List β}, l.mapM g = some ys → (∀ a, a ∈ l → ∀ y, g a = some y → y ∈ ys → ∃ c, R a c) → ∃ cs : List γ, cs.length = l.length ∧ ∀ (k : Nat) (a : α) (c : γ), l[k]? = some a → cs[k]? = some c → R a c
  | [], ys, h, hR => ⟨[], rfl, fun k a c h => by simp at h⟩
  | a :: l, ys, h, hR => by
    simp only [List.mapM_cons, Option.pure_def, Option.bind_eq_bind, Option.bind_eq_some_iff, Option.some.injEq] at h
    obtain ⟨y, h1, ys', h2, rfl⟩ := h
    obtain ⟨c, hc⟩ := hR a (by simp) y h1 (by simp)
    obtain ⟨cs, e1, e2⟩ := mapM_build h2 (fun a' ha y' hy hm => hR a' (by simp [ha]) y' hy (by simp [hm]))
    refine ⟨c :: cs, by simp [e1], fun k a' c' h1 h2 => ?_⟩
    cases k with
    | zero => cases h1; cases h2; exact hc
    | succ k => exact e2 k a' c' h1 h2
theorem mapM_length {α β : Type} {g : α → Option β} : ∀ {l : List α} {ys : List β}, l.mapM g = some ys → ys.length = l.length
  | [], ys, h => by simp at h; subst h; rfl
  | a :: l, ys, h => by
    simp only [List.mapM_cons, Option.pure_def, Option.bind_eq_bind, Option.bind_eq_some_iff, Option.some.injEq] at h
    obtain ⟨y, h1, ys', h2, rfl⟩ := h
    simp [mapM_length h2]
theorem mapM_head {α β : Type} {g : α → Option β} {l : List α} {ys : List β} (h : l.mapM g = some ys) {a : α} (ha : a ∈ l) : ∃ y, g a = some y ∧ y ∈ ys := by
  induction l generalizing ys with
  | nil => cases ha
  | cons x l ih =>
    simp only [List.mapM_cons, Option.pure_def, Option.bind_eq_bind, Option.bind_eq_some_iff, Option.some.injEq] at h
    obtain ⟨y, h1, ys', h2, rfl⟩ := h
    rcases List.mem_cons.1 ha with e | e
    · subst e; exact ⟨y, h1, by simp⟩
    · obtain ⟨z, z1, z2⟩ := ih h2 e
      exact ⟨z, z1, by simp [z2]⟩
abbrev Old (W : World) : Nat → Prop := fun b => b < W.heap.size
theorem old_cell {W : World} {a : Addr} {v : Value} (h : W.cell? a = some v) : a.spot = none ∧ Old W a.block := by
  unfold World.cell? at h
  split at h
  · next c t fr e =>
    refine ⟨?_, (Array.getElem?_eq_some_iff.1 e).1⟩
    cases hs : a.spot with
    | none => rfl
    | some k => rw [hs] at h; simp at h
  · cases h
section
variable {H : Type} {enc : TypeId × Value → H} {P : Program} {W : World} {B : Nat}
theorem contig_le {P : Program} : ∀ {fs : List Field} {o n : Nat}, contig P o fs n = true → o ≤ n
  | [], o, n, h => Nat.le_of_eq (Nat.eq_of_beq_eq_true h)
  | f :: fs, o, n, h => by
    simp only [contig, Bool.and_eq_true] at h
    have := contig_le h.2
    omega
/-- The fields of a struct, one after the other. -/
theorem fields_sh {m n : Nat} {cs : List Value} (hn : ∀ (t : TypeId) (cs : List Value) (x : DataW H × List MemPlace), pureT P n t = true → DataW.trod enc P W 0 (fun _ => true) true m t cs = some x → Rows.uptoBulk x.1 ≤ B → ∃ ps, PL W (Old W) cs ps ∧ Sh P B n t ps) :
    ∀ (fs : List Field) (xs : List (DataW H × List MemPlace)) (o : Nat), contig P o fs cs.length = true → (fs.all fun f => pureT P n f.type) = true → xs.length = fs.length →
      (∀ (i : Nat) (f : Field), fs[i]? = some f → DataW.trod enc P W 0 (fun _ => true) true m f.type ((cs.drop f.offset).take (P.cellsOf f.type)) = xs[i]?) → Rows.uptoBulkAll (xs.map (·.1)) ≤ B →
      ∃ ps, PL W (Old W) (cs.drop o) ps ∧ ShF (fun t ps => Sh P B n t ps) P.cellsOf fs ps
  | [], xs, o, hc, _, hl, hx, hb => by
    have : o = cs.length := Nat.eq_of_beq_eq_true hc
    subst this
    exact ⟨[], by rw [List.drop_length]; exact .nil, rfl⟩
  | f :: fs, [], o, hc, _, hl, hx, hb => by simp at hl
  | f :: fs, x :: xs, o, hc, hp, hl, hx, hb => by
    simp only [contig, Bool.and_eq_true] at hc
    have ho : f.offset = o := Nat.eq_of_beq_eq_true hc.1
    simp only [List.all_cons, Bool.and_eq_true] at hp
    simp only [List.map_cons, Rows.uptoBulkAll] at hb
    have h0 := hx 0 f rfl
    simp only [List.getElem?_cons_zero] at h0
    rw [ho] at h0
    obtain ⟨a, a1, a2⟩ := hn f.type _ x hp.1 h0 (by omega)
    obtain ⟨b, b1, b2⟩ := fields_sh hn fs xs (o + P.cellsOf f.type) hc.2 hp.2 (by simpa using hl) (fun i g hg => hx (i + 1) g hg) (by omega)
    have hle := contig_le hc.2
    have hal : a.length = P.cellsOf f.type := by
      rw [← a1.length, List.length_take, List.length_drop]; omega
    refine ⟨a ++ b, ?_, a, b, rfl, hal, a2, b2⟩
    have := a1.append b1
    rwa [← List.drop_drop, List.take_append_drop] at this
/-- WHAT AN ARGUMENT OF SUCH A TYPE HOLDS. -/
theorem trod_sh : ∀ (n : Nat) (t : TypeId), pureT P n t = true → ∀ (m : Nat) (cs : List Value) (x : DataW H × List MemPlace), DataW.trod enc P W 0 (fun _ => true) true m t cs = some x → Rows.uptoBulk x.1 ≤ B → ∃ ps, PL W (Old W) cs ps ∧ Sh P B n t ps
  | 0, t, hp, m, cs, x, h, hb => by cases hp
  | n + 1, t, hp, m, cs, x, h, hb => by
    unfold pureT at hp
    split at hp
    · next ht =>
      obtain ⟨b, rfl, rfl⟩ := DataW.trod_bool ht h
      exact ⟨[.bool b], .cons (.bool b) .nil, by unfold Sh; rw [ht]; exact ⟨b, rfl⟩⟩
    · next k ht =>
      obtain ⟨i, rfl, rfl, hw⟩ := DataW.trod_int ht h
      exact ⟨[.int k i], .cons (.int k i) .nil, by unfold Sh; rw [ht]; exact ⟨i, rfl, hw⟩⟩
    · next ht =>
      obtain ⟨s, rfl, rfl, hs⟩ := DataW.trod_string ht h
      have hsz : s.size ≤ B := by
        have e1 : s.data.toList.length = s.size := Array.length_toList
        simp only [Rows.uptoBulk] at hb
        omega
      exact ⟨[.str s], .cons (.str s) .nil, by unfold Sh; rw [ht]; exact ⟨s, rfl, hsz⟩⟩
    · next e ht =>
      simp only [Bool.and_eq_true, Nat.blt_eq] at hp
      obtain ⟨hpe, hsz⟩ := hp
      rcases DataW.trod_slice ht h with ⟨rfl, rfl⟩ | ⟨a, len, cap, elems, rest, m', rfl, rfl, rfl, _, hlc, hmax, hlen, hel, hre, _⟩
      · exact ⟨[.sl []], .cons .nilsl .nil, by unfold Sh; rw [ht]; exact ⟨[], rfl, by simp, by simp⟩⟩
      · obtain ⟨hrl, hre⟩ := hre rfl
        simp only [Rows.uptoBulk] at hb
        rcases Nat.eq_zero_or_pos cap with hc0 | hcpos
        · have hl0 : len = 0 := by omega
          subst hl0 hc0
          exact ⟨[.sl []], .cons (.empsl a) .nil, by unfold Sh; rw [ht]; exact ⟨[], rfl, by simp, by simp⟩⟩
        · have hcell : ∃ v, W.cell? a = some v := by
            rcases Nat.eq_zero_or_pos len with hl0 | hlp
            · subst hl0
              have h0 := hre 0 (by omega)
              have hr0 := List.getElem?_eq_getElem (l := rest) (i := 0) (by omega)
              rw [hr0, Option.bind_eq_some_iff] at h0
              obtain ⟨c0, q1, _⟩ := h0
              obtain ⟨_, q2, q3⟩ := World.cells?_some q1
              have := q3 0 hsz
              simp only [Nat.add_zero, Nat.zero_mul] at this
              rw [Addr.add_zero', Addr.add_zero', List.getElem?_eq_getElem (by omega)] at this
              exact ⟨_, this⟩
            · have h0 := hel 0 hlp
              have hr0 := List.getElem?_eq_getElem (l := elems) (i := 0) (by omega)
              rw [hr0, Option.bind_eq_some_iff] at h0
              obtain ⟨c0, q1, _⟩ := h0
              obtain ⟨_, q2, q3⟩ := World.cells?_some q1
              have := q3 0 hsz
              simp only [Nat.zero_mul] at this
              rw [Addr.add_zero', Addr.add_zero', List.getElem?_eq_getElem (by omega)] at this
              exact ⟨_, this⟩
          obtain ⟨v0, hv0⟩ := hcell
          obtain ⟨hspot, hold⟩ := old_cell hv0
          obtain ⟨b, off, sp⟩ := a
          simp only at hspot hold
          subst hspot
          have hrow : ∀ i, i < len → ∃ ps : List PV, ∃ ci, W.cells? 0 (Addr.add ⟨b, off, none⟩ (i * P.cellsOf e)) (P.cellsOf e) = some ci ∧ PL W (Old W) ci ps ∧ Sh P B n e ps := by
            intro i hi
            have h0 := hel i hi
            have hr0 := List.getElem?_eq_getElem (l := elems) (i := i) (by omega)
            rw [hr0, Option.bind_eq_some_iff] at h0
            obtain ⟨ci, q1, q2⟩ := h0
            have hbi : Rows.uptoBulk (elems[i]'(by omega)).1 ≤ B := by
              have := bulk_mem (List.mem_map_of_mem (f := fun x : DataW H × List MemPlace => x.1) (List.getElem_mem (l := elems) (n := i) (by omega)))
              omega
            obtain ⟨ps, s1, s2⟩ := trod_sh n e hpe m' ci _ q2 hbi
            exact ⟨ps, ci, q1, s1, s2⟩
          obtain ⟨rows, r1, r2⟩ : ∃ rows : List (List PV), rows.length = len ∧ ∀ i r, rows[i]? = some r → ∃ ci, W.cells? 0 (Addr.add ⟨b, off, none⟩ (i * P.cellsOf e)) (P.cellsOf e) = some ci ∧ PL W (Old W) ci r ∧ Sh P B n e r := by
            refine ⟨(List.range len).map (fun i => if h : i < len then (hrow i h).choose else []), by simp, fun i r hr => ?_⟩
            rw [List.getElem?_map] at hr
            obtain ⟨j, hj, rfl⟩ := Option.map_eq_some_iff.1 hr
            obtain ⟨hlt, hj⟩ := List.getElem?_eq_some_iff.1 hj
            rw [List.getElem_range] at hj
            subst hj
            have hi : i < len := by simpa using hlt
            rw [dif_pos hi]
            exact (hrow i hi).choose_spec
          have hcl : ∀ (i : Nat) (r : List PV), rows[i]? = some r → r.length = P.cellsOf e := fun i r hr => by
            obtain ⟨ci, c1, c2, c3⟩ := r2 i r hr
            rw [← c2.length]
            exact (World.cells?_some c1).2.1
          refine ⟨[.sl rows], .cons ?_ .nil, by
            unfold Sh; rw [ht]
            refine ⟨rows, rfl, ?_, fun r hr => ?_⟩
            · have := bulk_len (elems.map (·.1))
              simp only [List.length_map] at this
              omega
            · obtain ⟨i, hi⟩ := List.mem_iff_getElem?.1 hr
              obtain ⟨ci, c1, c2, c3⟩ := r2 i r hi
              exact ⟨hcl i r hi, c3⟩⟩
          rw [← r1]
          have hcells : ∀ (i : Nat) (r : List PV), rows[i]? = some r → ∀ (k : Nat) (p : PV), r[k]? = some p → ∃ v, W.cell? ⟨b, off + i * P.cellsOf e + k, none⟩ = some v ∧ PRep W (Old W) v p := by
            intro i r hr k p hk
            obtain ⟨ci, c1, c2, c3⟩ := r2 i r hr
            obtain ⟨_, d1, d2⟩ := World.cells?_some c1
            have hkl : k < P.cellsOf e := by rw [← hcl i r hr]; exact (List.getElem?_eq_some_iff.1 hk).1
            have e1 := d2 k hkl
            rw [Addr.add_lit, Addr.add_lit] at e1
            have e2 : ci[k]? = some (ci[k]'(by omega)) := List.getElem?_eq_getElem (by omega)
            exact ⟨_, e1.trans e2, c2.get k _ p e2 hk⟩
          refine PRep.sl b off cap (P.cellsOf e) rows (fun i k => (W.cell? ⟨b, off + i * P.cellsOf e + k, none⟩).getD undef) hold hsz (fun r hr => ?_) (by omega) (fun i r hr k p hk => ?_) (fun i r hr k p hk => ?_)
          · obtain ⟨i, hi⟩ := List.mem_iff_getElem?.1 hr
            exact hcl i r hi
          · obtain ⟨v, v1, v2⟩ := hcells i r hr k p hk
            simp [v1]
          · obtain ⟨v, v1, v2⟩ := hcells i r hr k p hk
            simp [v1, v2]
    · next fs ht =>
      simp only [Bool.and_eq_true] at hp
      obtain ⟨xs, m', rfl, rfl, hl, hxl, hf⟩ := DataW.trod_struct ht h
      simp only [Rows.uptoBulk] at hb
      obtain ⟨ps, p1, p2⟩ := fields_sh (n := n) (m := m') (B := B) (fun t cs x a b c => trod_sh n t a m' cs x b c) fs.toList xs 0 (by rw [hl]; exact hp.1) hp.2 (by simpa using hxl) (fun i f hi => hf i f (by simpa using hi)) (by omega)
      exact ⟨ps, by simpa using p1, by unfold Sh; rw [ht]; exact p2⟩
    · cases hp
end
end Go.Abs
