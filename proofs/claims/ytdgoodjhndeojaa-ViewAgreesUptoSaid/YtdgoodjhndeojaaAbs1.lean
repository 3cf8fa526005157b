/-
  AN ABSTRACT PROGRAM LOGIC OVER THE KIT's 'Calls' AND 'Code.wp': the core. Values that never change ('PV'), values of a frame ('AV'), a small heap of what a call owns.
  What is proved here: how the relation between a world and an abstract state is kept. Conditions: none.
-/
import Derived.Test.YtdgoodjhndeojaaChecked
import Derived.WalkKit
import Derived.ProofKit
import Derived.Laws.AppendOwn
import Derived.Laws.CopyOwn
import Derived.Laws.MakeOwn
import Derived.RowKit3
set_option linter.unusedVariables false
set_option linter.unusedSimpArgs false
namespace Go.Abs

/-- Pure values: what they lead to is never written again. -/
inductive PV where
  | int (k : IntKind) (n : Int)
  | bool (b : Bool)
  | str (s : ByteArray)
  | sl (rows : List (List PV))
  | nilp
  | fn (f : FuncId)
  | nilfn
  | nils
  | nilm
  deriving Inhabited

inductive PRep (w : World) (I : Nat → Prop) : Value → PV → Prop
  | int (k : IntKind) (n : Int) : PRep w I (.int k n) (.int k n)
  | bool (b : Bool) : PRep w I (.bool b) (.bool b)
  | str (s : ByteArray) : PRep w I (.string s) (.str s)
  | nilp : PRep w I (.pointer none) .nilp
  | fn (f : FuncId) : PRep w I (.func (.func f) #[] #[]) (.fn f)
  | nilfn : PRep w I .nilFunc .nilfn
  | nilsl : PRep w I (.slice none 0 0) (.sl [])
  | nils : PRep w I (.slice none 0 0) .nils
  | nilm : PRep w I (.map none) .nilm
  | empsl (a : Addr) : PRep w I (.slice (some a) 0 0) (.sl [])
  | sl (b off cap sz : Nat) (rows : List (List PV)) (cs : Nat → Nat → Value) (hI : I b) (hsz : 0 < sz) (hlen : ∀ r ∈ rows, r.length = sz) (hcap : rows.length ≤ cap)
      (hc : ∀ (i : Nat) (r : List PV), rows[i]? = some r → ∀ (k : Nat) (p : PV), r[k]? = some p → w.cell? ⟨b, off + i * sz + k, none⟩ = some (cs i k))
      (hp : ∀ (i : Nat) (r : List PV), rows[i]? = some r → ∀ (k : Nat) (p : PV), r[k]? = some p → PRep w I (cs i k) p) :
      PRep w I (.slice (some ⟨b, off, none⟩) rows.length cap) (.sl rows)

theorem cell?_of_heap {w w' : World} {b o : Nat} (h : w'.heap[b]? = w.heap[b]?) : w'.cell? ⟨b, o, none⟩ = w.cell? ⟨b, o, none⟩ := by simp [World.cell?, h]

theorem PRep.mono {w w' : World} {I I' : Nat → Prop} (hw : ∀ b, I b → w'.heap[b]? = w.heap[b]?) (hI : ∀ b, I b → I' b) {v : Value} {p : PV} (h : PRep w I v p) : PRep w' I' v p := by
  induction h with
  | int k n => exact .int k n
  | bool b => exact .bool b
  | str s => exact .str s
  | nilp => exact .nilp
  | fn f => exact .fn f
  | nilfn => exact .nilfn
  | nilsl => exact .nilsl
  | nils => exact .nils
  | nilm => exact .nilm
  | empsl a => exact .empsl a
  | sl b off cap sz rows cs hb hsz hlen hcap hc hp ih =>
    exact .sl b off cap sz rows cs (hI b hb) hsz hlen hcap (fun i r hr k p hk => (cell?_of_heap (hw b hb)).trans (hc i r hr k p hk)) ih

theorem PRep.oneCell {w : World} {I : Nat → Prop} {v : Value} {p : PV} (h : PRep w I v p) : v.oneCell' = true := by cases h <;> rfl

/-- Values of a frame or of an owned object. -/
inductive AV where
  | any
  | pv (p : PV)
  | ref (id g i k : Nat)
  | pad (rows : List (List PV)) (i k : Nat)
  | osl (id g off len : Nat)
  | clo (f : FuncId) (caps : List AV)
  | agg (cs : List AV)
  | tup (vs : List AV)
  | mp (id g : Nat)
  | it (id g : Nat)
  deriving Inhabited

/-- An owned object: its generation, the cells of a row, the type of a row, the rows. -/
structure Ob where
  g : Nat
  sz : Nat
  ty : TypeId
  rows : List (List AV)

abbrev Heap := List (Nat × Ob)
abbrev Env := List (Nat × AV)

def Heap.get : Heap → Nat → Option Ob
  | [], _ => none
  | (i, o) :: r, id => cond (Nat.beq i id) (some o) (Heap.get r id)
def Heap.set : Heap → Nat → Ob → Heap
  | [], id, o => [(id, o)]
  | (i, o') :: r, id, o => cond (Nat.beq i id) ((i, o) :: r) ((i, o') :: Heap.set r id o)
def Env.get : Env → Nat → Option AV
  | [], _ => none
  | (i, v) :: r, t => cond (Nat.beq i t) (some v) (Env.get r t)

theorem beq_self (i : Nat) : Nat.beq i i = true := Nat.beq_refl i
theorem beq_ne {i j : Nat} (h : i ≠ j) : Nat.beq i j = false := by
  cases e : Nat.beq i j with
  | false => rfl
  | true => exact absurd (Nat.eq_of_beq_eq_true e) h
theorem Heap.get_set_same (H : Heap) (id : Nat) (o : Ob) : (H.set id o).get id = some o := by
  induction H with
  | nil => simp [Heap.set, Heap.get, beq_self]
  | cons x r ih =>
    obtain ⟨i, o'⟩ := x
    cases e : Nat.beq i id with
    | true => simp [Heap.set, Heap.get, e]
    | false => simp [Heap.set, Heap.get, e, ih]
theorem Heap.get_set_other (H : Heap) {id j : Nat} (o : Ob) (h : j ≠ id) : (H.set id o).get j = H.get j := by
  induction H with
  | nil => simp [Heap.set, Heap.get, beq_ne (Ne.symm h)]
  | cons x r ih =>
    obtain ⟨i, o'⟩ := x
    cases e : Nat.beq i id with
    | true =>
      have : i = id := Nat.eq_of_beq_eq_true e
      subst this
      simp [Heap.set, Heap.get, beq_ne (Ne.symm h), e]
    | false => simp [Heap.set, Heap.get, e, ih]
theorem Env.get_cons_same (E : Env) (t : Nat) (v : AV) : Env.get ((t, v) :: E) t = some v := by simp [Env.get, beq_self]
theorem Env.get_cons_other (E : Env) {t u : Nat} (v : AV) (h : t ≠ u) : Env.get ((t, v) :: E) u = E.get u := by simp [Env.get, beq_ne h]

abbrev Plc := Nat → Option (Nat × Nat)

inductive VRel (w : World) (I : Nat → Prop) (ι : Plc) (H : Heap) : Value → AV → Prop
  | any (v : Value) : VRel w I ι H v .any
  | pv {v : Value} {p : PV} (h : PRep w I v p) : VRel w I ι H v (.pv p)
  | ref {v : Value} {id g i k : Nat} (o : Ob) (hH : H.get id = some o) (hg : g ≤ o.g) (h1 : v.oneCell' = true)
      (h : o.g = g → 0 < o.sz ∧ ∃ b cap, ι id = some (b, cap) ∧ v = .pointer (some ⟨b, i * o.sz + k, none⟩)) : VRel w I ι H v (.ref id g i k)
  | pad {rows : List (List PV)} {i k : Nat} (b off cap sz : Nat) (h : PRep w I (.slice (some ⟨b, off, none⟩) rows.length cap) (.sl rows)) (hsz : 0 < sz) (hlen : ∀ r ∈ rows, r.length = sz)
      (cs : Nat → Nat → Value) (hI : I b)
      (hc : ∀ (i : Nat) (r : List PV), rows[i]? = some r → ∀ (k : Nat) (p : PV), r[k]? = some p → w.cell? ⟨b, off + i * sz + k, none⟩ = some (cs i k))
      (hp : ∀ (i : Nat) (r : List PV), rows[i]? = some r → ∀ (k : Nat) (p : PV), r[k]? = some p → PRep w I (cs i k) p) :
      VRel w I ι H (.pointer (some ⟨b, off + i * sz + k, none⟩)) (.pad rows i k)
  | osl {v : Value} {id g off len : Nat} (o : Ob) (hH : H.get id = some o) (hg : g ≤ o.g) (h1 : v.oneCell' = true)
      (h : o.g = g → 0 < o.sz ∧ off + len ≤ o.rows.length ∧
        ((∃ b cap oo, ι id = some (b, cap) ∧ v = .slice (some ⟨b, oo, none⟩) len (cap - off) ∧ (off < cap ∨ off = 0 → oo = off * o.sz)) ∨ (ι id = none ∧ v = .slice none 0 0 ∧ off = 0 ∧ len = 0))) :
      VRel w I ι H v (.osl id g off len)
  | clo {f : FuncId} {vs : Array Value} {caps : List AV} (hl : vs.size = caps.length) (h : ∀ (i : Nat) (v : Value) (a : AV), vs[i]? = some v → caps[i]? = some a → VRel w I ι H v a) :
      VRel w I ι H (.func (.func f) #[] vs) (.clo f caps)
  | agg {vs : Array Value} {cs : List AV} (hl : vs.size = cs.length) (h1 : ∀ (i : Nat) (v : Value), vs[i]? = some v → v.oneCell' = true) (h : ∀ (i : Nat) (v : Value) (a : AV), vs[i]? = some v → cs[i]? = some a → VRel w I ι H v a) :
      VRel w I ι H (.agg vs) (.agg cs)
  | tup {vs : Array Value} {cs : List AV} (hl : vs.size = cs.length) (h : ∀ (i : Nat) (v : Value) (a : AV), vs[i]? = some v → cs[i]? = some a → VRel w I ι H v a) :
      VRel w I ι H (.tuple vs) (.tup cs)
  | mp {v : Value} {id g : Nat} (o : Ob) (hH : H.get id = some o) (hg : g ≤ o.g) (h1 : v.oneCell' = true) (h : o.g = g → o.sz = 0 ∧ ∃ b, ι id = some (b, 0) ∧ v = .map (some b)) : VRel w I ι H v (.mp id g)
  | it {v : Value} {id g : Nat} (o : Ob) (hH : H.get id = some o) (hg : g ≤ o.g) (h1 : v.oneCell' = true) (h : o.g = g → o.sz = 0 ∧ ∃ b, ι id = some (b, 1) ∧ v = .pointer (some ⟨b, 0, none⟩)) : VRel w I ι H v (.it id g)

def Own (ι : Plc) (H : Heap) (b : Nat) : Prop := ∃ id o cap, H.get id = some o ∧ ι id = some (b, cap)

/-- An object of cells. -/
def CellObj (w : World) (I : Nat → Prop) (ι : Plc) (H : Heap) (id : Nat) (o : Ob) : Prop :=
  0 < o.sz ∧ (∀ r ∈ o.rows, r.length = o.sz) ∧
  ((∃ b cap cs, ι id = some (b, cap) ∧ w.heap[b]? = some (.cells cs o.ty (0, 0)) ∧ ¬ I b ∧ cs.size = cap * o.sz ∧ o.rows.length ≤ cap ∧ cap ≤ maxLen ∧
      ∀ (i : Nat) (r : List AV), o.rows[i]? = some r → ∀ (k : Nat) (a : AV), r[k]? = some a → ∃ v, cs[i * o.sz + k]? = some v ∧ v.oneCell' = true ∧ VRel w I ι H v a) ∨
   (ι id = none ∧ o.rows = []))
/-- A map: its rows are its entries, in the order in which their keys came: a key, a value and a stamp each; its 'ty' is the clock. -/
def MapObj (w : World) (I : Nat → Prop) (ι : Plc) (H : Heap) (id : Nat) (o : Ob) : Prop :=
  o.sz = 0 ∧ ∃ b es, ι id = some (b, 0) ∧ w.heap[b]? = some (.map es o.ty) ∧ ¬ I b ∧ es.size = o.rows.length ∧
    (∀ (i : Nat) (e : MapEntry), es[i]? = some e → e.born < o.ty) ∧ (∀ (i j : Nat) (e e' : MapEntry), i < j → es[i]? = some e → es[j]? = some e' → e.born < e'.born) ∧
    ∀ (i : Nat) (r : List AV), o.rows[i]? = some r → ∃ e k a n, es[i]? = some e ∧ r = [k, a, n] ∧ VRel w I ι H e.key k ∧ VRel w I ι H e.val a ∧ VRel w I ι H (.int .i64 e.born) n
/-- A map's iterator: the map, the clock at its beginning and at its last step; the stamps that have come. -/
def IterObj (w : World) (I : Nat → Prop) (ι : Plc) (H : Heap) (id : Nat) (o : Ob) : Prop :=
  o.sz = 0 ∧ ∃ b bm since seen last, ι id = some (b, 1) ∧ w.heap[b]? = some (.mapIter (some bm) since seen last) ∧ ¬ I b ∧ o.rows.length = seen.size + 1 ∧
    (∃ m n k, o.rows[0]? = some [m, n, k] ∧ VRel w I ι H (.map (some bm)) m ∧ VRel w I ι H (.int .i64 since) n ∧ VRel w I ι H (.int .i64 last) k) ∧
    ∀ (i : Nat) (r : List AV), o.rows[i + 1]? = some r → ∃ x n, seen[i]? = some x ∧ r = [n] ∧ VRel w I ι H (.int .i64 x) n
def ObjRel (w : World) (I : Nat → Prop) (ι : Plc) (H : Heap) (id : Nat) (o : Ob) : Prop := CellObj w I ι H id o ∨ MapObj w I ι H id o ∨ IterObj w I ι H id o

theorem ObjRel.cells {w : World} {I : Nat → Prop} {ι : Plc} {H : Heap} {id : Nat} {o : Ob} (h : ObjRel w I ι H id o) (hz : 0 < o.sz) : CellObj w I ι H id o := by
  rcases h with h | h | h
  · exact h
  · have := h.1; omega
  · have := h.1; omega
theorem ObjRel.map {w : World} {I : Nat → Prop} {ι : Plc} {H : Heap} {id : Nat} {o : Ob} (h : ObjRel w I ι H id o) (hz : o.sz = 0) {b : Nat} (hι : ι id = some (b, 0)) : MapObj w I ι H id o := by
  rcases h with h | h | ⟨_, b', _, _, _, _, e1, _⟩
  · have := h.1; omega
  · exact h
  · rw [hι] at e1; cases e1
theorem ObjRel.iter {w : World} {I : Nat → Prop} {ι : Plc} {H : Heap} {id : Nat} {o : Ob} (h : ObjRel w I ι H id o) (hz : o.sz = 0) {b : Nat} (hι : ι id = some (b, 1)) : IterObj w I ι H id o := by
  rcases h with h | ⟨_, b', _, e1, _⟩ | h
  · have := h.1; omega
  · rw [hι] at e1; cases e1
  · exact h
theorem ObjRel.block {w : World} {I : Nat → Prop} {ι : Plc} {H : Heap} {id b cap : Nat} {o : Ob} (h : ObjRel w I ι H id o) (hi : ι id = some (b, cap)) : b < w.heap.size ∧ ¬ I b := by
  rcases h with ⟨_, _, ⟨b', cap', cs, e1, e2, e3, _⟩ | h1⟩ | ⟨_, b', es, e1, e2, e3, _⟩ | ⟨_, b', bm, since, seen, last, e1, e2, e3, _⟩
  · rw [hi] at e1; cases e1
    exact ⟨(Array.getElem?_eq_some_iff.1 e2).1, e3⟩
  · rw [hi] at h1; cases h1.1
  · rw [hi] at e1; cases e1
    exact ⟨(Array.getElem?_eq_some_iff.1 e2).1, e3⟩
  · rw [hi] at e1; cases e1
    exact ⟨(Array.getElem?_eq_some_iff.1 e2).1, e3⟩
theorem ObjRel.pos {w : World} {I : Nat → Prop} {ι : Plc} {H : Heap} {id b cap : Nat} {o : Ob} {cs : Array Value} {t : TypeId} {f : Nat × Nat} (h : ObjRel w I ι H id o) (hi : ι id = some (b, cap)) (hb : w.heap[b]? = some (.cells cs t f)) : 0 < o.sz := by
  rcases h with h | ⟨_, b', es, e1, e2, _⟩ | ⟨_, b', bm, since, seen, last, e1, e2, _⟩
  · exact h.1
  · rw [hi] at e1; cases e1
    rw [hb] at e2; cases e2
  · rw [hi] at e1; cases e1
    rw [hb] at e2; cases e2
/-- An object whose block stands, seen from another state. -/
theorem ObjRel.keepG {w w' : World} {I I' : Nat → Prop} {ι ι' : Plc} {H H' : Heap} {id id' : Nat} {o o' : Ob} (h : ObjRel w I ι H id o) (hsz : o'.sz = o.sz) (hty : o'.ty = o.ty) (hlen : o'.rows.length = o.rows.length)
    (hι : ι' id' = ι id) (hw : ∀ b cap, ι id = some (b, cap) → b < w.heap.size → w'.heap[b]? = w.heap[b]? ∧ (¬ I b → ¬ I' b))
    (hv : ∀ (i : Nat) (r' : List AV), o'.rows[i]? = some r' → ∃ r, o.rows[i]? = some r ∧ r.length = r'.length ∧ ∀ (k : Nat) (a a' : AV), r[k]? = some a → r'[k]? = some a' → ∀ v, VRel w I ι H v a → VRel w' I' ι' H' v a') : ObjRel w' I' ι' H' id' o' := by
  rcases h with ⟨p1, p2, ⟨b, cap, cs, e1, e2, e3, e4, e5, e5', e6⟩ | ⟨e1, e2⟩⟩ | ⟨p1, b, es, e1, e2, e3, e4, e5, e6, e7⟩ | ⟨p1, b, bm, since, seen, last, e1, e2, e3, e4, ⟨m, n, q, z1, z2, z3, z4⟩, e6⟩
  · obtain ⟨k1, k2⟩ := hw b cap e1 (Array.getElem?_eq_some_iff.1 e2).1
    refine .inl ⟨by omega, fun r' hr' => ?_, .inl ⟨b, cap, cs, hι.trans e1, by rw [hty]; exact k1.trans e2, k2 e3, by rw [hsz]; exact e4, by omega, e5', fun i r' hi k a' hk => ?_⟩⟩
    · obtain ⟨i, hi⟩ := List.mem_iff_getElem?.1 hr'
      obtain ⟨r, q1, q2, q3⟩ := hv i r' hi
      rw [← q2, hsz]
      exact p2 r (List.mem_of_getElem? q1)
    · obtain ⟨r, q1, q2, q3⟩ := hv i r' hi
      have hkl : k < r.length := by rw [q2]; exact (List.getElem?_eq_some_iff.1 hk).1
      obtain ⟨v, z1, z2, z3⟩ := e6 i r q1 k _ (List.getElem?_eq_getElem hkl)
      exact ⟨v, by rw [hsz]; exact z1, z2, q3 k _ a' (List.getElem?_eq_getElem hkl) hk v z3⟩
  · have h0 : o'.rows = [] := List.eq_nil_of_length_eq_zero (by rw [hlen, e2]; rfl)
    exact .inl ⟨by omega, by rw [h0]; simp, .inr ⟨hι.trans e1, h0⟩⟩
  · obtain ⟨k1, k2⟩ := hw b 0 e1 (Array.getElem?_eq_some_iff.1 e2).1
    refine .inr (.inl ⟨by omega, b, es, hι.trans e1, by rw [hty]; exact k1.trans e2, k2 e3, by omega, by rw [hty]; exact e5, e6, fun i r' hi => ?_⟩)
    obtain ⟨r, q1, q2, q3⟩ := hv i r' hi
    obtain ⟨e, k, a, n, z1, z2, z3, z4, z5⟩ := e7 i r q1
    subst z2
    match r', q2 with
    | [k', a', n'], _ => exact ⟨e, k', a', n', z1, rfl, q3 0 k k' rfl rfl _ z3, q3 1 a a' rfl rfl _ z4, q3 2 n n' rfl rfl _ z5⟩
  · obtain ⟨k1, k2⟩ := hw b 1 e1 (Array.getElem?_eq_some_iff.1 e2).1
    refine .inr (.inr ⟨by omega, b, bm, since, seen, last, hι.trans e1, k1.trans e2, k2 e3, by omega, ?_, fun i r' hi => ?_⟩)
    · have hlt : 0 < o'.rows.length := by omega
      obtain ⟨r, q1, q2, q3⟩ := hv 0 _ (List.getElem?_eq_getElem hlt)
      rw [z1] at q1
      obtain rfl := Option.some.inj q1
      have h0 := List.getElem?_eq_getElem hlt
      generalize o'.rows[0] = r' at q2 q3 h0
      match r', q2 with
      | [m', n', q'], _ => exact ⟨m', n', q', h0, q3 0 m m' rfl rfl _ z2, q3 1 n n' rfl rfl _ z3, q3 2 q q' rfl rfl _ z4⟩
    · obtain ⟨r, q1, q2, q3⟩ := hv (i + 1) r' hi
      obtain ⟨x, n, y1, y2, y3⟩ := e6 i r q1
      subst y2
      match r', q2 with
      | [n'], _ => exact ⟨x, n', y1, rfl, q3 0 n n' rfl rfl _ y3⟩
theorem ObjRel.keep {w w' : World} {I I' : Nat → Prop} {ι ι' : Plc} {H H' : Heap} {id : Nat} {o : Ob} (h : ObjRel w I ι H id o)
    (hι : ι' id = ι id) (hw : ∀ b cap, ι id = some (b, cap) → b < w.heap.size → w'.heap[b]? = w.heap[b]? ∧ (¬ I b → ¬ I' b))
    (hv : ∀ r ∈ o.rows, ∀ a ∈ r, ∀ v, VRel w I ι H v a → VRel w' I' ι' H' v a) : ObjRel w' I' ι' H' id o :=
  h.keepG rfl rfl rfl hι hw fun i r hi => ⟨r, hi, rfl, fun k a a' h1 h2 v hvv => by
    rw [h1] at h2; cases h2
    exact hv r (List.mem_of_getElem? hi) a (List.mem_of_getElem? h1) v hvv⟩

structure Rel (I : Nat → Prop) (ι : Plc) (H : Heap) (w : World) : Prop where
  imm : ∀ b, I b → b < w.heap.size
  obj : ∀ id o, H.get id = some o → ObjRel w I ι H id o
  inj : ∀ id id' o o' b c c', H.get id = some o → H.get id' = some o' → ι id = some (b, c) → ι id' = some (b, c') → id = id'

structure Step (I : Nat → Prop) (ι : Plc) (H : Heap) (w : World) (I' : Nat → Prop) (ι' : Plc) (H' : Heap) (w' : World) : Prop where
  os : w'.os = w.os
  tape : w'.tape = w.tape
  output : w'.output = w.output
  size : w.heap.size ≤ w'.heap.size
  froz : ∀ a, a.block < w.heap.size → w'.frozen? a = w.frozen? a
  imm : ∀ b, I b → I' b
  immNew : ∀ b, I' b → I b ∨ Own ι H b ∨ w.heap.size ≤ b
  own : ∀ b, Own ι' H' b → Own ι H b ∨ w.heap.size ≤ b
  keep : ∀ b, b < w.heap.size → ¬ Own ι H b → w'.heap[b]? = w.heap[b]?
  objs : ∀ id o, H.get id = some o → ∃ o', H'.get id = some o' ∧ o.g ≤ o'.g ∧ (o'.g = o.g → ι' id = ι id ∧ o'.sz = o.sz ∧ (0 < o.sz → o.rows.length ≤ o'.rows.length))

theorem Rel.lt {I : Nat → Prop} {ι : Plc} {H : Heap} {w : World} (h : Rel I ι H w) {b : Nat} (hb : Own ι H b) : b < w.heap.size :=
  let ⟨id, o, _, ho, hi⟩ := hb; ((h.obj id o ho).block hi).1
theorem Rel.notImm {I : Nat → Prop} {ι : Plc} {H : Heap} {w : World} (h : Rel I ι H w) {b : Nat} (hb : Own ι H b) : ¬ I b :=
  let ⟨id, o, _, ho, hi⟩ := hb; ((h.obj id o ho).block hi).2

theorem Step.refl (I : Nat → Prop) (ι : Plc) (H : Heap) (w : World) : Step I ι H w I ι H w :=
  ⟨rfl, rfl, rfl, Nat.le_refl _, fun _ _ => rfl, fun _ h => h, fun _ h => .inl h, fun _ h => .inl h, fun _ _ _ => rfl, fun _ o h => ⟨o, h, Nat.le_refl _, fun _ => ⟨rfl, rfl, fun _ => Nat.le_refl _⟩⟩⟩

theorem Step.trans {I I' I'' : Nat → Prop} {ι ι' ι'' : Plc} {H H' H'' : Heap} {w w' w'' : World} (h : Step I ι H w I' ι' H' w') (h' : Step I' ι' H' w' I'' ι'' H'' w'') :
    Step I ι H w I'' ι'' H'' w'' where
  os := h'.os.trans h.os
  tape := h'.tape.trans h.tape
  output := h'.output.trans h.output
  size := Nat.le_trans h.size h'.size
  froz := fun a ha => (h'.froz a (Nat.lt_of_lt_of_le ha h.size)).trans (h.froz a ha)
  imm := fun b hb => h'.imm b (h.imm b hb)
  immNew := fun b hb => by
    rcases h'.immNew b hb with h1 | h1 | h1
    · exact h.immNew b h1
    · exact .inr (h.own b h1)
    · exact .inr (.inr (Nat.le_trans h.size h1))
  own := fun b hb => by
    rcases h'.own b hb with h1 | h1
    · exact h.own b h1
    · exact .inr (Nat.le_trans h.size h1)
  keep := fun b hb hn => by
    have hn' : ¬ Own ι' H' b := fun ho => by
      rcases h.own b ho with h1 | h1
      · exact hn h1
      · omega
    exact (h'.keep b (Nat.lt_of_lt_of_le hb h.size) hn').trans (h.keep b hb hn)
  objs := fun id o ho => by
    obtain ⟨o1, e1, l1, k1⟩ := h.objs id o ho
    obtain ⟨o2, e2, l2, k2⟩ := h'.objs id o1 e1
    refine ⟨o2, e2, Nat.le_trans l1 l2, fun e => ?_⟩
    have g1 : o1.g = o.g := by omega
    obtain ⟨a1, a2, a3⟩ := k1 g1
    obtain ⟨b1, b2, b3⟩ := k2 (by omega)
    exact ⟨b1.trans a1, b2.trans a2, fun hz => Nat.le_trans (a3 hz) (b3 (by omega))⟩

theorem VRel.mono' {w w' : World} {I I' : Nat → Prop} {ι ι' : Plc} {H H' : Heap} (hw : ∀ b, I b → w'.heap[b]? = w.heap[b]?) (hI : ∀ b, I b → I' b)
    (hH : ∀ id o, H.get id = some o → ∃ o', H'.get id = some o' ∧ o.g ≤ o'.g ∧ (o'.g = o.g → ι' id = ι id ∧ o'.sz = o.sz ∧ (0 < o.sz → o.rows.length ≤ o'.rows.length)))
    {v : Value} {a : AV} (h : VRel w I ι H v a) : VRel w' I' ι' H' v a := by
  induction h with
  | any v => exact .any v
  | pv h => exact .pv (h.mono hw hI)
  | ref o hO hg hone h =>
    obtain ⟨o', e, l, k⟩ := hH _ o hO
    refine .ref o' e (Nat.le_trans hg l) hone fun hgo => ?_
    obtain ⟨k1, k2, k3⟩ := k (by omega)
    obtain ⟨hz, b, cap, h2, h3⟩ := h (by omega)
    exact ⟨by omega, b, cap, k1.trans h2, by rw [k2]; exact h3⟩
  | pad b off cap sz h hsz hlen cs hb hc hp =>
    exact .pad b off cap sz (h.mono hw hI) hsz hlen cs (hI b hb) (fun i r hr k p hk => (cell?_of_heap (hw b hb)).trans (hc i r hr k p hk)) (fun i r hr k p hk => (hp i r hr k p hk).mono hw hI)
  | osl o hO hg hone h =>
    obtain ⟨o', e, l, k⟩ := hH _ o hO
    refine .osl o' e (Nat.le_trans hg l) hone fun hgo => ?_
    obtain ⟨k1, k2, k3⟩ := k (by omega)
    obtain ⟨hz, h2, h3⟩ := h (by omega)
    refine ⟨by omega, Nat.le_trans h2 (k3 hz), ?_⟩
    rw [k1, k2]
    exact h3
  | clo hl h ih => exact .clo hl fun i v a hv ha => ih i v a hv ha
  | agg hl h1 h ih => exact .agg hl h1 fun i v a hv ha => ih i v a hv ha
  | tup hl h ih => exact .tup hl fun i v a hv ha => ih i v a hv ha
  | mp o hO hg hone h =>
    obtain ⟨o', e, l, k⟩ := hH _ o hO
    refine .mp o' e (Nat.le_trans hg l) hone fun hgo => ?_
    obtain ⟨k1, k2, k3⟩ := k (by omega)
    obtain ⟨hz, b, h2, h3⟩ := h (by omega)
    exact ⟨by omega, b, k1.trans h2, h3⟩
  | it o hO hg hone h =>
    obtain ⟨o', e, l, k⟩ := hH _ o hO
    refine .it o' e (Nat.le_trans hg l) hone fun hgo => ?_
    obtain ⟨k1, k2, k3⟩ := k (by omega)
    obtain ⟨hz, b, h2, h3⟩ := h (by omega)
    exact ⟨by omega, b, k1.trans h2, h3⟩

section inv
variable {w : World} {I : Nat → Prop} {ι : Plc} {H : Heap} {v : Value}
theorem VRel.pv_inv {p : PV} (h : VRel w I ι H v (.pv p)) : PRep w I v p := by cases h with | pv h => exact h
theorem VRel.bool_inv {b : Bool} (h : VRel w I ι H v (.pv (.bool b))) : v = .bool b := by cases h with | pv h => cases h; rfl
theorem VRel.int_inv {k : IntKind} {n : Int} (h : VRel w I ι H v (.pv (.int k n))) : v = .int k n := by cases h with | pv h => cases h; rfl
theorem VRel.str_inv {s : ByteArray} (h : VRel w I ι H v (.pv (.str s))) : v = .string s := by cases h with | pv h => cases h; rfl
theorem VRel.nilp_inv (h : VRel w I ι H v (.pv .nilp)) : v = .pointer none := by cases h with | pv h => cases h; rfl
theorem VRel.fn_inv {f : FuncId} (h : VRel w I ι H v (.pv (.fn f))) : v = .func (.func f) #[] #[] := by cases h with | pv h => cases h; rfl
end inv

theorem Step.imms {I I' : Nat → Prop} {ι ι' : Plc} {H H' : Heap} {w w' : World} (h : Step I ι H w I' ι' H' w') (hr : Rel I ι H w) : ∀ b, I b → w'.heap[b]? = w.heap[b]? :=
  fun b hb => h.keep b (hr.imm b hb) (fun ho => hr.notImm ho hb)
theorem VRel.mono {w w' : World} {I I' : Nat → Prop} {ι ι' : Plc} {H H' : Heap} (hr : Rel I ι H w) (hs : Step I ι H w I' ι' H' w')
    {v : Value} {a : AV} (h : VRel w I ι H v a) : VRel w' I' ι' H' v a := h.mono' (hs.imms hr) hs.imm hs.objs

end Go.Abs
