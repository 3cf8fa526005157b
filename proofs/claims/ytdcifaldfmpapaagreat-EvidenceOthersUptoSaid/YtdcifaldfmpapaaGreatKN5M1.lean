/-
  AN ABSTRACT PROGRAM LOGIC OVER THE KIT's 'Calls' AND 'Code.wp': the core. Values that never change ('PV'), values of a frame ('AV'), a small heap of what a call owns.
  What is proved here: how the relation between a world and an abstract state is kept. Conditions: none.
  THE ABSTRACT LOGIC, ITS JUDGEMENTS AND THE RULES OF CONTROL: 'AWp' (a statement), 'AL' (the operations of a region), 'OpD' and 'OpR' (one operation), 'ACalls' (a call).
  Conditions: none.
  THE ABSTRACT LOGIC: operations that leave the heap as it is: moves, numbers, strings, tests, addresses, loads.
  Conditions: each rule's own premises.
  THE ABSTRACT LOGIC: memory: loads, stores, new variables, addresses.
  Conditions: each rule's own premises.
  THE ABSTRACT LOGIC: memory that is written: new variables, stores, slices that grow.
  Conditions: each rule's own premises.
  THE ABSTRACT LOGIC: what may be forgotten of a state; slices that are handed on for reading; returns; calls.
  Conditions: each rule's own premises.
  THE ABSTRACT LOGIC: literals of structs, arrays and slices; parts of a value; slices that grow; copies; bytes as a string.
  Conditions: each rule's own premises.
-/
import Derived.Test.YtdcifaldfmpapaaGreatChecked
import Derived.WalkKit
import Derived.ProofKit
import Derived.Laws.AppendOwn
import Derived.Laws.CopyOwn
import Derived.Laws.MakeOwn
import Derived.RowKit3
import Derived.Deep.LoopGhost
import Derived.Orders
section
set_option linter.unusedVariables false
set_option linter.unusedSimpArgs false
namespace Go.Abs

/-- Pure values: what they lead to is never written again. -/
inductive PV where
  | int (k : IntKind) (n : Int)
  | bool (b : Bool)
  | str (s : ByteArray)
  | sl (rows : List (List PV))
  | nilp
  | fn (f : FuncId)
  | nilfn
  | nils
  | nilm
  | slf (rows : List (List PV))
  deriving Inhabited

inductive PRep (w : World) (I : Nat → Prop) : Value → PV → Prop
  | int (k : IntKind) (n : Int) : PRep w I (.int k n) (.int k n)
  | bool (b : Bool) : PRep w I (.bool b) (.bool b)
  | str (s : ByteArray) : PRep w I (.string s) (.str s)
  | nilp : PRep w I (.pointer none) .nilp
  | fn (f : FuncId) : PRep w I (.func (.func f) #[] #[]) (.fn f)
  | nilfn : PRep w I .nilFunc .nilfn
  | nilsl : PRep w I (.slice none 0 0) (.sl [])
  | nils : PRep w I (.slice none 0 0) .nils
  | nilm : PRep w I (.map none) .nilm
  | slf (a : Addr) (n : Nat) (rows : List (List PV)) (h : PRep w I (.slice (some a) n n) (.sl rows)) : PRep w I (.slice (some a) n n) (.slf rows)
  | empsl (a : Addr) : PRep w I (.slice (some a) 0 0) (.sl [])
  | sl (b off cap sz : Nat) (rows : List (List PV)) (cs : Nat → Nat → Value) (hI : I b) (hsz : 0 < sz) (hlen : ∀ r ∈ rows, r.length = sz) (hcap : rows.length ≤ cap)
      (hc : ∀ (i : Nat) (r : List PV), rows[i]? = some r → ∀ (k : Nat) (p : PV), r[k]? = some p → w.cell? ⟨b, off + i * sz + k, none⟩ = some (cs i k))
      (hp : ∀ (i : Nat) (r : List PV), rows[i]? = some r → ∀ (k : Nat) (p : PV), r[k]? = some p → PRep w I (cs i k) p) :
      PRep w I (.slice (some ⟨b, off, none⟩) rows.length cap) (.sl rows)

theorem cell?_of_heap {w w' : World} {b o : Nat} (h : w'.heap[b]? = w.heap[b]?) : w'.cell? ⟨b, o, none⟩ = w.cell? ⟨b, o, none⟩ := by simp [World.cell?, h]

theorem PRep.mono {w w' : World} {I I' : Nat → Prop} (hw : ∀ b, I b → w'.heap[b]? = w.heap[b]?) (hI : ∀ b, I b → I' b) {v : Value} {p : PV} (h : PRep w I v p) : PRep w' I' v p := by
  induction h with
  | int k n => exact .int k n
  | bool b => exact .bool b
  | str s => exact .str s
  | nilp => exact .nilp
  | fn f => exact .fn f
  | nilfn => exact .nilfn
  | nilsl => exact .nilsl
  | nils => exact .nils
  | nilm => exact .nilm
  | slf a n rows h ih => exact .slf a n rows ih
  | empsl a => exact .empsl a
  | sl b off cap sz rows cs hb hsz hlen hcap hc hp ih =>
    exact .sl b off cap sz rows cs (hI b hb) hsz hlen hcap (fun i r hr k p hk => (cell?_of_heap (hw b hb)).trans (hc i r hr k p hk)) ih

theorem PRep.oneCell {w : World} {I : Nat → Prop} {v : Value} {p : PV} (h : PRep w I v p) : v.oneCell' = true := by cases h <;> rfl

/-- Values of a frame or of an owned object. -/
inductive AV where
  | any
  | pv (p : PV)
  | ref (id g i k : Nat)
  | pad (rows : List (List PV)) (i k : Nat)
  | osl (id g off len : Nat)
  | clo (f : FuncId) (caps : List AV)
  | agg (cs : List AV)
  | tup (vs : List AV)
  | mp (id g : Nat)
  | it (id g : Nat)
  | osc (id g off len c : Nat)
  deriving Inhabited

/-- An owned object: its generation, the cells of a row, the type of a row, the rows. -/
structure Ob where
  g : Nat
  sz : Nat
  ty : TypeId
  rows : List (List AV)

abbrev Heap := List (Nat × Ob)
abbrev Env := List (Nat × AV)

def Heap.get : Heap → Nat → Option Ob
  | [], _ => none
  | (i, o) :: r, id => cond (Nat.beq i id) (some o) (Heap.get r id)
def Heap.set : Heap → Nat → Ob → Heap
  | [], id, o => [(id, o)]
  | (i, o') :: r, id, o => cond (Nat.beq i id) ((i, o) :: r) ((i, o') :: Heap.set r id o)
def Env.get : Env → Nat → Option AV
  | [], _ => none
  | (i, v) :: r, t => cond (Nat.beq i t) (some v) (Env.get r t)

theorem beq_self (i : Nat) : Nat.beq i i = true := Nat.beq_refl i
theorem beq_ne {i j : Nat} (h : i ≠ j) : Nat.beq i j = false := by
  cases e : Nat.beq i j with
  | false => rfl
  | true => exact absurd (Nat.eq_of_beq_eq_true e) h
theorem Heap.get_set_same (H : Heap) (id : Nat) (o : Ob) : (H.set id o).get id = some o := by
  induction H with
  | nil => simp [Heap.set, Heap.get, beq_self]
  | cons x r ih =>
    obtain ⟨i, o'⟩ := x
    cases e : Nat.beq i id with
    | true => simp [Heap.set, Heap.get, e]
    | false => simp [Heap.set, Heap.get, e, ih]
theorem Heap.get_set_other (H : Heap) {id j : Nat} (o : Ob) (h : j ≠ id) : (H.set id o).get j = H.get j := by
  induction H with
  | nil => simp [Heap.set, Heap.get, beq_ne (Ne.symm h)]
  | cons x r ih =>
    obtain ⟨i, o'⟩ := x
    cases e : Nat.beq i id with
    | true =>
      have : i = id := Nat.eq_of_beq_eq_true e
      subst this
      simp [Heap.set, Heap.get, beq_ne (Ne.symm h), e]
    | false => simp [Heap.set, Heap.get, e, ih]
theorem Env.get_cons_same (E : Env) (t : Nat) (v : AV) : Env.get ((t, v) :: E) t = some v := by simp [Env.get, beq_self]
theorem Env.get_cons_other (E : Env) {t u : Nat} (v : AV) (h : t ≠ u) : Env.get ((t, v) :: E) u = E.get u := by simp [Env.get, beq_ne h]

abbrev Plc := Nat → Option (Nat × Nat)

inductive VRel (w : World) (I : Nat → Prop) (ι : Plc) (H : Heap) : Value → AV → Prop
  | any (v : Value) : VRel w I ι H v .any
  | pv {v : Value} {p : PV} (h : PRep w I v p) : VRel w I ι H v (.pv p)
  | ref {v : Value} {id g i k : Nat} (o : Ob) (hH : H.get id = some o) (hg : g ≤ o.g) (h1 : v.oneCell' = true)
      (h : o.g = g → 0 < o.sz ∧ ∃ b cap, ι id = some (b, cap) ∧ v = .pointer (some ⟨b, i * o.sz + k, none⟩)) : VRel w I ι H v (.ref id g i k)
  | pad {rows : List (List PV)} {i k : Nat} (b off cap sz : Nat) (h : PRep w I (.slice (some ⟨b, off, none⟩) rows.length cap) (.sl rows)) (hsz : 0 < sz) (hlen : ∀ r ∈ rows, r.length = sz)
      (cs : Nat → Nat → Value) (hI : I b)
      (hc : ∀ (i : Nat) (r : List PV), rows[i]? = some r → ∀ (k : Nat) (p : PV), r[k]? = some p → w.cell? ⟨b, off + i * sz + k, none⟩ = some (cs i k))
      (hp : ∀ (i : Nat) (r : List PV), rows[i]? = some r → ∀ (k : Nat) (p : PV), r[k]? = some p → PRep w I (cs i k) p) :
      VRel w I ι H (.pointer (some ⟨b, off + i * sz + k, none⟩)) (.pad rows i k)
  | osl {v : Value} {id g off len : Nat} (o : Ob) (hH : H.get id = some o) (hg : g ≤ o.g) (h1 : v.oneCell' = true)
      (h : o.g = g → 0 < o.sz ∧ off + len ≤ o.rows.length ∧
        ((∃ b cap oo, ι id = some (b, cap) ∧ v = .slice (some ⟨b, oo, none⟩) len (cap - off) ∧ (off < cap ∨ off = 0 → oo = off * o.sz)) ∨ (ι id = none ∧ v = .slice none 0 0 ∧ off = 0 ∧ len = 0))) :
      VRel w I ι H v (.osl id g off len)
  | clo {f : FuncId} {vs : Array Value} {caps : List AV} (hl : vs.size = caps.length) (h : ∀ (i : Nat) (v : Value) (a : AV), vs[i]? = some v → caps[i]? = some a → VRel w I ι H v a) :
      VRel w I ι H (.func (.func f) #[] vs) (.clo f caps)
  | agg {vs : Array Value} {cs : List AV} (hl : vs.size = cs.length) (h1 : ∀ (i : Nat) (v : Value), vs[i]? = some v → v.oneCell' = true) (h : ∀ (i : Nat) (v : Value) (a : AV), vs[i]? = some v → cs[i]? = some a → VRel w I ι H v a) :
      VRel w I ι H (.agg vs) (.agg cs)
  | tup {vs : Array Value} {cs : List AV} (hl : vs.size = cs.length) (h : ∀ (i : Nat) (v : Value) (a : AV), vs[i]? = some v → cs[i]? = some a → VRel w I ι H v a) :
      VRel w I ι H (.tuple vs) (.tup cs)
  | mp {v : Value} {id g : Nat} (o : Ob) (hH : H.get id = some o) (hg : g ≤ o.g) (h1 : v.oneCell' = true) (h : o.g = g → o.sz = 0 ∧ ∃ b, ι id = some (b, 0) ∧ v = .map (some b)) : VRel w I ι H v (.mp id g)
  | it {v : Value} {id g : Nat} (o : Ob) (hH : H.get id = some o) (hg : g ≤ o.g) (h1 : v.oneCell' = true) (h : o.g = g → o.sz = 0 ∧ ∃ b, ι id = some (b, 1) ∧ v = .pointer (some ⟨b, 0, none⟩)) : VRel w I ι H v (.it id g)
  | osc {v : Value} {id g off len c : Nat} (o : Ob) (hH : H.get id = some o) (hg : g ≤ o.g) (h1 : v.oneCell' = true)
      (h : o.g = g → 0 < o.sz ∧ len ≤ c ∧
        ((∃ b oo, ι id = some (b, off + c) ∧ v = .slice (some ⟨b, oo, none⟩) len c ∧ (0 < c ∨ off = 0 → oo = off * o.sz)) ∨ (ι id = none ∧ v = .slice none 0 0 ∧ off = 0 ∧ len = 0 ∧ c = 0))) :
      VRel w I ι H v (.osc id g off len c)

def Own (ι : Plc) (H : Heap) (b : Nat) : Prop := ∃ id o cap, H.get id = some o ∧ ι id = some (b, cap)

/-- An object of cells. -/
def CellObj (w : World) (I : Nat → Prop) (ι : Plc) (H : Heap) (id : Nat) (o : Ob) : Prop :=
  0 < o.sz ∧ (∀ r ∈ o.rows, r.length = o.sz) ∧
  ((∃ b cap cs, ι id = some (b, cap) ∧ w.heap[b]? = some (.cells cs o.ty (0, 0)) ∧ ¬ I b ∧ cs.size = cap * o.sz ∧ o.rows.length ≤ cap ∧ cap ≤ maxLen ∧
      ∀ (i : Nat) (r : List AV), o.rows[i]? = some r → ∀ (k : Nat) (a : AV), r[k]? = some a → ∃ v, cs[i * o.sz + k]? = some v ∧ v.oneCell' = true ∧ VRel w I ι H v a) ∨
   (ι id = none ∧ o.rows = []))
/-- A map: its rows are its entries, in the order in which their keys came: a key, a value and a stamp each; its 'ty' is the clock. -/
def MapObj (w : World) (I : Nat → Prop) (ι : Plc) (H : Heap) (id : Nat) (o : Ob) : Prop :=
  o.sz = 0 ∧ ∃ b es, ι id = some (b, 0) ∧ w.heap[b]? = some (.map es o.ty) ∧ ¬ I b ∧ es.size = o.rows.length ∧
    (∀ (i : Nat) (e : MapEntry), es[i]? = some e → e.born < o.ty) ∧ (∀ (i j : Nat) (e e' : MapEntry), i < j → es[i]? = some e → es[j]? = some e' → e.born < e'.born) ∧
    ∀ (i : Nat) (r : List AV), o.rows[i]? = some r → ∃ e k a n, es[i]? = some e ∧ r = [k, a, n] ∧ VRel w I ι H e.key k ∧ VRel w I ι H e.val a ∧ VRel w I ι H (.int .i64 e.born) n
/-- A map's iterator: the map, the clock at its beginning and at its last step; the stamps that have come. -/
def IterObj (w : World) (I : Nat → Prop) (ι : Plc) (H : Heap) (id : Nat) (o : Ob) : Prop :=
  o.sz = 0 ∧ ∃ b bm since seen last, ι id = some (b, 1) ∧ w.heap[b]? = some (.mapIter (some bm) since seen last) ∧ ¬ I b ∧ o.rows.length = seen.size + 1 ∧
    (∃ m n k, o.rows[0]? = some [m, n, k] ∧ VRel w I ι H (.map (some bm)) m ∧ VRel w I ι H (.int .i64 since) n ∧ VRel w I ι H (.int .i64 last) k) ∧
    ∀ (i : Nat) (r : List AV), o.rows[i + 1]? = some r → ∃ x n, seen[i]? = some x ∧ r = [n] ∧ VRel w I ι H (.int .i64 x) n
def ObjRel (w : World) (I : Nat → Prop) (ι : Plc) (H : Heap) (id : Nat) (o : Ob) : Prop := CellObj w I ι H id o ∨ MapObj w I ι H id o ∨ IterObj w I ι H id o

theorem ObjRel.cells {w : World} {I : Nat → Prop} {ι : Plc} {H : Heap} {id : Nat} {o : Ob} (h : ObjRel w I ι H id o) (hz : 0 < o.sz) : CellObj w I ι H id o := by
  rcases h with h | h | h
  · exact h
  · have := h.1; omega
  · have := h.1; omega
theorem ObjRel.map {w : World} {I : Nat → Prop} {ι : Plc} {H : Heap} {id : Nat} {o : Ob} (h : ObjRel w I ι H id o) (hz : o.sz = 0) {b : Nat} (hι : ι id = some (b, 0)) : MapObj w I ι H id o := by
  rcases h with h | h | ⟨_, b', _, _, _, _, e1, _⟩
  · have := h.1; omega
  · exact h
  · rw [hι] at e1; cases e1
theorem ObjRel.iter {w : World} {I : Nat → Prop} {ι : Plc} {H : Heap} {id : Nat} {o : Ob} (h : ObjRel w I ι H id o) (hz : o.sz = 0) {b : Nat} (hι : ι id = some (b, 1)) : IterObj w I ι H id o := by
  rcases h with h | ⟨_, b', _, e1, _⟩ | h
  · have := h.1; omega
  · rw [hι] at e1; cases e1
  · exact h
theorem ObjRel.block {w : World} {I : Nat → Prop} {ι : Plc} {H : Heap} {id b cap : Nat} {o : Ob} (h : ObjRel w I ι H id o) (hi : ι id = some (b, cap)) : b < w.heap.size ∧ ¬ I b := by
  rcases h with ⟨_, _, ⟨b', cap', cs, e1, e2, e3, _⟩ | h1⟩ | ⟨_, b', es, e1, e2, e3, _⟩ | ⟨_, b', bm, since, seen, last, e1, e2, e3, _⟩
  · rw [hi] at e1; cases e1
    exact ⟨(Array.getElem?_eq_some_iff.1 e2).1, e3⟩
  · rw [hi] at h1; cases h1.1
  · rw [hi] at e1; cases e1
    exact ⟨(Array.getElem?_eq_some_iff.1 e2).1, e3⟩
  · rw [hi] at e1; cases e1
    exact ⟨(Array.getElem?_eq_some_iff.1 e2).1, e3⟩
theorem ObjRel.pos {w : World} {I : Nat → Prop} {ι : Plc} {H : Heap} {id b cap : Nat} {o : Ob} {cs : Array Value} {t : TypeId} {f : Nat × Nat} (h : ObjRel w I ι H id o) (hi : ι id = some (b, cap)) (hb : w.heap[b]? = some (.cells cs t f)) : 0 < o.sz := by
  rcases h with h | ⟨_, b', es, e1, e2, _⟩ | ⟨_, b', bm, since, seen, last, e1, e2, _⟩
  · exact h.1
  · rw [hi] at e1; cases e1
    rw [hb] at e2; cases e2
  · rw [hi] at e1; cases e1
    rw [hb] at e2; cases e2
/-- An object whose block stands, seen from another state. -/
theorem ObjRel.keepG {w w' : World} {I I' : Nat → Prop} {ι ι' : Plc} {H H' : Heap} {id id' : Nat} {o o' : Ob} (h : ObjRel w I ι H id o) (hsz : o'.sz = o.sz) (hty : o'.ty = o.ty) (hlen : o'.rows.length = o.rows.length)
    (hι : ι' id' = ι id) (hw : ∀ b cap, ι id = some (b, cap) → b < w.heap.size → w'.heap[b]? = w.heap[b]? ∧ (¬ I b → ¬ I' b))
    (hv : ∀ (i : Nat) (r' : List AV), o'.rows[i]? = some r' → ∃ r, o.rows[i]? = some r ∧ r.length = r'.length ∧ ∀ (k : Nat) (a a' : AV), r[k]? = some a → r'[k]? = some a' → ∀ v, VRel w I ι H v a → VRel w' I' ι' H' v a') : ObjRel w' I' ι' H' id' o' := by
  rcases h with ⟨p1, p2, ⟨b, cap, cs, e1, e2, e3, e4, e5, e5', e6⟩ | ⟨e1, e2⟩⟩ | ⟨p1, b, es, e1, e2, e3, e4, e5, e6, e7⟩ | ⟨p1, b, bm, since, seen, last, e1, e2, e3, e4, ⟨m, n, q, z1, z2, z3, z4⟩, e6⟩
  · obtain ⟨k1, k2⟩ := hw b cap e1 (Array.getElem?_eq_some_iff.1 e2).1
    refine .inl ⟨by omega, fun r' hr' => ?_, .inl ⟨b, cap, cs, hι.trans e1, by rw [hty]; exact k1.trans e2, k2 e3, by rw [hsz]; exact e4, by omega, e5', fun i r' hi k a' hk => ?_⟩⟩
    · obtain ⟨i, hi⟩ := List.mem_iff_getElem?.1 hr'
      obtain ⟨r, q1, q2, q3⟩ := hv i r' hi
      rw [← q2, hsz]
      exact p2 r (List.mem_of_getElem? q1)
    · obtain ⟨r, q1, q2, q3⟩ := hv i r' hi
      have hkl : k < r.length := by rw [q2]; exact (List.getElem?_eq_some_iff.1 hk).1
      obtain ⟨v, z1, z2, z3⟩ := e6 i r q1 k _ (List.getElem?_eq_getElem hkl)
      exact ⟨v, by rw [hsz]; exact z1, z2, q3 k _ a' (List.getElem?_eq_getElem hkl) hk v z3⟩
  · have h0 : o'.rows = [] := List.eq_nil_of_length_eq_zero (by rw [hlen, e2]; rfl)
    exact .inl ⟨by omega, by rw [h0]; simp, .inr ⟨hι.trans e1, h0⟩⟩
  · obtain ⟨k1, k2⟩ := hw b 0 e1 (Array.getElem?_eq_some_iff.1 e2).1
    refine .inr (.inl ⟨by omega, b, es, hι.trans e1, by rw [hty]; exact k1.trans e2, k2 e3, by omega, by rw [hty]; exact e5, e6, fun i r' hi => ?_⟩)
    obtain ⟨r, q1, q2, q3⟩ := hv i r' hi
    obtain ⟨e, k, a, n, z1, z2, z3, z4, z5⟩ := e7 i r q1
    subst z2
    match r', q2 with
    | [k', a', n'], _ => exact ⟨e, k', a', n', z1, rfl, q3 0 k k' rfl rfl _ z3, q3 1 a a' rfl rfl _ z4, q3 2 n n' rfl rfl _ z5⟩
  · obtain ⟨k1, k2⟩ := hw b 1 e1 (Array.getElem?_eq_some_iff.1 e2).1
    refine .inr (.inr ⟨by omega, b, bm, since, seen, last, hι.trans e1, k1.trans e2, k2 e3, by omega, ?_, fun i r' hi => ?_⟩)
    · have hlt : 0 < o'.rows.length := by omega
      obtain ⟨r, q1, q2, q3⟩ := hv 0 _ (List.getElem?_eq_getElem hlt)
      rw [z1] at q1
      obtain rfl := Option.some.inj q1
      have h0 := List.getElem?_eq_getElem hlt
      generalize o'.rows[0] = r' at q2 q3 h0
      match r', q2 with
      | [m', n', q'], _ => exact ⟨m', n', q', h0, q3 0 m m' rfl rfl _ z2, q3 1 n n' rfl rfl _ z3, q3 2 q q' rfl rfl _ z4⟩
    · obtain ⟨r, q1, q2, q3⟩ := hv (i + 1) r' hi
      obtain ⟨x, n, y1, y2, y3⟩ := e6 i r q1
      subst y2
      match r', q2 with
      | [n'], _ => exact ⟨x, n', y1, rfl, q3 0 n n' rfl rfl _ y3⟩
theorem ObjRel.keep {w w' : World} {I I' : Nat → Prop} {ι ι' : Plc} {H H' : Heap} {id : Nat} {o : Ob} (h : ObjRel w I ι H id o)
    (hι : ι' id = ι id) (hw : ∀ b cap, ι id = some (b, cap) → b < w.heap.size → w'.heap[b]? = w.heap[b]? ∧ (¬ I b → ¬ I' b))
    (hv : ∀ r ∈ o.rows, ∀ a ∈ r, ∀ v, VRel w I ι H v a → VRel w' I' ι' H' v a) : ObjRel w' I' ι' H' id o :=
  h.keepG rfl rfl rfl hι hw fun i r hi => ⟨r, hi, rfl, fun k a a' h1 h2 v hvv => by
    rw [h1] at h2; cases h2
    exact hv r (List.mem_of_getElem? hi) a (List.mem_of_getElem? h1) v hvv⟩

structure Rel (I : Nat → Prop) (ι : Plc) (H : Heap) (w : World) : Prop where
  imm : ∀ b, I b → b < w.heap.size
  obj : ∀ id o, H.get id = some o → ObjRel w I ι H id o
  inj : ∀ id id' o o' b c c', H.get id = some o → H.get id' = some o' → ι id = some (b, c) → ι id' = some (b, c') → id = id'

structure Step (I : Nat → Prop) (ι : Plc) (H : Heap) (w : World) (I' : Nat → Prop) (ι' : Plc) (H' : Heap) (w' : World) : Prop where
  os : w'.os = w.os
  tape : w'.tape = w.tape
  output : w'.output = w.output
  size : w.heap.size ≤ w'.heap.size
  froz : ∀ a, a.block < w.heap.size → w'.frozen? a = w.frozen? a
  imm : ∀ b, I b → I' b
  immNew : ∀ b, I' b → I b ∨ Own ι H b ∨ w.heap.size ≤ b
  own : ∀ b, Own ι' H' b → Own ι H b ∨ w.heap.size ≤ b
  keep : ∀ b, b < w.heap.size → ¬ Own ι H b → w'.heap[b]? = w.heap[b]?
  objs : ∀ id o, H.get id = some o → ∃ o', H'.get id = some o' ∧ o.g ≤ o'.g ∧ (o'.g = o.g → ι' id = ι id ∧ o'.sz = o.sz ∧ (0 < o.sz → o.rows.length ≤ o'.rows.length))

theorem Rel.lt {I : Nat → Prop} {ι : Plc} {H : Heap} {w : World} (h : Rel I ι H w) {b : Nat} (hb : Own ι H b) : b < w.heap.size :=
  let ⟨id, o, _, ho, hi⟩ := hb; ((h.obj id o ho).block hi).1
theorem Rel.notImm {I : Nat → Prop} {ι : Plc} {H : Heap} {w : World} (h : Rel I ι H w) {b : Nat} (hb : Own ι H b) : ¬ I b :=
  let ⟨id, o, _, ho, hi⟩ := hb; ((h.obj id o ho).block hi).2

theorem Step.refl (I : Nat → Prop) (ι : Plc) (H : Heap) (w : World) : Step I ι H w I ι H w :=
  ⟨rfl, rfl, rfl, Nat.le_refl _, fun _ _ => rfl, fun _ h => h, fun _ h => .inl h, fun _ h => .inl h, fun _ _ _ => rfl, fun _ o h => ⟨o, h, Nat.le_refl _, fun _ => ⟨rfl, rfl, fun _ => Nat.le_refl _⟩⟩⟩

theorem Step.trans {I I' I'' : Nat → Prop} {ι ι' ι'' : Plc} {H H' H'' : Heap} {w w' w'' : World} (h : Step I ι H w I' ι' H' w') (h' : Step I' ι' H' w' I'' ι'' H'' w'') :
    Step I ι H w I'' ι'' H'' w'' where
  os := h'.os.trans h.os
  tape := h'.tape.trans h.tape
  output := h'.output.trans h.output
  size := Nat.le_trans h.size h'.size
  froz := fun a ha => (h'.froz a (Nat.lt_of_lt_of_le ha h.size)).trans (h.froz a ha)
  imm := fun b hb => h'.imm b (h.imm b hb)
  immNew := fun b hb => by
    rcases h'.immNew b hb with h1 | h1 | h1
    · exact h.immNew b h1
    · exact .inr (h.own b h1)
    · exact .inr (.inr (Nat.le_trans h.size h1))
  own := fun b hb => by
    rcases h'.own b hb with h1 | h1
    · exact h.own b h1
    · exact .inr (Nat.le_trans h.size h1)
  keep := fun b hb hn => by
    have hn' : ¬ Own ι' H' b := fun ho => by
      rcases h.own b ho with h1 | h1
      · exact hn h1
      · omega
    exact (h'.keep b (Nat.lt_of_lt_of_le hb h.size) hn').trans (h.keep b hb hn)
  objs := fun id o ho => by
    obtain ⟨o1, e1, l1, k1⟩ := h.objs id o ho
    obtain ⟨o2, e2, l2, k2⟩ := h'.objs id o1 e1
    refine ⟨o2, e2, Nat.le_trans l1 l2, fun e => ?_⟩
    have g1 : o1.g = o.g := by omega
    obtain ⟨a1, a2, a3⟩ := k1 g1
    obtain ⟨b1, b2, b3⟩ := k2 (by omega)
    exact ⟨b1.trans a1, b2.trans a2, fun hz => Nat.le_trans (a3 hz) (b3 (by omega))⟩

theorem VRel.mono' {w w' : World} {I I' : Nat → Prop} {ι ι' : Plc} {H H' : Heap} (hw : ∀ b, I b → w'.heap[b]? = w.heap[b]?) (hI : ∀ b, I b → I' b)
    (hH : ∀ id o, H.get id = some o → ∃ o', H'.get id = some o' ∧ o.g ≤ o'.g ∧ (o'.g = o.g → ι' id = ι id ∧ o'.sz = o.sz ∧ (0 < o.sz → o.rows.length ≤ o'.rows.length)))
    {v : Value} {a : AV} (h : VRel w I ι H v a) : VRel w' I' ι' H' v a := by
  induction h with
  | any v => exact .any v
  | pv h => exact .pv (h.mono hw hI)
  | ref o hO hg hone h =>
    obtain ⟨o', e, l, k⟩ := hH _ o hO
    refine .ref o' e (Nat.le_trans hg l) hone fun hgo => ?_
    obtain ⟨k1, k2, k3⟩ := k (by omega)
    obtain ⟨hz, b, cap, h2, h3⟩ := h (by omega)
    exact ⟨by omega, b, cap, k1.trans h2, by rw [k2]; exact h3⟩
  | pad b off cap sz h hsz hlen cs hb hc hp =>
    exact .pad b off cap sz (h.mono hw hI) hsz hlen cs (hI b hb) (fun i r hr k p hk => (cell?_of_heap (hw b hb)).trans (hc i r hr k p hk)) (fun i r hr k p hk => (hp i r hr k p hk).mono hw hI)
  | osl o hO hg hone h =>
    obtain ⟨o', e, l, k⟩ := hH _ o hO
    refine .osl o' e (Nat.le_trans hg l) hone fun hgo => ?_
    obtain ⟨k1, k2, k3⟩ := k (by omega)
    obtain ⟨hz, h2, h3⟩ := h (by omega)
    refine ⟨by omega, Nat.le_trans h2 (k3 hz), ?_⟩
    rw [k1, k2]
    exact h3
  | clo hl h ih => exact .clo hl fun i v a hv ha => ih i v a hv ha
  | agg hl h1 h ih => exact .agg hl h1 fun i v a hv ha => ih i v a hv ha
  | tup hl h ih => exact .tup hl fun i v a hv ha => ih i v a hv ha
  | mp o hO hg hone h =>
    obtain ⟨o', e, l, k⟩ := hH _ o hO
    refine .mp o' e (Nat.le_trans hg l) hone fun hgo => ?_
    obtain ⟨k1, k2, k3⟩ := k (by omega)
    obtain ⟨hz, b, h2, h3⟩ := h (by omega)
    exact ⟨by omega, b, k1.trans h2, h3⟩
  | it o hO hg hone h =>
    obtain ⟨o', e, l, k⟩ := hH _ o hO
    refine .it o' e (Nat.le_trans hg l) hone fun hgo => ?_
    obtain ⟨k1, k2, k3⟩ := k (by omega)
    obtain ⟨hz, b, h2, h3⟩ := h (by omega)
    exact ⟨by omega, b, k1.trans h2, h3⟩
  | osc o hO hg hone h =>
    obtain ⟨o', e, l, k⟩ := hH _ o hO
    refine .osc o' e (Nat.le_trans hg l) hone fun hgo => ?_
    obtain ⟨k1, k2, k3⟩ := k (by omega)
    obtain ⟨hz, h2, h3⟩ := h (by omega)
    refine ⟨by omega, h2, ?_⟩
    rw [k1, k2]
    exact h3

section inv
variable {w : World} {I : Nat → Prop} {ι : Plc} {H : Heap} {v : Value}
theorem VRel.pv_inv {p : PV} (h : VRel w I ι H v (.pv p)) : PRep w I v p := by cases h with | pv h => exact h
theorem VRel.bool_inv {b : Bool} (h : VRel w I ι H v (.pv (.bool b))) : v = .bool b := by cases h with | pv h => cases h; rfl
theorem VRel.int_inv {k : IntKind} {n : Int} (h : VRel w I ι H v (.pv (.int k n))) : v = .int k n := by cases h with | pv h => cases h; rfl
theorem VRel.str_inv {s : ByteArray} (h : VRel w I ι H v (.pv (.str s))) : v = .string s := by cases h with | pv h => cases h; rfl
theorem VRel.nilp_inv (h : VRel w I ι H v (.pv .nilp)) : v = .pointer none := by cases h with | pv h => cases h; rfl
theorem VRel.fn_inv {f : FuncId} (h : VRel w I ι H v (.pv (.fn f))) : v = .func (.func f) #[] #[] := by cases h with | pv h => cases h; rfl
end inv

theorem Step.imms {I I' : Nat → Prop} {ι ι' : Plc} {H H' : Heap} {w w' : World} (h : Step I ι H w I' ι' H' w') (hr : Rel I ι H w) : ∀ b, I b → w'.heap[b]? = w.heap[b]? :=
  fun b hb => h.keep b (hr.imm b hb) (fun ho => hr.notImm ho hb)
theorem VRel.mono {w w' : World} {I I' : Nat → Prop} {ι ι' : Plc} {H H' : Heap} (hr : Rel I ι H w) (hs : Step I ι H w I' ι' H' w')
    {v : Value} {a : AV} (h : VRel w I ι H v a) : VRel w' I' ι' H' v a := h.mono' (hs.imms hr) hs.imm hs.objs

end Go.Abs
end
section
set_option linter.unusedVariables false
set_option linter.unusedSimpArgs false
namespace Go.Abs

def ERel (w : World) (I : Nat → Prop) (ι : Plc) (H : Heap) (E : Env) (a : Act) : Prop := ∀ t v, E.get t = some v → ∃ c, a.tmps[t]? = some c ∧ VRel w I ι H c v

structure Entry where
  I : Nat → Prop
  ι : Plc
  H : Heap
  w : World

structure St (G : Entry) (N : Nat) (E : Env) (H : Heap) (a : Act) (w : World) : Prop where
  defers : a.defers = []
  size : a.tmps.size = N
  rel : ∃ I ι, Rel I ι H w ∧ Step G.I G.ι G.H G.w I ι H w ∧ ERel w I ι H E a

/-- A statement, from an abstract state. 'G0': the heap that the call was handed. -/
def AWp (P : Program) (G0 : Heap) (N : Nat) (c : Code) (Q : Exit → Env → Heap → Prop) (E : Env) (H : Heap) : Prop :=
  ∀ G : Entry, G.H = G0 → ∀ a w, St G N E H a w → c.wp P (fun e a w => ∃ E H, Q e E H ∧ St G N E H a w) a w

/-- One state says what another one says. -/
def Ent (G0 : Heap) (E : Env) (H : Heap) (E' : Env) (H' : Heap) : Prop := ∀ G : Entry, G.H = G0 → ∀ N a w, St G N E H a w → St G N E' H' a w

/-- A call: the arguments' values, the heap that it is handed; what it returns, and the heap behind it. -/
def ACalls (P : Program) (f : FuncId) (args : List AV) (H : Heap) (Q : AV → Heap → Prop) : Prop :=
  ∀ (I : Nat → Prop) (ι : Plc) (w : World) (vs : Array Value), Rel I ι H w → vs.size = args.length → (∀ (i : Nat) (v : Value) (a : AV), vs[i]? = some v → args[i]? = some a → VRel w I ι H v a) →
    Calls P f vs w fun e w' => ∃ r H' I' ι' v, e = .returned v ∧ Q r H' ∧ VRel w' I' ι' H' v r ∧ Rel I' ι' H' w' ∧ Step I ι H w I' ι' H' w'

theorem ACalls.mono {P : Program} {f : FuncId} {args : List AV} {H : Heap} {Q Q' : AV → Heap → Prop} (h : ACalls P f args H Q) (hq : ∀ r H', Q r H' → Q' r H') : ACalls P f args H Q' :=
  fun I ι w vs hr hl hv => (h I ι w vs hr hl hv).mono fun _ _ ⟨r, H', I', ι', v, e, q, rest⟩ => ⟨r, H', I', ι', v, e, hq _ _ q, rest⟩

section control
variable {P : Program} {G0 : Heap} {N : Nat} {Q : Exit → Env → Heap → Prop} {E : Env} {H : Heap}

theorem AWp.mono {c : Code} {Q' : Exit → Env → Heap → Prop} (h : AWp P G0 N c Q E H) (hq : ∀ e E H, Q e E H → Q' e E H) : AWp P G0 N c Q' E H :=
  fun G hG a w hs => wp_mono (h G hG a w hs) fun _ _ _ ⟨E, H, q, s⟩ => ⟨E, H, hq _ _ _ q, s⟩
theorem AWp.ent {c : Code} {E' : Env} {H' : Heap} (he : Ent G0 E H E' H') (h : AWp P G0 N c Q E' H') : AWp P G0 N c Q E H :=
  fun G hG a w hs => h G hG a w (he G hG N a w hs)
theorem awp_skip (h : Q .normal E H) : AWp P G0 N .skip Q E H := fun _ _ _ _ hs => wp_skip ⟨E, H, h, hs⟩
theorem awp_label {l : Nat} (h : Q .normal E H) : AWp P G0 N (.label l) Q E H := fun _ _ _ _ hs => wp_label ⟨E, H, h, hs⟩
theorem awp_ret (h : Q .ret E H) : AWp P G0 N .ret Q E H := fun _ _ _ _ hs => wp_ret ⟨E, H, h, hs⟩
theorem awp_exit {id : Nat} (h : Q (.exit id) E H) : AWp P G0 N (.exit id) Q E H := fun _ _ _ _ hs => wp_exit ⟨E, H, h, hs⟩

/-- Behind a statement that ended in its ordinary way: K; else Q. -/
def AThen (K : Env → Heap → Prop) (Q : Exit → Env → Heap → Prop) : Exit → Env → Heap → Prop
  | .normal, E, H => K E H
  | e, E, H => Q e E H

theorem awp_seq {x y : Code} (h : AWp P G0 N x (AThen (AWp P G0 N y Q) Q) E H) : AWp P G0 N (.seq x y) Q E H := by
  intro G hG a w hs
  refine wp_seq (wp_mono (h G hG a w hs) ?_)
  rintro e a' w' ⟨E', H', q, s⟩
  cases e <;> first | exact q G hG a' w' s | exact ⟨E', H', q, s⟩
/-- The state between two statements is given. -/
theorem awp_seq_to {x y : Code} (E' : Env) (H' : Heap) (h : AWp P G0 N x (AThen (fun E1 H1 => Ent G0 E1 H1 E' H') Q) E H) (h' : AWp P G0 N y Q E' H') : AWp P G0 N (.seq x y) Q E H :=
  awp_seq (h.mono fun e E1 H1 q => by cases e <;> first | exact q | exact AWp.ent q h')

def AInBlock (id : Nat) (Q : Exit → Env → Heap → Prop) : Exit → Env → Heap → Prop
  | .exit id', E, H => cond (Nat.beq id' id) (Q .normal E H) (Q (.exit id') E H)
  | e, E, H => Q e E H

theorem awp_block {id : Nat} {c : Code} (h : AWp P G0 N c (AInBlock id Q) E H) : AWp P G0 N (.block id c) Q E H := by
  intro G hG a w hs
  refine wp_block (wp_mono (h G hG a w hs) ?_)
  rintro e a' w' ⟨E', H', q, s⟩
  cases e <;> try exact ⟨E', H', q, s⟩
  rename_i id'
  simp only [AInBlock] at q
  simp only [Exit.inBlock]
  split
  · rename_i e1; subst e1; rw [beq_self] at q; exact ⟨E', H', q, s⟩
  · rename_i e1; rw [beq_ne e1] at q; exact ⟨E', H', q, s⟩

def cv : Value → Option AV
  | .int k n => some (.pv (.int k n))
  | .bool b => some (.pv (.bool b))
  | .string s => some (.pv (.str s))
  | .pointer none => some (.pv .nilp)
  | .slice none 0 0 => some (.pv (.sl []))
  | .nilFunc => some (.pv .nilfn)
  | .map none => some (.pv .nilm)
  | _ => none

def aeval (E : Env) : Operand → Option AV
  | .tmp t => E.get t
  | .const v => cv v
  | .func f => some (.pv (.fn f))
  | .global _ => none

theorem cv_rel {w : World} {I : Nat → Prop} {ι : Plc} {v : Value} {a : AV} (h : cv v = some a) : VRel w I ι H v a ∧ v.oneCell' = true := by
  unfold cv at h
  split at h <;> cases h
  · exact ⟨.pv (.int _ _), rfl⟩
  · exact ⟨.pv (.bool _), rfl⟩
  · exact ⟨.pv (.str _), rfl⟩
  · exact ⟨.pv .nilp, rfl⟩
  · exact ⟨.pv .nilsl, rfl⟩
  · exact ⟨.pv .nilfn, rfl⟩
  · exact ⟨.pv .nilm, rfl⟩

theorem aeval_rel {w : World} {I : Nat → Prop} {ι : Plc} {a : Act} {x : Operand} {v : AV} (he : ERel w I ι H E a) (h : aeval E x = some v) : VRel w I ι H (a.eval x) v := by
  cases x with
  | tmp t =>
    obtain ⟨c, hc, hv⟩ := he t v h
    simpa [Act.eval, hc] using hv
  | const c => exact (cv_rel h).1
  | func f => simp only [aeval, Option.some.injEq] at h; subst h; exact .pv (.fn f)
  | global g => cases h

theorem awp_cond {c : Operand} {x y : Code} {b : Bool} (hc : aeval E c = some (.pv (.bool b))) (h1 : b = true → AWp P G0 N x Q E H) (h2 : b = false → AWp P G0 N y Q E H) :
    AWp P G0 N (.cond c x y) Q E H := by
  intro G hG a w hs
  obtain ⟨I, ι, hr, hst, he⟩ := hs.rel
  have hv := aeval_rel he hc
  have hb : a.eval c = .bool b := hv.bool_inv
  exact wp_cond_split hb (fun e => h1 e G hG a w hs) (fun e => h2 e G hG a w hs)

/-- A loop: states 'S s' for s with 'J s', and a measure. -/
theorem awp_loop {c : Code} {σ : Type} (S : σ → Env × Heap) (J : σ → Prop) (μ : σ → Nat) (s0 : σ) (h0 : J s0) (hin : Ent G0 E H (S s0).1 (S s0).2)
    (round : ∀ s, J s → AWp P G0 N c (AThen (fun E' H' => ∃ s', J s' ∧ μ s' < μ s ∧ Ent G0 E' H' (S s').1 (S s').2) Q) (S s).1 (S s).2) : AWp P G0 N (.loop c) Q E H := by
  intro G hG a w hs
  refine wp_loop_ghost (I := fun n a w => ∃ s, J s ∧ μ s = n ∧ St G N (S s).1 (S s).2 a w) (μ s0) ⟨s0, h0, rfl, hin G hG N a w hs⟩ ?_
  rintro n a w ⟨s, hJ, rfl, hst⟩
  refine wp_mono (round s hJ G hG a w hst) ?_
  rintro e a' w' ⟨E', H', q, s'⟩
  cases e <;> try exact ⟨E', H', q, s'⟩
  obtain ⟨s2, h2, h3, h4⟩ := q
  exact ⟨μ s2, h3, s2, h2, rfl, h4 G hG N a' w' s'⟩

/-! ### operations -/

/-- One operation: what it may yield, and the heap behind it. -/
def OpR (P : Program) (N : Nat) (o : Oper) (E : Env) (H : Heap) (R : AV → Heap → Prop) : Prop :=
  ∀ (a : Act) (w : World) (I : Nat → Prop) (ι : Plc), a.defers = [] → a.tmps.size = N → Rel I ι H w → ERel w I ι H E a → ∀ (K : Act → World → Prop) (Q : Exit → Act → World → Prop),
    (∀ c w' I' ι' r H', R r H' → VRel w' I' ι' H' c r → Rel I' ι' H' w' → Step I ι H w I' ι' H' w' → K (a.put o.dst c) w') → o.wp P a w K Q
/-- One operation that yields one value. -/
def OpD (P : Program) (N : Nat) (o : Oper) (E : Env) (H : Heap) (v : AV) (H2 : Heap) : Prop := OpR P N o E H (fun r H' => r = v ∧ H' = H2)

def putd (E : Env) : Option Tmp → AV → Env
  | none, _ => E
  | some d, v => (d, v) :: E
def dstOk (N : Nat) : Option Tmp → Bool
  | none => true
  | some d => Nat.blt d N

theorem ERel.put {w w' : World} {I I' : Nat → Prop} {ι ι' : Plc} {H' : Heap} {a : Act} {c : Value} {r : AV} {d : Option Tmp} (hr : Rel I ι H w) (hs : Step I ι H w I' ι' H' w')
    (he : ERel w I ι H E a) (hv : VRel w' I' ι' H' c r) (hd : dstOk a.tmps.size d = true) : ERel w' I' ι' H' (putd E d r) (a.put d c) := by
  cases d with
  | none => exact fun t v h => let ⟨c, h1, h2⟩ := he t v h; ⟨c, h1, h2.mono hr hs⟩
  | some d =>
    intro t v h
    simp only [putd] at h
    have hlt : d < a.tmps.size := by simpa [dstOk, Nat.blt_eq] using hd
    by_cases e : d = t
    · subst e
      rw [Env.get_cons_same] at h
      cases h
      exact ⟨c, by simp [Act.put, hlt], hv⟩
    · rw [Env.get_cons_other _ _ e] at h
      obtain ⟨c', h1, h2⟩ := he t v h
      exact ⟨c', by simp [Act.put, Array.getElem?_setIfInBounds_ne e, h1], h2.mono hr hs⟩

/-- The operations 'l' of a region whose operations are 'ops', one after the other. -/
def AL (P : Program) (G0 : Heap) (N : Nat) (ops : Array Oper) (K : Env → Heap → Prop) (l : List Oper) (E : Env) (H : Heap) : Prop :=
  ∀ G : Entry, G.H = G0 → ∀ a w, St G N E H a w → ∀ Q : Exit → Act → World → Prop, (∀ E H a w, K E H → St G N E H a w → Q .normal a w) → wpList P ops Q l a w

theorem al_nil {ops : Array Oper} {K : Env → Heap → Prop} (h : K E H) : AL P G0 N ops K [] E H := fun _ _ a w hs _ hq => hq _ _ a w h hs

theorem St.op {G : Entry} {a : Act} {w : World} {o : Oper} {R : AV → Heap → Prop} (hs : St G N E H a w) (hd : dstOk N o.dst = true) (h : OpR P N o E H R) {K : Act → World → Prop} {Q : Exit → Act → World → Prop}
    (hk : ∀ r H' a' w', R r H' → St G N (putd E o.dst r) H' a' w' → K a' w') : o.wp P a w K Q := by
  obtain ⟨I, ι, hr, hst, he⟩ := hs.rel
  refine h a w I ι hs.defers hs.size hr he K Q ?_
  intro c w' I' ι' r H' hR hv hr' hs'
  refine hk r H' _ w' hR ⟨?_, ?_, I', ι', hr', hst.trans hs', ERel.put hr hs' he hv (by rw [hs.size]; exact hd)⟩
  · have := hs.defers
    cases o.dst <;> simpa [Act.put] using this
  · have := hs.size
    cases o.dst <;> simpa [Act.put] using this

theorem al_r {ops : Array Oper} {K : Env → Heap → Prop} {o : Oper} {rest : List Oper} {R : AV → Heap → Prop} (hg : o.guard = none) (hd : dstOk N o.dst = true) (h : OpR P N o E H R)
    (hk : ∀ r H', R r H' → AL P G0 N ops K rest (putd E o.dst r) H') : AL P G0 N ops K (o :: rest) E H := by
  intro G hG a w hs Q hq
  refine wpList_plain hg fun K' hK => ?_
  exact hs.op hd h fun r H' a' w' hR hs' => hK _ _ (hk r H' hR G hG a' w' hs' Q hq)

theorem al_d {ops : Array Oper} {K : Env → Heap → Prop} {o : Oper} {rest : List Oper} {d : Tmp} {v : AV} {H2 : Heap} (hg : o.guard = none) (hd : o.dst = some d) (hn : Nat.blt d N = true) (h : OpD P N o E H v H2)
    (hk : AL P G0 N ops K rest ((d, v) :: E) H2) : AL P G0 N ops K (o :: rest) E H :=
  al_r hg (by rw [hd]; exact hn) h fun r H' ⟨e1, e2⟩ => by subst e1 e2; rw [hd]; exact hk
theorem al_n {ops : Array Oper} {K : Env → Heap → Prop} {o : Oper} {rest : List Oper} {v : AV} {H2 : Heap} (hg : o.guard = none) (hd : o.dst = none) (h : OpD P N o E H v H2)
    (hk : AL P G0 N ops K rest E H2) : AL P G0 N ops K (o :: rest) E H :=
  al_r hg (by rw [hd]; rfl) h fun r H' ⟨e1, e2⟩ => by subst e1 e2; rw [hd]; exact hk

/-- The slot of a guard. -/
def gslot (ops : List Oper) (j : Nat) : Option Tmp := (ops[j]?).bind (·.dst)

theorem guard_yields {ops : Array Oper} {w : World} {I : Nat → Prop} {ι : Plc} {a : Act} {j : Nat} {t : Tmp} {b : Bool} (hj : gslot ops.toList j = some t) (hb : E.get t = some (.pv (.bool b))) (he : ERel w I ι H E a) :
    yielded ops a.tmps j = some b := by
  obtain ⟨c, hc, hv⟩ := he t _ hb
  have hcb : c = .bool b := hv.bool_inv
  subst hcb
  unfold yielded
  have : (ops[j]?).bind (·.dst) = some t := by simpa [gslot] using hj
  rw [this]
  simp [hc]

/-- An operation under a guard that is met. -/
theorem al_on {ops : Array Oper} {K : Env → Heap → Prop} {o : Oper} {rest : List Oper} {j : Nat} {want : Bool} {t : Tmp} {b : Bool} {R : AV → Heap → Prop} (hg : o.guard = some (j, want)) (hj : gslot ops.toList j = some t)
    (hb : E.get t = some (.pv (.bool b))) (hw : b = want) (hd : dstOk N o.dst = true) (h : OpR P N o E H R) (hk : ∀ r H', R r H' → AL P G0 N ops K rest (putd E o.dst r) H') : AL P G0 N ops K (o :: rest) E H := by
  intro G hG a w hs Q hq
  have hy := guard_yields (ops := ops) hj hb hs.rel.choose_spec.choose_spec.2.2
  unfold wpList
  have hwant : Region.wanted o (yielded ops a.tmps) = true := by simp [Region.wanted, hg, hy, hw]
  simp only [hwant, if_true]
  first
    | exact .inl (hs.op hd h fun r H' a' w' hR hs' => hk r H' hR G hG a' w' hs' Q hq)
    | exact hs.op hd h fun r H' a' w' hR hs' => hk r H' hR G hG a' w' hs' Q hq
/-- Whether a guard's slot leaves its operation out: 'false' for the wanted 'true' and the other way; or its own operation was left out. -/
def offB (want : Bool) : AV → Bool
  | .pv (.bool b) => b == !want
  | .tup [] => true
  | _ => false
theorem guard_undef {ops : Array Oper} {w : World} {I : Nat → Prop} {ι : Plc} {a : Act} {j : Nat} {t : Tmp} (hj : gslot ops.toList j = some t) (hb : E.get t = some (.tup [])) (he : ERel w I ι H E a) : yielded ops a.tmps j = none := by
  obtain ⟨c, hc, hv⟩ := he t _ hb
  unfold yielded
  have : (ops[j]?).bind (·.dst) = some t := by simpa [gslot] using hj
  rw [this]
  cases hv
  simp [hc]
theorem guard_off {ops : Array Oper} {o : Oper} {w : World} {I : Nat → Prop} {ι : Plc} {a : Act} {j : Nat} {want : Bool} {t : Tmp} {x : AV} (hg : o.guard = some (j, want)) (hj : gslot ops.toList j = some t) (hb : E.get t = some x) (hw : offB want x = true) (he : ERel w I ι H E a) :
    Region.wanted o (yielded ops a.tmps) = false := by
  unfold offB at hw
  split at hw
  · next b =>
    have hy := guard_yields (ops := ops) hj hb he
    have hbw : b = !want := by simpa using hw
    subst hbw
    cases want <;> simp [Region.wanted, hg, hy]
  · have hy := guard_undef (ops := ops) hj hb he
    simp [Region.wanted, hg, hy]
  · cases hw
theorem ERel.skip {w : World} {I : Nat → Prop} {ι : Plc} : VRel w I ι H undef (.tup []) := .tup rfl (fun i v a h => by simp at h)
theorem al_offx {ops : Array Oper} {K : Env → Heap → Prop} {o : Oper} {rest : List Oper} {j : Nat} {want : Bool} {t : Tmp} {x : AV} (hg : o.guard = some (j, want)) (hj : gslot ops.toList j = some t)
    (hb : E.get t = some x) (hw : offB want x = true) (hd : dstOk N o.dst = true) (hk : AL P G0 N ops K rest (putd E o.dst (.tup [])) H) : AL P G0 N ops K (o :: rest) E H := by
  intro G hG a w hs Q hq
  obtain ⟨I, ι, hr, hst, he⟩ := hs.rel
  unfold wpList
  have hwant : Region.wanted o (yielded ops a.tmps) = false := guard_off hg hj hb hw he
  simp only [hwant, Bool.false_eq_true, if_false]
  refine hk G hG _ w ⟨?_, ?_, I, ι, hr, hst, ERel.put hr (Step.refl _ _ _ _) he ERel.skip (by rw [hs.size]; exact hd)⟩ Q hq
  · have := hs.defers
    cases o.dst <;> simpa [Act.put] using this
  · have := hs.size
    cases o.dst <;> simpa [Act.put] using this
theorem al_off {ops : Array Oper} {K : Env → Heap → Prop} {o : Oper} {rest : List Oper} {j : Nat} {want : Bool} {t : Tmp} {b : Bool} (hg : o.guard = some (j, want)) (hj : gslot ops.toList j = some t)
    (hb : E.get t = some (.pv (.bool b))) (hw : b = !want) (hd : dstOk N o.dst = true) (hk : AL P G0 N ops K rest (putd E o.dst (.tup [])) H) : AL P G0 N ops K (o :: rest) E H :=
  al_offx hg hj hb (by simp [offB, hw]) hd hk
theorem al_offu {ops : Array Oper} {K : Env → Heap → Prop} {o : Oper} {rest : List Oper} {j : Nat} {want : Bool} {t : Tmp} (hg : o.guard = some (j, want)) (hj : gslot ops.toList j = some t)
    (hb : E.get t = some (.tup [])) (hd : dstOk N o.dst = true) (hk : AL P G0 N ops K rest (putd E o.dst (.tup [])) H) : AL P G0 N ops K (o :: rest) E H :=
  al_offx hg hj hb rfl hd hk

theorem awp_region {id : Nat} {ops : Array Oper} (h : AL P G0 N ops (fun E H => Q .normal E H) ops.toList E H) : AWp P G0 N (.region id ops false) Q E H := by
  intro G hG a w hs
  exact wp_region_list (h G hG a w hs _ fun E H a w q s => ⟨E, H, q, s⟩)
end control
end Go.Abs
end
section
set_option linter.unusedVariables false
set_option linter.unusedSimpArgs false
namespace Go.Abs
section
variable {P : Program} {N : Nat} {o : Oper} {E : Env} {H : Heap}

theorem OpD.of_run {v : AV} (h : ∀ (a : Act) (w : World) (I : Nat → Prop) (ι : Plc), Rel I ι H w → ERel w I ι H E a → ∃ c, (execOp a.eval o).run P w = .ok (.value c) w ∧ VRel w I ι H c v) : OpD P N o E H v H := by
  intro a w I ι _ _ hr he K Q hk
  obtain ⟨c, hrun, hv⟩ := h a w I ι hr he
  unfold Oper.wp
  rw [hrun]
  exact hk c w I ι v H ⟨rfl, rfl⟩ hv hr (Step.refl _ _ _ _)

theorem opd_move {x : Operand} {v : AV} (ho : o.op = .move x) (hx : aeval E x = some v) : OpD P N o E H v H :=
  .of_run fun a w I ι hr he => ⟨a.eval x, by simp [execOp, ho], aeval_rel he hx⟩
theorem opd_assign {x : Operand} {v : AV} (ho : o.op = .assign x) (hx : aeval E x = some v) : OpD P N o E H v H :=
  .of_run fun a w I ι hr he => ⟨a.eval x, by simp [execOp, ho], aeval_rel he hx⟩
theorem opd_pick {c x y : Operand} {b : Bool} {v : AV} (ho : o.op = .pick c x y) (hc : aeval E c = some (.pv (.bool b))) (hv : aeval E (if b then x else y) = some v) : OpD P N o E H v H :=
  .of_run fun a w I ι hr he => by
    have hb := (aeval_rel he hc).bool_inv
    refine ⟨_, by simp [execOp, ho, hb, asBool]; rfl, ?_⟩
    cases b <;> exact aeval_rel he hv
theorem opd_pick_t {c x y : Operand} {v : AV} (ho : o.op = .pick c x y) (hc : aeval E c = some (.pv (.bool true))) (hv : aeval E x = some v) : OpD P N o E H v H :=
  opd_pick ho hc (by simpa using hv)
theorem opd_pick_f {c x y : Operand} {v : AV} (ho : o.op = .pick c x y) (hc : aeval E c = some (.pv (.bool false))) (hv : aeval E y = some v) : OpD P N o E H v H :=
  opd_pick ho hc (by simpa using hv)

theorem opd_not {t : TypeId} {x : Operand} {b : Bool} (ho : o.op = .unOp .not t x) (hx : aeval E x = some (.pv (.bool b))) : OpD P N o E H (.pv (.bool (!b))) H :=
  .of_run fun a w I ι hr he => by
    have hb := (aeval_rel he hx).bool_inv
    exact ⟨_, by simp [execOp, ho, hb, Op.unary], .pv (.bool _)⟩
section ints
variable {t t' : TypeId} {x y : Operand} {k : IntKind} {n m r : Int}
theorem run_int2 {op : BinOp} {a : Act} {w : World} (ho : o.op = .binOp op t x y t') (hx : a.eval x = .int k n) : (execOp a.eval o).run P w = ((binOp op t (.int k n) (a.eval y)).run P w).andThen fun v w => .ok (.value v) w := by
  simp only [execOp, ho, hx, eqGuard_at_int, Sem.run_bind, Sem.run_pure, Result.andThen_ok]
theorem opd_add (ho : o.op = .binOp .add t x y t') (hx : aeval E x = some (.pv (.int k n))) (hy : aeval E y = some (.pv (.int k m))) (hr : k.wrap (n + m) = r) : OpD P N o E H (.pv (.int k r)) H :=
  .of_run fun a w I ι _ he => by
    subst hr
    exact ⟨_, by rw [run_int2 ho (aeval_rel he hx).int_inv, (aeval_rel he hy).int_inv]; simp [binOp, Op.intArith], .pv (.int _ _)⟩
theorem opd_sub (ho : o.op = .binOp .sub t x y t') (hx : aeval E x = some (.pv (.int k n))) (hy : aeval E y = some (.pv (.int k m))) (hr : k.wrap (n - m) = r) : OpD P N o E H (.pv (.int k r)) H :=
  .of_run fun a w I ι _ he => by
    subst hr
    exact ⟨_, by rw [run_int2 ho (aeval_rel he hx).int_inv, (aeval_rel he hy).int_inv]; simp [binOp, Op.intArith], .pv (.int _ _)⟩
theorem opd_mul (ho : o.op = .binOp .mul t x y t') (hx : aeval E x = some (.pv (.int k n))) (hy : aeval E y = some (.pv (.int k m))) (hr : k.wrap (n * m) = r) : OpD P N o E H (.pv (.int k r)) H :=
  .of_run fun a w I ι _ he => by
    subst hr
    exact ⟨_, by rw [run_int2 ho (aeval_rel he hx).int_inv, (aeval_rel he hy).int_inv]; simp [binOp, Op.intArith], .pv (.int _ _)⟩
theorem opd_lss (ho : o.op = .binOp .lss t x y t') (hx : aeval E x = some (.pv (.int k n))) (hy : aeval E y = some (.pv (.int k m))) : OpD P N o E H (.pv (.bool (decide (n < m)))) H :=
  .of_run fun a w I ι _ he => ⟨_, by rw [run_int2 ho (aeval_rel he hx).int_inv, (aeval_rel he hy).int_inv]; simp [binOp, Op.intCmp], .pv (.bool _)⟩
theorem opd_leq (ho : o.op = .binOp .leq t x y t') (hx : aeval E x = some (.pv (.int k n))) (hy : aeval E y = some (.pv (.int k m))) : OpD P N o E H (.pv (.bool (decide (n ≤ m)))) H :=
  .of_run fun a w I ι _ he => ⟨_, by rw [run_int2 ho (aeval_rel he hx).int_inv, (aeval_rel he hy).int_inv]; simp [binOp, Op.intCmp], .pv (.bool _)⟩
theorem opd_gtr (ho : o.op = .binOp .gtr t x y t') (hx : aeval E x = some (.pv (.int k n))) (hy : aeval E y = some (.pv (.int k m))) : OpD P N o E H (.pv (.bool (decide (m < n)))) H :=
  .of_run fun a w I ι _ he => ⟨_, by rw [run_int2 ho (aeval_rel he hx).int_inv, (aeval_rel he hy).int_inv]; simp [binOp, Op.intCmp], .pv (.bool _)⟩
theorem opd_geq (ho : o.op = .binOp .geq t x y t') (hx : aeval E x = some (.pv (.int k n))) (hy : aeval E y = some (.pv (.int k m))) : OpD P N o E H (.pv (.bool (decide (m ≤ n)))) H :=
  .of_run fun a w I ι _ he => ⟨_, by rw [run_int2 ho (aeval_rel he hx).int_inv, (aeval_rel he hy).int_inv]; simp [binOp, Op.intCmp], .pv (.bool _)⟩
theorem opd_eql (ho : o.op = .binOp .eql t x y t') (hx : aeval E x = some (.pv (.int k n))) (hy : aeval E y = some (.pv (.int k m))) : OpD P N o E H (.pv (.bool (decide (n = m)))) H :=
  .of_run fun a w I ι _ he => ⟨.bool (decide (n = m)), by rw [run_int2 ho (aeval_rel he hx).int_inv, (aeval_rel he hy).int_inv]; simp [binOp, Op.intCmp]; by_cases h : n = m <;> simp [h], .pv (.bool _)⟩
theorem opd_neq (ho : o.op = .binOp .neq t x y t') (hx : aeval E x = some (.pv (.int k n))) (hy : aeval E y = some (.pv (.int k m))) : OpD P N o E H (.pv (.bool (!decide (n = m)))) H :=
  .of_run fun a w I ι _ he => ⟨.bool (!decide (n = m)), by rw [run_int2 ho (aeval_rel he hx).int_inv, (aeval_rel he hy).int_inv]; simp [binOp, Op.intCmp]; by_cases h : n = m <;> simp [h, bne], .pv (.bool _)⟩
end ints

section strings
variable {t t' : TypeId} {x y : Operand} {s u r : ByteArray}
theorem run_str2 {op : BinOp} {a : Act} {w : World} (ho : o.op = .binOp op t x y t') (hx : a.eval x = .string s) (hy : a.eval y = .string u) : (execOp a.eval o).run P w = ((Op.stringOp op s u).run P w).andThen fun v w => .ok (.value v) w := by
  simp only [execOp, ho, hx, hy, eqGuard_at_string, Sem.run_bind, Sem.run_pure, Result.andThen_ok]
  cases op <;> simp [binOp]
theorem list_beq (s u : ByteArray) : (s.toList == u.toList) = decide (s = u) := by
  rw [← beq_toListBytes]
  by_cases h : s = u
  · subst h
    have : (s == s) = true := by rw [beq_toListBytes]; simp
    simp [this]
  · have : (s == u) = false := by
      rw [beq_toListBytes, ByteArray.toList_eq, ByteArray.toList_eq]
      cases e : (s.data.toList == u.data.toList) with
      | false => rfl
      | true =>
        have h1 : s.data.toList = u.data.toList := by simpa using e
        exact absurd (by cases s; cases u; simp_all) h
    simp [this, h]
theorem opd_seql (ho : o.op = .binOp .eql t x y t') (hx : aeval E x = some (.pv (.str s))) (hy : aeval E y = some (.pv (.str u))) : OpD P N o E H (.pv (.bool (decide (s = u)))) H :=
  .of_run fun a w I ι _ he => ⟨_, by rw [run_str2 ho (aeval_rel he hx).str_inv (aeval_rel he hy).str_inv]; simp only [Op.stringOp, list_beq, Sem.run_pure, Result.andThen_ok], .pv (.bool _)⟩
theorem opd_sneq (ho : o.op = .binOp .neq t x y t') (hx : aeval E x = some (.pv (.str s))) (hy : aeval E y = some (.pv (.str u))) : OpD P N o E H (.pv (.bool (!decide (s = u)))) H :=
  .of_run fun a w I ι _ he => ⟨_, by rw [run_str2 ho (aeval_rel he hx).str_inv (aeval_rel he hy).str_inv]; simp only [Op.stringOp, list_beq, Sem.run_pure, Result.andThen_ok], .pv (.bool _)⟩
/-- Go's order of strings. -/
def slt (s u : ByteArray) : Bool := Op.bytesLess s.toList u.toList
theorem opd_sleq (ho : o.op = .binOp .leq t x y t') (hx : aeval E x = some (.pv (.str s))) (hy : aeval E y = some (.pv (.str u))) : OpD P N o E H (.pv (.bool (slt s u || decide (s = u)))) H :=
  .of_run fun a w I ι _ he => ⟨_, by rw [run_str2 ho (aeval_rel he hx).str_inv (aeval_rel he hy).str_inv]; simp only [Op.stringOp, list_beq, Sem.run_pure, Result.andThen_ok]; rfl, .pv (.bool _)⟩
end strings

section eqs
variable {t e : TypeId} {w : World}
theorem run_equalIn_pn (d : Nat) {p : Option Addr} (ht : P.underlying t = some (.pointer e)) : (Op.equalIn (d + 1) t (.pointer p) (.pointer none)).run P w = .ok p.isNone w := by
  cases p <;> simp [Op.equalIn, run_underlying ht]
theorem run_eql_pn {p : Option Addr} (ht : P.underlying t = some (.pointer e)) : (binOp .eql t (.pointer p) (.pointer none)).run P w = .ok (.bool p.isNone) w := by
  have h : (Op.equalIn (9999 + 1) t (.pointer p) (.pointer none)).run P w = .ok p.isNone w := run_equalIn_pn 9999 ht
  simp only [binOp]
  simp only [Op.equal, Op.maxDepth, Sem.run_bind, h, Result.andThen_ok, Sem.run_pure]
theorem run_neq_pn {p : Option Addr} (ht : P.underlying t = some (.pointer e)) : (binOp .neq t (.pointer p) (.pointer none)).run P w = .ok (.bool (!p.isNone)) w := by
  have h : (Op.equalIn (9999 + 1) t (.pointer p) (.pointer none)).run P w = .ok p.isNone w := run_equalIn_pn 9999 ht
  simp only [binOp]
  simp only [Op.equal, Op.maxDepth, Sem.run_bind, h, Result.andThen_ok, Sem.run_pure]
end eqs

section bools
variable {t t' : TypeId} {x y : Operand} {b c : Bool}
end bools

section ptrs
variable {t t' e : TypeId} {x y : Operand} {id g i k : Nat} {ob : Ob}
theorem ref_ptr {w : World} {I : Nat → Prop} {ι : Plc} {v : Value} (h : VRel w I ι H v (.ref id g i k)) (ho : H.get id = some ob) (hg : ob.g = g) : ∃ b cap, ι id = some (b, cap) ∧ v = .pointer (some ⟨b, i * ob.sz + k, none⟩) := by
  cases h with
  | ref o' h1 h2 _ h3 =>
    rw [ho] at h1; cases h1
    exact (h3 hg).2
theorem ref_sz {w : World} {I : Nat → Prop} {ι : Plc} {v : Value} {id g i k : Nat} {ob : Ob} (h : VRel w I ι H v (.ref id g i k)) (ho : H.get id = some ob) (hg : ob.g = g) : 0 < ob.sz := by
  cases h with
  | ref o' h1 h2 _ h3 =>
    rw [ho] at h1; cases h1
    exact (h3 hg).1
theorem opd_peq_ref (ho : o.op = .binOp .eql t x y t') (ht : P.underlying t = some (.pointer e)) (hx : aeval E x = some (.ref id g i k)) (hH : H.get id = some ob) (hg : ob.g = g) (hy : aeval E y = some (.pv .nilp)) : OpD P N o E H (.pv (.bool false)) H :=
  .of_run fun a w I ι _ he => ⟨.bool false, by
    obtain ⟨b, cap, _, e1⟩ := ref_ptr (aeval_rel he hx) hH hg
    have e2 := (aeval_rel he hy).nilp_inv
    simp only [execOp, ho, e1, e2, eqGuard_at_pointer, Sem.run_bind, Sem.run_pure, Result.andThen_ok, run_eql_pn ht, run_neq_pn ht]
    rfl, .pv (.bool _)⟩
theorem opd_peq_nil (ho : o.op = .binOp .eql t x y t') (ht : P.underlying t = some (.pointer e)) (hx : aeval E x = some (.pv .nilp)) (hy : aeval E y = some (.pv .nilp)) : OpD P N o E H (.pv (.bool true)) H :=
  .of_run fun a w I ι _ he => ⟨.bool true, by
    have e1 := (aeval_rel he hx).nilp_inv
    have e2 := (aeval_rel he hy).nilp_inv
    simp only [execOp, ho, e1, e2, eqGuard_at_pointer, Sem.run_bind, Sem.run_pure, Result.andThen_ok, run_eql_pn ht, run_neq_pn ht]
    rfl, .pv (.bool _)⟩
theorem opd_nilCheck_ref (ho : o.op = .nilCheck x) (hx : aeval E x = some (.ref id g i k)) (hH : H.get id = some ob) (hg : ob.g = g) : OpD P N o E H (.ref id g i k) H :=
  .of_run fun a w I ι _ he => by
    have hv := aeval_rel he hx
    obtain ⟨b, cap, _, e1⟩ := ref_ptr hv hH hg
    rw [e1] at hv
    exact ⟨_, by simp [execOp, ho, e1], hv⟩
end ptrs

theorem opd_extract {x : Operand} {vs : List AV} {n : Nat} {v : AV} (ho : o.op = .extract x n) (hx : aeval E x = some (.tup vs)) (hv : vs[n]? = some v) : OpD P N o E H v H :=
  .of_run fun a w I ι _ he => by
    have h := aeval_rel he hx
    generalize hc : a.eval x = c at h
    cases h with
    | @tup us _ hl hh =>
      have hn : n < us.size := by rw [hl]; exact (List.getElem?_eq_some_iff.1 hv).1
      have hu : us[n]? = some us[n] := Array.getElem?_eq_getElem hn
      exact ⟨us[n], by simp only [execOp, ho, hc]; simp [Instr.extract, hu], hh n _ v hu hv⟩

section calls
variable {x y : Operand} {T T2 e : TypeId}
theorem opd_len_str {s : ByteArray} (ho : o.op = .call { callee := .builtin .len, args := #[x], argTypes := #[T] }) (ht : P.underlying T = some .string) (hx : aeval E x = some (.pv (.str s))) : OpD P N o E H (.pv (.int .i64 s.size)) H :=
  .of_run fun a w I ι _ he => ⟨.int .i64 s.size, by
    have e1 := (aeval_rel he hx).str_inv
    simp [execOp, ho, resolve, invoke, builtin, e1, Builtin.len_, run_underlying ht, goInt], .pv (.int _ _)⟩
theorem sl_slice {w : World} {I : Nat → Prop} {ι : Plc} {v : Value} {rows : List (List PV)} (h : VRel w I ι H v (.pv (.sl rows))) : ∃ b cap, v = .slice b rows.length cap := by
  cases h with | pv h =>
  cases h with
  | nilsl => exact ⟨none, 0, rfl⟩
  | empsl a => exact ⟨some a, 0, rfl⟩
  | sl b off cap sz _ cs h1 h2 h3 h4 h5 h6 => exact ⟨_, cap, rfl⟩
theorem opd_len_sl {rows : List (List PV)} (ho : o.op = .call { callee := .builtin .len, args := #[x], argTypes := #[T] }) (ht : P.underlying T = some (.slice e)) (hx : aeval E x = some (.pv (.sl rows))) : OpD P N o E H (.pv (.int .i64 rows.length)) H :=
  .of_run fun a w I ι _ he => ⟨.int .i64 rows.length, by
    obtain ⟨b, cap, e1⟩ := sl_slice (aeval_rel he hx)
    simp [execOp, ho, resolve, invoke, builtin, e1, Builtin.len_, run_underlying ht, goInt], .pv (.int _ _)⟩
theorem osl_slice {w : World} {I : Nat → Prop} {ι : Plc} {v : Value} {id g off len : Nat} {ob : Ob} (h : VRel w I ι H v (.osl id g off len)) (hH : H.get id = some ob) (hg : ob.g = g) :
    off + len ≤ ob.rows.length ∧ ((∃ b cap oo, ι id = some (b, cap) ∧ v = .slice (some ⟨b, oo, none⟩) len (cap - off) ∧ (off < cap ∨ off = 0 → oo = off * ob.sz)) ∨ (ι id = none ∧ v = .slice none 0 0 ∧ off = 0 ∧ len = 0)) := by
  cases h with
  | osl o' h1 h2 _ h3 =>
    rw [hH] at h1; cases h1
    exact (h3 hg).2
theorem osl_sz {w : World} {I : Nat → Prop} {ι : Plc} {v : Value} {id g off len : Nat} {ob : Ob} (h : VRel w I ι H v (.osl id g off len)) (hH : H.get id = some ob) (hg : ob.g = g) : 0 < ob.sz := by
  cases h with
  | osl o' h1 h2 _ h3 =>
    rw [hH] at h1; cases h1
    exact (h3 hg).1
theorem opd_len_osl {id g off len : Nat} {ob : Ob} (ho : o.op = .call { callee := .builtin .len, args := #[x], argTypes := #[T] }) (ht : P.underlying T = some (.slice e)) (hx : aeval E x = some (.osl id g off len)) (hH : H.get id = some ob) (hg : ob.g = g) : OpD P N o E H (.pv (.int .i64 len)) H :=
  .of_run fun a w I ι _ he => ⟨.int .i64 len, by
    obtain ⟨_, ⟨b, cap, oo, _, e1, _⟩ | ⟨_, e1, _, e2⟩⟩ := osl_slice (aeval_rel he hx) hH hg
    · simp [execOp, ho, resolve, invoke, builtin, e1, Builtin.len_, run_underlying ht, goInt]
    · simp [execOp, ho, resolve, invoke, builtin, e1, e2, Builtin.len_, run_underlying ht, goInt], .pv (.int _ _)⟩
theorem opd_min {k : IntKind} {n m r : Int} (ho : o.op = .call { callee := .builtin .min, args := #[x, y], argTypes := #[T, T2] }) (hx : aeval E x = some (.pv (.int k n))) (hy : aeval E y = some (.pv (.int k m))) (hr : min n m = r) : OpD P N o E H (.pv (.int k r)) H :=
  .of_run fun a w I ι _ he => ⟨.int k r, by
    have e1 := (aeval_rel he hx).int_inv
    have e2 := (aeval_rel he hy).int_inv
    have e3 : (if m < n then m else n) = min n m := by rw [Int.min_def]; split <;> split <;> omega
    simp [execOp, ho, resolve, invoke, builtin, e1, e2, Builtin.min_, Builtin.min2, e3, hr], .pv (.int _ _)⟩
theorem opd_max {k : IntKind} {n m r : Int} (ho : o.op = .call { callee := .builtin .max, args := #[x, y], argTypes := #[T, T2] }) (hx : aeval E x = some (.pv (.int k n))) (hy : aeval E y = some (.pv (.int k m))) (hr : max n m = r) : OpD P N o E H (.pv (.int k r)) H :=
  .of_run fun a w I ι _ he => ⟨.int k r, by
    have e1 := (aeval_rel he hx).int_inv
    have e2 := (aeval_rel he hy).int_inv
    have e3 : (if n < m then m else n) = max n m := by rw [Int.max_def]; split <;> split <;> omega
    have e4 : (if m > n then m else n) = max n m := e3
    simp [execOp, ho, resolve, invoke, builtin, e1, e2, Builtin.max_, Builtin.max2, e3, e4, hr], .pv (.int _ _)⟩
end calls

theorem opd_conv_int {S T : TypeId} {x : Operand} {k k' : IntKind} {n r : Int} {ds : TypeDesc} (ho : o.op = .convert S T x) (hS : P.underlying S = some ds) (hT : P.underlying T = some (.int k')) (hx : aeval E x = some (.pv (.int k n))) (hr : k'.wrap n = r) : OpD P N o E H (.pv (.int k' r)) H :=
  .of_run fun a w I ι _ he => ⟨.int k' r, by
    have e1 := (aeval_rel he hx).int_inv
    subst hr
    simp [execOp, ho, e1, convert, run_underlying hS, run_underlying hT, Conv.intToInt], .pv (.int _ _)⟩
theorem opd_makeFunc {f : FuncId} {caps : Array Operand} {vs : List AV} (ho : o.op = .makeFunc (.func f) #[] caps) (hv : caps.toList.mapM (aeval E) = some vs) : OpD P N o E H (.clo f vs) H :=
  .of_run fun a w I ι _ he => by
    refine ⟨.func (.func f) #[] (caps.map a.eval), by simp [execOp, ho, Instr.makeFunc], ?_⟩
    have key : ∀ (l : List Operand) (vs : List AV), l.mapM (aeval E) = some vs → l.length = vs.length ∧ ∀ (i : Nat) (v : Value) (b : AV), (l.map a.eval)[i]? = some v → vs[i]? = some b → VRel w I ι H v b := by
      intro l
      induction l with
      | nil => intro vs h; simp at h; subst h; simp
      | cons x l ih =>
        intro vs h
        simp only [List.mapM_cons, Option.pure_def, Option.bind_eq_bind, Option.bind_eq_some_iff, Option.some.injEq] at h
        obtain ⟨v0, h0, vs0, h1, rfl⟩ := h
        obtain ⟨l1, l2⟩ := ih vs0 h1
        refine ⟨by simp [l1], ?_⟩
        intro i v b hv hb
        cases i with
        | zero => simp at hv hb; subst hv hb; exact aeval_rel he h0
        | succ i => simp at hv hb; exact l2 i v b (by simpa using hv) hb
    obtain ⟨h1, h2⟩ := key caps.toList vs hv
    exact .clo (by simpa using h1) (fun i v b hv hb => h2 i v b (by simpa using hv) hb)
end
end Go.Abs
end
section
set_option linter.unusedVariables false
set_option linter.unusedSimpArgs false
namespace Go.Abs

/-- What stands from an address on. -/
def PtrCells (w : World) (I : Nat → Prop) (ι : Plc) (H : Heap) (v : Value) (xs : List AV) : Prop :=
  ∃ b o, v = .pointer (some ⟨b, o, none⟩) ∧ ∀ (j : Nat) (a : AV), xs[j]? = some a → ∃ c, w.cell? ⟨b, o + j, none⟩ = some c ∧ c.oneCell' = true ∧ VRel w I ι H c a

section
variable {w : World} {I : Nat → Prop} {ι : Plc} {H : Heap} {v : Value}

theorem ref_cells {id g i k : Nat} {ob : Ob} {r : List AV} (hr : Rel I ι H w) (h : VRel w I ι H v (.ref id g i k)) (hH : H.get id = some ob) (hg : ob.g = g) (hi : ob.rows[i]? = some r) :
    PtrCells w I ι H v (r.drop k) := by
  obtain ⟨b, cap, h1, h2⟩ := ref_ptr h hH hg
  obtain ⟨_, _, ⟨b', cap', cs, e1, e2, e3, e4, e5, e6, e7⟩ | ⟨e1, _⟩⟩ := (hr.obj id ob hH).cells (ref_sz h hH hg)
  · rw [h1] at e1; cases e1
    refine ⟨b, i * ob.sz + k, h2, fun j a hj => ?_⟩
    rw [List.getElem?_drop] at hj
    obtain ⟨c, c1, c2, c3⟩ := e7 i r hi (k + j) a hj
    refine ⟨c, ?_, c2, c3⟩
    rw [cell_of_row w b _ cs ob.ty (0, 0) e2, Nat.add_assoc]
    exact c1
  · rw [h1] at e1; cases e1

theorem pad_cells {rows : List (List PV)} {i k : Nat} {r : List PV} (h : VRel w I ι H v (.pad rows i k)) (hi : rows[i]? = some r) : PtrCells w I ι H v ((r.drop k).map .pv) := by
  cases h with
  | pad b off cap sz _ hsz hlen cs hb hc hp =>
    refine ⟨b, off + i * sz + k, rfl, fun j a hj => ?_⟩
    rw [List.getElem?_map, List.getElem?_drop] at hj
    cases e : r[k + j]? with
    | none => rw [e] at hj; cases hj
    | some p =>
      rw [e] at hj
      cases hj
      have h1 := hc i r hi (k + j) p e
      have h2 := hp i r hi (k + j) p e
      exact ⟨_, by rw [Nat.add_assoc]; exact h1, h2.oneCell, .pv h2⟩

theorem load1 {P : Program} {T : TypeId} {xs : List AV} {a : AV} (hp : PtrCells w I ι H v xs) (ha : ∀ w, (isAgg T).run P w = .ok false w) (h : xs[0]? = some a) :
    ∃ c, (Instr.loadAt T v).run P w = .ok c w ∧ VRel w I ι H c a := by
  obtain ⟨b, o, rfl, hc⟩ := hp
  obtain ⟨c, h1, _, h3⟩ := hc 0 a h
  refine ⟨c, ?_, h3⟩
  simp only [Nat.add_zero] at h1
  simp [Instr.loadAt, Instr.sureAddr, loadVar, ha, h1]
theorem loadn {P : Program} {T : TypeId} {n : Nat} {xs cs : List AV} (hp : PtrCells w I ι H v xs) (ha : ∀ w, (isAgg T).run P w = .ok true w) (hs : ∀ w, (sizeOf T).run P w = .ok n w) (hcs : xs.take n = cs) (hl : cs.length = n) :
    ∃ c, (Instr.loadAt T v).run P w = .ok c w ∧ VRel w I ι H c (.agg cs) := by
  obtain ⟨b, o, rfl, hc⟩ := hp
  have hex : ∀ j, j < n → ∃ c, w.cell? ⟨b, o + j, none⟩ = some c ∧ c.oneCell' = true ∧ ∀ a, cs[j]? = some a → VRel w I ι H c a := by
    intro j hj
    have hjl : j < cs.length := by omega
    have e : xs[j]? = some cs[j] := by
      have h1 : cs[j]? = some cs[j] := List.getElem?_eq_getElem hjl
      have h2 : (xs.take n)[j]? = some cs[j] := by rw [hcs]; exact h1
      rw [List.getElem?_take, if_pos hj] at h2
      exact h2
    obtain ⟨c, h1, h2, h3⟩ := hc j _ e
    refine ⟨c, h1, h2, fun a ha => ?_⟩
    rw [List.getElem?_eq_getElem hjl] at ha
    cases ha
    exact h3
  let f : Nat → Value := fun j => if h : j < n then (hex j h).choose else undef
  have hf : ∀ j (h : j < n), w.cell? ⟨b, o + j, none⟩ = some (f j) ∧ (f j).oneCell' = true ∧ ∀ a, cs[j]? = some a → VRel w I ι H (f j) a := by
    intro j h
    simp only [f, h, dif_pos]
    exact (hex j h).choose_spec
  let l : List Value := (List.range n).map f
  have hll : l.length = n := by simp [l]
  have hlj : ∀ j u, l[j]? = some u → j < n ∧ u = f j := by
    intro j u hu
    simp only [l, List.getElem?_map] at hu
    by_cases hj : j < n
    · rw [List.getElem?_range hj] at hu
      cases hu
      exact ⟨hj, rfl⟩
    · rw [List.getElem?_eq_none (by simp; omega)] at hu
      cases hu
  have hload : (loadCells ⟨b, o, none⟩ n).run P w = .ok l.toArray w := by
    have := run_loadCells_list (P := P) w ⟨b, o, none⟩ l (fun j u hu => by
      obtain ⟨hj, rfl⟩ := hlj j u hu
      rw [Addr.add_lit]
      exact (hf j hj).1)
    rwa [hll] at this
  refine ⟨.agg l.toArray, by simp [Instr.loadAt, Instr.sureAddr, loadVar, ha, hs, hload], .agg (by simp [hll, hl]) ?_ ?_⟩
  · intro j u hu
    obtain ⟨hj, rfl⟩ := hlj j u (by simpa using hu)
    exact (hf j hj).2.1
  · intro j u a hu hca
    obtain ⟨hj, rfl⟩ := hlj j u (by simpa using hu)
    exact (hf j hj).2.2 a hca
end

section
variable {P : Program} {N : Nat} {o : Oper} {E : Env} {H : Heap} {T : TypeId} {x y : Operand}

theorem opd_load_cells {xs : List AV} {v : AV} (ho : o.op = .load T x)
    (hp : ∀ (a : Act) (w : World) (I : Nat → Prop) (ι : Plc), Rel I ι H w → ERel w I ι H E a → ∃ c, (Instr.loadAt T (a.eval x)).run P w = .ok c w ∧ VRel w I ι H c v) : OpD P N o E H v H :=
  .of_run fun a w I ι hr he => by
    obtain ⟨c, h1, h2⟩ := hp a w I ι hr he
    exact ⟨c, by simp [execOp, ho, h1], h2⟩
theorem opd_load1_ref {id g i k : Nat} {ob : Ob} {r : List AV} {v : AV} (ho : o.op = .load T x) (ha : ∀ w, (isAgg T).run P w = .ok false w) (hx : aeval E x = some (.ref id g i k)) (hH : H.get id = some ob) (hg : ob.g = g)
    (hi : ob.rows[i]? = some r) (hk : r[k]? = some v) : OpD P N o E H v H :=
  opd_load_cells (xs := r.drop k) ho fun a w I ι hr he => load1 (ref_cells hr (aeval_rel he hx) hH hg hi) ha (by simpa using hk)
theorem opd_load1_pad {rows : List (List PV)} {i k : Nat} {r : List PV} {p : PV} (ho : o.op = .load T x) (ha : ∀ w, (isAgg T).run P w = .ok false w) (hx : aeval E x = some (.pad rows i k)) (hi : rows[i]? = some r) (hk : r[k]? = some p) : OpD P N o E H (.pv p) H :=
  opd_load_cells (xs := (r.drop k).map .pv) ho fun a w I ι hr he => load1 (pad_cells (aeval_rel he hx) hi) ha (by simp [hk])
theorem opd_loadn_ref {n id g i k : Nat} {ob : Ob} {r cs : List AV} (ho : o.op = .load T x) (ha : ∀ w, (isAgg T).run P w = .ok true w) (hs : ∀ w, (sizeOf T).run P w = .ok n w) (hx : aeval E x = some (.ref id g i k)) (hH : H.get id = some ob) (hg : ob.g = g)
    (hi : ob.rows[i]? = some r) (hk : (r.drop k).take n = cs) (hl : cs.length = n) : OpD P N o E H (.agg cs) H :=
  opd_load_cells (xs := r.drop k) ho fun a w I ι hr he => loadn (ref_cells hr (aeval_rel he hx) hH hg hi) ha hs hk hl
theorem opd_loadn_pad {n : Nat} {rows : List (List PV)} {i k : Nat} {r : List PV} {cs : List AV} (ho : o.op = .load T x) (ha : ∀ w, (isAgg T).run P w = .ok true w) (hs : ∀ w, (sizeOf T).run P w = .ok n w) (hx : aeval E x = some (.pad rows i k)) (hi : rows[i]? = some r)
    (hk : ((r.drop k).map AV.pv).take n = cs) (hl : cs.length = n) : OpD P N o E H (.agg cs) H :=
  opd_load_cells (xs := (r.drop k).map .pv) ho fun a w I ι hr he => loadn (pad_cells (aeval_rel he hx) hi) ha hs hk hl

/-- A field of a struct: where it lies. -/
def FieldOf (P : Program) (S f off : Nat) : Prop := ∃ fs fd n, P.underlying S = some (.struct fs) ∧ fs[f]? = some fd ∧ fd.offset = off ∧ ∀ w, (sizeOf fd.type).run P w = .ok (n + 1) w
/-- The address of a field. -/
theorem opd_field_ref {S off : TypeId} {id g i k k2 f : Nat} {ob : Ob} (ho : o.op = .fieldAddr S x f) (hF : FieldOf P S f off)
    (hx : aeval E x = some (.ref id g i k)) (hH : H.get id = some ob) (hg : ob.g = g) (hk : k + off = k2) : OpD P N o E H (.ref id g i k2) H :=
  .of_run fun a w I ι hr he => by
    obtain ⟨fs, fd, n, hS, hf, hoff, hs⟩ := hF
    have h := aeval_rel he hx
    generalize hc : a.eval x = c at h
    subst hk hoff
    obtain ⟨b, cap, h1, rfl⟩ := ref_ptr h hH hg
    refine ⟨.pointer (some ⟨b, i * ob.sz + (k + fd.offset), none⟩), ?_, .ref ob hH (by omega) rfl fun _ => ⟨ref_sz h hH hg, b, cap, h1, rfl⟩⟩
    simp only [execOp, ho, hc]
    simp [Instr.fieldAt, run_underlying hS, hf, Instr.sureAddr, fieldPlace, hs, Addr.add_lit, Nat.add_assoc]
theorem opd_field_pad {S off : TypeId} {rows : List (List PV)} {i k k2 f : Nat} (ho : o.op = .fieldAddr S x f) (hF : FieldOf P S f off)
    (hx : aeval E x = some (.pad rows i k)) (hk : k + off = k2) : OpD P N o E H (.pad rows i k2) H :=
  .of_run fun a w I ι hr he => by
    obtain ⟨fs, fd, n, hS, hf, hoff, hs⟩ := hF
    have h := aeval_rel he hx
    generalize hc : a.eval x = c at h
    subst hk hoff
    cases h with
    | pad b off cap sz h0 hsz hlen cs hb hcc hp =>
      refine ⟨.pointer (some ⟨b, off + i * sz + (k + fd.offset), none⟩), ?_, .pad b off cap sz h0 hsz hlen cs hb hcc hp⟩
      simp only [execOp, ho, hc]
      simp [Instr.fieldAt, run_underlying hS, hf, Instr.sureAddr, fieldPlace, hs, Addr.add_lit, Nat.add_assoc]

/-- The address of an element. -/
theorem opd_index_pad {e : TypeId} {rows : List (List PV)} {r : List PV} {kk : IntKind} {n : Int} {m sz : Nat} (ho : o.op = .indexAddr T x y) (hT : P.underlying T = some (.slice e)) (hs : ∀ w, (sizeOf e).run P w = .ok sz w)
    (hx : aeval E x = some (.pv (.sl rows))) (hy : aeval E y = some (.pv (.int kk n))) (h0 : 0 ≤ n) (hm : n.toNat = m) (hi : rows[m]? = some r) (hl : r.length = sz) : OpD P N o E H (.pad rows m 0) H :=
  .of_run fun a w I ι hr he => by
    have h := aeval_rel he hx
    have hn := (aeval_rel he hy).int_inv
    have hlt : m < rows.length := (List.getElem?_eq_some_iff.1 hi).1
    have hmem : r ∈ rows := List.mem_of_getElem? hi
    generalize hc : a.eval x = c at h
    have hp := h.pv_inv
    cases hp with
    | nilsl => simp at hlt
    | empsl a => simp at hlt
    | sl b off cap sz' _ cs hb hsz hlen hcap hcc hpp =>
      have hsz' : sz' = sz := by rw [← hlen r hmem, hl]
      subst hsz'
      refine ⟨.pointer (some ⟨b, off + m * sz' + 0, none⟩), ?_, .pad b off cap sz' (.sl b off cap sz' rows cs hb hsz hlen hcap hcc hpp) hsz hlen cs hb hcc hpp⟩
      simp only [execOp, ho, hc, hn]
      have h1 : n < (rows.length : Int) := by omega
      simp [Instr.indexAt, run_underlying hT, asIntOf, h0, h1, hs, hm, Addr.add_lit]
theorem opd_index_osl {e : TypeId} {kk : IntKind} {n : Int} {m m2 sz id g off len : Nat} {ob : Ob} (ho : o.op = .indexAddr T x y) (hT : P.underlying T = some (.slice e)) (hs : ∀ w, (sizeOf e).run P w = .ok sz w)
    (hx : aeval E x = some (.osl id g off len)) (hH : H.get id = some ob) (hg : ob.g = g) (hsz : ob.sz = sz) (hy : aeval E y = some (.pv (.int kk n))) (h0 : 0 ≤ n) (hm : n.toNat = m) (hi : m < len) (hm2 : off + m = m2) : OpD P N o E H (.ref id g m2 0) H :=
  .of_run fun a w I ι hr he => by
    have h := aeval_rel he hx
    have hn := (aeval_rel he hy).int_inv
    obtain ⟨h1, ⟨b, cap, oo, h2, h3, h4⟩ | ⟨_, _, _, h2⟩⟩ := osl_slice h hH hg
    · have hcap : off < cap := by
        obtain ⟨_, _, ⟨b', cap', cs, e1, e2, e3, e4, e5, e6, e7⟩ | ⟨e1, _⟩⟩ := (hr.obj id ob hH).cells (osl_sz h hH hg)
        · rw [h2] at e1; cases e1; omega
        · rw [h2] at e1; cases e1
      have hoo := h4 (.inl hcap)
      subst hoo hsz hm2
      refine ⟨.pointer (some ⟨b, (off + m) * ob.sz + 0, none⟩), ?_, .ref ob hH (by omega) rfl fun _ => ⟨osl_sz h hH hg, b, cap, h2, rfl⟩⟩
      simp only [execOp, ho, h3, hn]
      have h5 : n < (len : Int) := by omega
      simp [Instr.indexAt, run_underlying hT, asIntOf, h0, h5, hs, hm, Addr.add_lit, Nat.add_mul]
    · omega
theorem opd_index_arr {e : TypeId} {kk : IntKind} {n : Int} {m sz cnt id g i k k2 : Nat} {ob : Ob} (ho : o.op = .indexAddr T x y) (hT : P.underlying T = some (.array cnt e)) (hs : ∀ w, (sizeOf e).run P w = .ok sz w)
    (hx : aeval E x = some (.ref id g i k)) (hH : H.get id = some ob) (hg : ob.g = g) (hy : aeval E y = some (.pv (.int kk n))) (h0 : 0 ≤ n) (hm : n.toNat = m) (hi : m < cnt) (hk : k + m * sz = k2) : OpD P N o E H (.ref id g i k2) H :=
  .of_run fun a w I ι hr he => by
    have h := aeval_rel he hx
    have hn := (aeval_rel he hy).int_inv
    obtain ⟨b, cap, h1, h3⟩ := ref_ptr h hH hg
    subst hk
    refine ⟨.pointer (some ⟨b, i * ob.sz + (k + m * sz), none⟩), ?_, .ref ob hH (by omega) rfl fun _ => ⟨ref_sz h hH hg, b, cap, h1, rfl⟩⟩
    simp only [execOp, ho, h3, hn]
    have h5 : n < (cnt : Int) := by omega
    simp [Instr.indexAt, run_underlying hT, Instr.sureAddr, asIntOf, h0, h5, hs, hm, Addr.add_lit, Nat.add_assoc]

/-- The byte of a string. -/
def byteAt (s : ByteArray) (m : Nat) : Int := ((s.data.toList[m]?).getD 0).toNat
theorem opd_index_str {kk : IntKind} {n : Int} {m : Nat} {s : ByteArray} {r : Int} (ho : o.op = .index T x y) (hT : P.underlying T = some .string) (hx : aeval E x = some (.pv (.str s))) (hy : aeval E y = some (.pv (.int kk n))) (h0 : 0 ≤ n) (hm : n.toNat = m) (hi : m < s.size) (hr : byteAt s m = r) :
    OpD P N o E H (.pv (.int .u8 r)) H :=
  .of_run fun a w I ι _ he => ⟨.int .u8 r, by
    have e1 := (aeval_rel he hx).str_inv
    have e2 := (aeval_rel he hy).int_inv
    have hb : s[m]? = some (s.data.toList[m]'(by simpa using hi)) := by
      rw [getElem?_pos s m hi]; rfl
    have hb2 : byteAt s m = ((s.data.toList[m]'(by simpa using hi)).toNat : Int) := by
      unfold byteAt
      rw [List.getElem?_eq_getElem (by simpa using hi)]
      rfl
    rw [← hr, hb2]
    simp only [execOp, ho, e1, e2]
    simp [Instr.index, run_underlying hT, asIntOf, h0, hm, hb], .pv (.int _ _)⟩

/-! ### slices of slices and strings -/
def bnd (E : Env) : Option Operand → Nat → Option Int
  | none, d => some (d : Int)
  | some x, _ => match aeval E x with
    | some (.pv (.int _ n)) => some n
    | _ => none
theorem PRep.cut {w : World} {I : Nat → Prop} {b off cap sz l h : Nat} {rows : List (List PV)} {cs : Nat → Nat → Value} (hI : I b) (hsz : 0 < sz) (hlen : ∀ r ∈ rows, r.length = sz) (hcap : rows.length ≤ cap)
    (hc : ∀ (i : Nat) (r : List PV), rows[i]? = some r → ∀ (k : Nat) (p : PV), r[k]? = some p → w.cell? ⟨b, off + i * sz + k, none⟩ = some (cs i k))
    (hp : ∀ (i : Nat) (r : List PV), rows[i]? = some r → ∀ (k : Nat) (p : PV), r[k]? = some p → PRep w I (cs i k) p) (h1 : l ≤ h) (h2 : h ≤ rows.length) :
    PRep w I (.slice (some (if cap = l then ⟨b, off, none⟩ else (⟨b, off, none⟩ : Addr).add (l * sz))) (h - l) (cap - l)) (.sl ((rows.take h).drop l)) := by
  have hln : ((rows.take h).drop l).length = h - l := by simp; omega
  have hget : ∀ i r, ((rows.take h).drop l)[i]? = some r → rows[l + i]? = some r := by
    intro i r hr
    rw [List.getElem?_drop, List.getElem?_take] at hr
    split at hr
    · exact hr
    · cases hr
  by_cases e : cap = l
  · have hnil : (rows.take h).drop l = [] := List.eq_nil_of_length_eq_zero (by rw [hln]; omega)
    rw [if_pos e, hnil]
    have h0 : h - l = ([] : List (List PV)).length := by simp; omega
    rw [h0]
    exact .sl b off (cap - l) sz [] cs hI hsz (by simp) (by simp) (by simp) (by simp)
  · rw [if_neg e, Addr.add_lit, ← hln]
    refine .sl b (off + l * sz) (cap - l) sz _ (fun i k => cs (l + i) k) hI hsz (fun r hr => hlen r (List.mem_of_mem_take (List.mem_of_mem_drop hr))) (by rw [hln]; omega) ?_ ?_
    · intro i r hr k p hk
      have := hc (l + i) r (hget i r hr) k p hk
      rw [show off + l * sz + i * sz + k = off + (l + i) * sz + k by rw [Nat.add_mul]; omega]
      exact this
    · intro i r hr k p hk
      exact hp (l + i) r (hget i r hr) k p hk

end
end Go.Abs
end
section
set_option linter.unusedVariables false
set_option linter.unusedSimpArgs false
namespace Go.Abs

theorem frozen_setRow (w : World) (b : Nat) (cs0 cs : Array Value) (t : TypeId) (hb : w.heap[b]? = some (.cells cs0 t (0, 0))) (a : Addr) : (w.setRow b cs).frozen? a = w.frozen? a := by
  by_cases h : a.block = b
  · subst h
    simp [World.frozen?, setRow_heap w a.block cs0 cs t (0, 0) hb, hb]
  · simp [World.frozen?, setRow_other w b a.block cs h]

section
variable {I : Nat → Prop} {ι : Plc} {H H' : Heap} {w : World} {id b cap : Nat} {ob ob' : Ob} {cs0 cs' : Array Value}

/-- An object's own block is written anew. -/
theorem Rel.update (hr : Rel I ι H w) (hH : H.get id = some ob) (hι : ι id = some (b, cap)) (hb : w.heap[b]? = some (.cells cs0 ob.ty (0, 0))) (hg : ob.g ≤ ob'.g) (hsz : ob'.sz = ob.sz) (hty : ob'.ty = ob.ty)
    (hlen : ob'.g = ob.g → ob.rows.length ≤ ob'.rows.length) (hcs : cs'.size = cap * ob.sz) (hcap : ob'.rows.length ≤ cap) (hrl : ∀ r ∈ ob'.rows, r.length = ob.sz)
    (hcells : ∀ (i : Nat) (r : List AV), ob'.rows[i]? = some r → ∀ (k : Nat) (a : AV), r[k]? = some a → ∃ v, cs'[i * ob.sz + k]? = some v ∧ v.oneCell' = true ∧ VRel w I ι H v a)
    (h1 : H'.get id = some ob') (h2 : ∀ j, j ≠ id → H'.get j = H.get j) : Rel I ι H' (w.setRow b cs') ∧ Step I ι H w I ι H' (w.setRow b cs') := by
  have hown : Own ι H b := ⟨id, ob, cap, hH, hι⟩
  have hst : Step I ι H w I ι H' (w.setRow b cs') := by
    refine ⟨rfl, rfl, rfl, by simp, fun a _ => frozen_setRow w b cs0 cs' _ hb a, fun _ h => h, fun _ h => .inl h, ?_, ?_, ?_⟩
    · rintro x ⟨j, o, c, hj, hc⟩
      by_cases e : j = id
      · subst e; exact .inl ⟨j, ob, c, hH, hc⟩
      · exact .inl ⟨j, o, c, (h2 j e).symm.trans hj, hc⟩
    · intro x _ hx
      exact setRow_other w b x cs' (fun e => hx (e ▸ hown))
    · intro j o hj
      by_cases e : j = id
      · subst e
        rw [hH] at hj; cases hj
        exact ⟨ob', h1, hg, fun e => ⟨rfl, hsz, fun _ => hlen e⟩⟩
      · exact ⟨o, (h2 j e).trans hj, Nat.le_refl _, fun _ => ⟨rfl, rfl, fun _ => Nat.le_refl _⟩⟩
  refine ⟨⟨fun x hx => by simpa using hr.imm x hx, ?_, ?_⟩, hst⟩
  · intro j o hj
    by_cases e : j = id
    · subst e
      rw [h1] at hj; cases hj
      obtain ⟨p1, p2, ⟨b', cap', cs, e1, e2, e3, e4, e5, e5', e6⟩ | ⟨e1, _⟩⟩ := (hr.obj j ob hH).cells ((hr.obj j ob hH).pos hι hb)
      · rw [hι] at e1; cases e1
        refine .inl ⟨by rw [hsz]; exact p1, by rw [hsz]; exact hrl, .inl ⟨b, cap, cs', hι, ?_, e3, by rw [hsz]; exact hcs, hcap, e5', ?_⟩⟩
        · rw [hty]; exact setRow_heap w b cs0 cs' ob.ty (0, 0) hb
        · intro i r hi k a hk
          obtain ⟨v, q1, q2, q3⟩ := hcells i r hi k a hk
          exact ⟨v, by rw [hsz]; exact q1, q2, q3.mono hr hst⟩
      · rw [hι] at e1; cases e1
    · rw [h2 j e] at hj
      exact (hr.obj j o hj).keep rfl (fun x c hx _ => ⟨setRow_other w b x cs' (fun hbb => e (hr.inj j id o ob b c cap hj hH (hbb ▸ hx) hι)), fun h => h⟩) (fun r _ a _ v hv => hv.mono hr hst)
  · intro j j' o o' x c c' hj hj' hc hc'
    have key : ∀ j o, H'.get j = some o → ∃ o, H.get j = some o := by
      intro j o hj
      by_cases e : j = id
      · exact ⟨ob, e ▸ hH⟩
      · exact ⟨o, (h2 j e).symm.trans hj⟩
    obtain ⟨q, hq⟩ := key j o hj
    obtain ⟨q', hq'⟩ := key j' o' hj'
    exact hr.inj j j' q q' x c c' hq hq' hc hc'

/-- An object gets a new block. -/
theorem Rel.place {w' : World} (hr : Rel I ι H w) (hos : w'.os = w.os) (htape : w'.tape = w.tape) (hout : w'.output = w.output) (hw : w'.heap = w.heap.push (.cells cs' ob'.ty (0, 0)))
    (hold : ∀ o, H.get id = some o → o.g < ob'.g) (hsz : 0 < ob'.sz) (hcs : cs'.size = cap * ob'.sz) (hcap : ob'.rows.length ≤ cap) (hmax : cap ≤ maxLen) (hrl : ∀ r ∈ ob'.rows, r.length = ob'.sz)
    (hcells : ∀ (i : Nat) (r : List AV), ob'.rows[i]? = some r → ∀ (k : Nat) (a : AV), r[k]? = some a → ∃ v, cs'[i * ob'.sz + k]? = some v ∧ v.oneCell' = true ∧ VRel w I ι H v a)
    (h1 : H'.get id = some ob') (h2 : ∀ j, j ≠ id → H'.get j = H.get j) :
    Rel I (fun j => if j = id then some (w.heap.size, cap) else ι j) H' w' ∧ Step I ι H w I (fun j => if j = id then some (w.heap.size, cap) else ι j) H' w' := by
  have hnew : w'.heap[w.heap.size]? = some (.cells cs' ob'.ty (0, 0)) := by rw [hw]; simp
  have holdb : ∀ x, x < w.heap.size → w'.heap[x]? = w.heap[x]? := fun x hx => by rw [hw, Array.getElem?_push, if_neg (Nat.ne_of_lt hx)]
  have hsize : w'.heap.size = w.heap.size + 1 := by rw [hw]; simp
  have hst : Step I ι H w I (fun j => if j = id then some (w.heap.size, cap) else ι j) H' w' := by
    refine ⟨hos, htape, hout, by omega, fun a ha => ?_, fun _ h => h, fun _ h => .inl h, ?_, fun x hx _ => holdb x hx, ?_⟩
    · simp [World.frozen?, holdb a.block ha]
    · rintro x ⟨j, o, c, hj, hc⟩
      by_cases e : j = id
      · simp only [e, if_true] at hc; cases hc; exact .inr (Nat.le_refl _)
      · simp only [e, if_false] at hc; exact .inl ⟨j, o, c, (h2 j e).symm.trans hj, hc⟩
    · intro j o hj
      by_cases e : j = id
      · subst e
        have := hold o hj
        exact ⟨ob', h1, by omega, fun e => by omega⟩
      · exact ⟨o, (h2 j e).trans hj, Nat.le_refl _, fun _ => ⟨by simp [e], rfl, fun _ => Nat.le_refl _⟩⟩
  refine ⟨⟨fun x hx => by have := hr.imm x hx; omega, ?_, ?_⟩, hst⟩
  · intro j o hj
    by_cases e : j = id
    · subst e
      rw [h1] at hj; cases hj
      refine .inl ⟨hsz, hrl, .inl ⟨w.heap.size, cap, cs', by simp, hnew, fun hi => Nat.lt_irrefl _ (hr.imm _ hi), hcs, hcap, hmax, fun i r hi k a hk => ?_⟩⟩
      obtain ⟨v, q1, q2, q3⟩ := hcells i r hi k a hk
      exact ⟨v, q1, q2, q3.mono hr hst⟩
    · rw [h2 j e] at hj
      exact (hr.obj j o hj).keep (by simp [e]) (fun x c _ hx => ⟨holdb x hx, fun h => h⟩) (fun r _ a _ v hv => hv.mono hr hst)
  · intro j j' o o' x c c' hj hj' hc hc'
    by_cases e : j = id <;> by_cases e' : j' = id
    · rw [e, e']
    · simp only [e, if_true] at hc
      simp only [e', if_false] at hc'
      cases hc
      have := hr.lt ⟨j', o', c', (h2 j' e').symm.trans hj', hc'⟩
      exact absurd this (Nat.lt_irrefl _)
    · simp only [e, if_false] at hc
      simp only [e', if_true] at hc'
      cases hc'
      have := hr.lt ⟨j, o, c, (h2 j e).symm.trans hj, hc⟩
      exact absurd this (Nat.lt_irrefl _)
    · simp only [e, if_false] at hc
      simp only [e', if_false] at hc'
      exact hr.inj j j' o o' x c c' ((h2 j e).symm.trans hj) ((h2 j' e').symm.trans hj') hc hc'

/-- The heap of the world is as it was (draws). -/
theorem Rel.drawn {w' : World} (hr : Rel I ι H w) (hos : w'.os = w.os) (htape : w'.tape = w.tape) (hout : w'.output = w.output) (hw : w'.heap = w.heap) : Rel I ι H w' ∧ Step I ι H w I ι H w' := by
  have hst : Step I ι H w I ι H w' := ⟨hos, htape, hout, by rw [hw]; exact Nat.le_refl _, fun a _ => by simp [World.frozen?, hw], fun _ h => h, fun _ h => .inl h, fun _ h => .inl h, fun x _ _ => by rw [hw], fun _ o h => ⟨o, h, Nat.le_refl _, fun _ => ⟨rfl, rfl, fun _ => Nat.le_refl _⟩⟩⟩
  refine ⟨⟨fun x hx => by rw [hw]; exact hr.imm x hx, fun j o hj => ?_, hr.inj⟩, hst⟩
  exact (hr.obj j o hj).keep rfl (fun x c _ _ => ⟨by rw [hw], fun h => h⟩) (fun r _ a _ v hv => hv.mono hr hst)

/-- Only the generation of an object goes up, or an object that is nowhere is added. -/
theorem Rel.tick (hr : Rel I ι H w) (hH : H.get id = some ob) (hg : ob.g < ob'.g) (hsz : ob'.sz = ob.sz) (hty : ob'.ty = ob.ty) (hrows : ob'.rows = ob.rows)
    (h1 : H'.get id = some ob') (h2 : ∀ j, j ≠ id → H'.get j = H.get j) : Rel I ι H' w ∧ Step I ι H w I ι H' w := by
  have hst : Step I ι H w I ι H' w := by
    refine ⟨rfl, rfl, rfl, Nat.le_refl _, fun a _ => rfl, fun _ h => h, fun _ h => .inl h, ?_, fun _ _ _ => rfl, ?_⟩
    · rintro x ⟨j, o, c, hj, hc⟩
      by_cases e : j = id
      · subst e; exact .inl ⟨j, ob, c, hH, hc⟩
      · exact .inl ⟨j, o, c, (h2 j e).symm.trans hj, hc⟩
    · intro j o hj
      by_cases e : j = id
      · subst e
        rw [hH] at hj; cases hj
        exact ⟨ob', h1, by omega, fun e => by omega⟩
      · exact ⟨o, (h2 j e).trans hj, Nat.le_refl _, fun _ => ⟨rfl, rfl, fun _ => Nat.le_refl _⟩⟩
  refine ⟨⟨hr.imm, ?_, ?_⟩, hst⟩
  · intro j o hj
    by_cases e : j = id
    · subst e
      rw [h1] at hj; cases hj
      refine (hr.obj j ob hH).keepG hsz hty (by rw [hrows]) rfl (fun x c _ _ => ⟨rfl, fun h => h⟩) (fun i r hi => ⟨r, by rw [← hrows]; exact hi, rfl, fun k a a' h1 h2 v hv => ?_⟩)
      rw [h1] at h2; cases h2
      exact hv.mono hr hst
    · rw [h2 j e] at hj
      exact (hr.obj j o hj).keep rfl (fun x c _ _ => ⟨rfl, fun h => h⟩) (fun r _ a _ v hv => hv.mono hr hst)
  · intro j j' o o' x c c' hj hj' hc hc'
    have key : ∀ j o, H'.get j = some o → ∃ o, H.get j = some o := by
      intro j o hj
      by_cases e : j = id
      · exact ⟨ob, e ▸ hH⟩
      · exact ⟨o, (h2 j e).symm.trans hj⟩
    obtain ⟨q, hq⟩ := key j o hj
    obtain ⟨q', hq'⟩ := key j' o' hj'
    exact hr.inj j j' q q' x c c' hq hq' hc hc'
/-- A nil slice that will grow: an object that has no block yet. -/
theorem Rel.adopt {sz : Nat} {ty : TypeId} (hr : Rel I ι H w) (hH : H.get id = none) (hsz : 0 < sz) :
    Rel I (fun j => if j = id then none else ι j) ((id, ⟨0, sz, ty, []⟩) :: H) w ∧ Step I ι H w I (fun j => if j = id then none else ι j) ((id, ⟨0, sz, ty, []⟩) :: H) w := by
  have h1 : Heap.get ((id, ⟨0, sz, ty, []⟩) :: H) id = some ⟨0, sz, ty, []⟩ := by simp [Heap.get, beq_self]
  have h2 : ∀ j, j ≠ id → Heap.get ((id, ⟨0, sz, ty, []⟩) :: H) j = H.get j := fun j e => by simp [Heap.get, beq_ne (Ne.symm e)]
  have hst : Step I ι H w I (fun j => if j = id then none else ι j) ((id, ⟨0, sz, ty, []⟩) :: H) w := by
    refine ⟨rfl, rfl, rfl, Nat.le_refl _, fun a _ => rfl, fun _ h => h, fun _ h => .inl h, ?_, fun _ _ _ => rfl, ?_⟩
    · rintro x ⟨j, o, c, hj, hc⟩
      by_cases e : j = id
      · simp [e] at hc
      · simp only [e, if_false] at hc; exact .inl ⟨j, o, c, (h2 j e).symm.trans hj, hc⟩
    · intro j o hj
      by_cases e : j = id
      · subst e; rw [hH] at hj; cases hj
      · exact ⟨o, (h2 j e).trans hj, Nat.le_refl _, fun _ => ⟨by simp [e], rfl, fun _ => Nat.le_refl _⟩⟩
  refine ⟨⟨hr.imm, ?_, ?_⟩, hst⟩
  · intro j o hj
    by_cases e : j = id
    · subst e
      rw [h1] at hj; cases hj
      exact .inl ⟨hsz, by simp, .inr ⟨by simp, rfl⟩⟩
    · rw [h2 j e] at hj
      exact (hr.obj j o hj).keep (by simp [e]) (fun x c _ _ => ⟨rfl, fun h => h⟩) (fun r _ a _ v hv => hv.mono hr hst)
  · intro j j' o o' x c c' hj hj' hc hc'
    by_cases e : j = id
    · simp [e] at hc
    · by_cases e' : j' = id
      · simp [e'] at hc'
      · simp only [e, if_false] at hc
        simp only [e', if_false] at hc'
        exact hr.inj j j' o o' x c c' ((h2 j e).symm.trans hj) ((h2 j' e').symm.trans hj') hc hc'
end

/-- The cells of a value. -/
def acl : AV → Option (List AV)
  | .agg cs => some cs
  | .any => none
  | .tup _ => none
  | v => some [v]

theorem one_cells {v : Value} (h : v.oneCell' = true) : v.cells = #[v] := by cases v <;> simp_all [Value.cells, Value.oneCell']

theorem cells_rel {w : World} {I : Nat → Prop} {ι : Plc} {H : Heap} {c : Value} {v : AV} {cells : List AV} (h : VRel w I ι H c v) (hc : acl v = some cells) :
    c.cells.size = cells.length ∧ (∀ u ∈ c.cells.toList, u.oneCell' = true) ∧ ∀ (j : Nat) (a : AV), cells[j]? = some a → ∃ u, c.cells[j]? = some u ∧ u.oneCell' = true ∧ VRel w I ι H u a := by
  have one : ∀ (c : Value) (v : AV), c.oneCell' = true → VRel w I ι H c v → c.cells.size = [v].length ∧ (∀ u ∈ c.cells.toList, u.oneCell' = true) ∧ ∀ (j : Nat) (a : AV), [v][j]? = some a → ∃ u, c.cells[j]? = some u ∧ u.oneCell' = true ∧ VRel w I ι H u a := by
    intro c v h1 h2
    rw [one_cells h1]
    refine ⟨rfl, by simpa using h1, fun j a hj => ?_⟩
    cases j with
    | zero => simp at hj; subst hj; exact ⟨c, rfl, h1, h2⟩
    | succ j => simp at hj
  cases h with
  | any v => cases hc
  | pv h => cases hc; exact one c _ h.oneCell (.pv h)
  | ref o h1 h2 h3 h4 => cases hc; exact one c _ h3 (.ref o h1 h2 h3 h4)
  | pad b off cap sz h1 h2 h3 cs h4 h5 h6 => cases hc; exact one _ _ rfl (.pad b off cap sz h1 h2 h3 cs h4 h5 h6)
  | osl o h1 h2 h3 h4 => cases hc; exact one c _ h3 (.osl o h1 h2 h3 h4)
  | clo h1 h2 => cases hc; exact one _ _ rfl (.clo h1 h2)
  | @agg vs cs h1 h2 h3 =>
    cases hc
    refine ⟨h1, fun u hu => ?_, fun j a ha => ?_⟩
    · obtain ⟨j, hj⟩ := List.mem_iff_getElem?.1 hu
      exact h2 j u (by simpa [Value.cells] using hj)
    · have hlt := (List.getElem?_eq_some_iff.1 ha).1
      have hu : vs[j]? = some (vs[j]'(by omega)) := Array.getElem?_eq_getElem (by omega)
      exact ⟨_, hu, h2 j _ hu, h3 j _ a hu ha⟩
  | tup h1 h2 => cases hc
  | mp o h1 h2 h3 h4 => cases hc; exact one c _ h3 (.mp o h1 h2 h3 h4)
  | it o h1 h2 h3 h4 => cases hc; exact one c _ h3 (.it o h1 h2 h3 h4)
  | osc o h1 h2 h3 h4 => cases hc; exact one c _ h3 (.osc o h1 h2 h3 h4)

section
variable {P : Program} {N : Nat} {o : Oper} {E : Env} {H : Heap} {T : TypeId} {x y : Operand}

theorem get_cons_same (id : Nat) (ob : Ob) (H : Heap) : Heap.get ((id, ob) :: H) id = some ob := by simp [Heap.get, beq_self]
theorem get_cons_other {id j : Nat} (ob : Ob) (H : Heap) (h : j ≠ id) : Heap.get ((id, ob) :: H) j = H.get j := by simp [Heap.get, beq_ne (Ne.symm h)]

/-- A variable of its own: laid with a value. -/
theorem lay_rel {w : World} {I : Nat → Prop} {ι : Plc} {c : Value} {v : AV} {cells : List AV} {id : Nat} (hr : Rel I ι H w) (hv : VRel w I ι H c v) (hc : acl v = some cells) (hne : 0 < cells.length) (hid : H.get id = none) :
    ∃ ι', VRel (w.alloc (.cells c.cells T)) I ι' ((id, ⟨0, cells.length, T, [cells]⟩) :: H) (.pointer (some ⟨w.heap.size, 0, none⟩)) (.ref id 0 0 0) ∧
      Rel I ι' ((id, ⟨0, cells.length, T, [cells]⟩) :: H) (w.alloc (.cells c.cells T)) ∧ Step I ι H w I ι' ((id, ⟨0, cells.length, T, [cells]⟩) :: H) (w.alloc (.cells c.cells T)) := by
  obtain ⟨h1, h2, h3⟩ := cells_rel hv hc
  have hp := Rel.place (H' := (id, ⟨0, cells.length, T, [cells]⟩) :: H) (id := id) (cap := 1) (ob' := ⟨0, cells.length, T, [cells]⟩) (cs' := c.cells) (w' := w.alloc (.cells c.cells T)) hr rfl rfl rfl rfl
    (fun o ho => by rw [hid] at ho; cases ho) hne (by simp [h1]) (by simp) (by simp [maxLen]) (by simp) (fun i r hi k a hk => by
      cases i with
      | zero => simp at hi; subst hi; simpa using h3 k a hk
      | succ i => simp at hi) (get_cons_same _ _ _) (fun j hj => get_cons_other _ _ hj)
  refine ⟨_, .ref ⟨0, cells.length, T, [cells]⟩ (get_cons_same _ _ _) (Nat.le_refl _) rfl fun _ => ⟨hne, w.heap.size, 1, by simp, by simp⟩, hp.1, hp.2⟩

theorem opd_box {v : AV} {cells : List AV} {id n : Nat} (ho : o.op = .box T x) (hx : aeval E x = some v) (hc : acl v = some cells) (hn : cells.length = n + 1) (hid : H.get id = none) :
    OpD P N o E H (.ref id 0 0 0) ((id, ⟨0, n + 1, T, [cells]⟩) :: H) := by
  intro a w I ι _ _ hr he K Q hk
  obtain ⟨ι', h1, h2, h3⟩ := lay_rel (T := T) hr (aeval_rel he hx) hc (by omega) hid
  rw [hn] at h1 h2 h3
  unfold Oper.wp execOp
  simp only [ho, Instr.box, newVar, newRow, Sem.run_bind, run_newObj, Sem.run_pure, Result.andThen_ok]
  exact hk _ _ I ι' _ _ ⟨rfl, rfl⟩ h1 h2 h3

def zv : Value → Option AV
  | .agg cs => (cs.toList.mapM cv).map .agg
  | v => cv v
theorem mapM_cv {l : List Value} {vs : List AV} (h : l.mapM cv = some vs) : l.length = vs.length ∧ ∀ (i : Nat) (v : Value) (a : AV), l[i]? = some v → vs[i]? = some a → cv v = some a := by
  induction l generalizing vs with
  | nil => simp at h; subst h; simp
  | cons x l ih =>
    simp only [List.mapM_cons, Option.pure_def, Option.bind_eq_bind, Option.bind_eq_some_iff, Option.some.injEq] at h
    obtain ⟨v0, h0, vs0, h1, rfl⟩ := h
    obtain ⟨l1, l2⟩ := ih h1
    refine ⟨by simp [l1], fun i v a hv ha => ?_⟩
    cases i with
    | zero => simp at hv ha; subst hv ha; exact h0
    | succ i => simp at hv ha; exact l2 i v a hv ha
theorem zv_rel {w : World} {I : Nat → Prop} {ι : Plc} {z : Value} {v : AV} (h : zv z = some v) : VRel w I ι H z v := by
  unfold zv at h
  split at h
  · rename_i cs
    cases e : cs.toList.mapM cv with
    | none => rw [e] at h; cases h
    | some vs =>
      rw [e] at h; cases h
      obtain ⟨h1, h2⟩ := mapM_cv e
      refine .agg (by simpa using h1) (fun i u hu => ?_) (fun i u a hu ha => (cv_rel (h2 i u a (by simpa using hu) ha)).1)
      have hlt : i < vs.length := by
        have : i < cs.size := (Array.getElem?_eq_some_iff.1 hu).1
        have : cs.toList.length = vs.length := h1
        simp at this; omega
      exact (cv_rel (H := H) (w := w) (I := I) (ι := ι) (h2 i u vs[i] (by simpa using hu) (List.getElem?_eq_getElem hlt))).2
  · exact (cv_rel h).1
/-- The zero value, slices told to be nil. -/
def cvN : Value → Option AV
  | .slice none 0 0 => some (.pv .nils)
  | v => cv v
theorem cvN_rel {w : World} {I : Nat → Prop} {ι : Plc} {z : Value} {v : AV} (h : cvN z = some v) : VRel w I ι H z v ∧ z.oneCell' = true := by
  unfold cvN at h
  split at h
  · cases h; exact ⟨.pv .nils, rfl⟩
  · exact cv_rel h
def zvN : Value → Option AV
  | .agg cs => (cs.toList.mapM cvN).map .agg
  | v => cvN v
theorem mapM_cvN {l : List Value} {vs : List AV} (h : l.mapM cvN = some vs) : l.length = vs.length ∧ ∀ (i : Nat) (v : Value) (a : AV), l[i]? = some v → vs[i]? = some a → cvN v = some a := by
  induction l generalizing vs with
  | nil => simp at h; subst h; simp
  | cons x l ih =>
    simp only [List.mapM_cons, Option.pure_def, Option.bind_eq_bind, Option.bind_eq_some_iff, Option.some.injEq] at h
    obtain ⟨v0, h0, vs0, h1, rfl⟩ := h
    obtain ⟨l1, l2⟩ := ih h1
    refine ⟨by simp [l1], fun i v a hv ha => ?_⟩
    cases i with
    | zero => simp at hv ha; subst hv ha; exact h0
    | succ i => simp at hv ha; exact l2 i v a hv ha
theorem zvN_rel {w : World} {I : Nat → Prop} {ι : Plc} {z : Value} {v : AV} (h : zvN z = some v) : VRel w I ι H z v := by
  unfold zvN at h
  split at h
  · rename_i cs
    cases e : cs.toList.mapM cvN with
    | none => rw [e] at h; cases h
    | some vs =>
      rw [e] at h; cases h
      obtain ⟨h1, h2⟩ := mapM_cvN e
      refine .agg (by simpa using h1) (fun i u hu => ?_) (fun i u a hu ha => (cvN_rel (h2 i u a (by simpa using hu) ha)).1)
      have hlt : i < vs.length := by
        have : i < cs.size := (Array.getElem?_eq_some_iff.1 hu).1
        have : cs.toList.length = vs.length := h1
        simp at this; omega
      exact (cvN_rel (H := H) (w := w) (I := I) (ι := ι) (h2 i u vs[i] (by simpa using hu) (List.getElem?_eq_getElem hlt))).2
  · exact (cvN_rel h).1
/-- A zero value as it is told. -/
def ZV (z : Value) (v : AV) : Prop := zv z = some v ∨ zvN z = some v
theorem ZV.rel {w : World} {I : Nat → Prop} {ι : Plc} {z : Value} {v : AV} (h : ZV z v) : VRel w I ι H z v := h.elim zv_rel zvN_rel
theorem opd_alloc {z : Value} {v : AV} {cells : List AV} {id n : Nat} (ho : o.op = .alloc T) (hz : ∀ w, (zeroValue T).run P w = .ok z w) (hv : ZV z v) (hc : acl v = some cells) (hn : cells.length = n + 1) (hid : H.get id = none) :
    OpD P N o E H (.ref id 0 0 0) ((id, ⟨0, n + 1, T, [cells]⟩) :: H) := by
  intro a w I ι _ _ hr he K Q hk
  obtain ⟨ι', h1, h2, h3⟩ := lay_rel (T := T) hr (ZV.rel (w := w) (I := I) (ι := ι) (H := H) hv) hc (by omega) hid
  rw [hn] at h1 h2 h3
  unfold Oper.wp execOp
  simp only [ho, Instr.alloc, hz, newVar, newRow, Sem.run_bind, run_newObj, Sem.run_pure, Result.andThen_ok]
  exact hk _ _ I ι' _ _ ⟨rfl, rfl⟩ h1 h2 h3

/-- A nil slice that will be appended to. -/
theorem opd_assign_own {id sz : Nat} {ty : TypeId} (ho : o.op = .assign (.const (.slice none 0 0))) (hid : H.get id = none) (hsz : Nat.blt 0 sz = true) :
    OpD P N o E H (.osl id 0 0 0) ((id, ⟨0, sz, ty, []⟩) :: H) := by
  intro a w I ι _ _ hr he K Q hk
  obtain ⟨h1, h2⟩ := Rel.adopt (sz := sz) (ty := ty) hr hid (by simpa [Nat.blt_eq] using hsz)
  unfold Oper.wp execOp
  simp only [ho, Sem.run_pure, Act.eval]
  exact hk _ _ I _ _ _ ⟨rfl, rfl⟩ (.osl ⟨0, sz, ty, []⟩ (get_cons_same _ _ _) (Nat.le_refl _) rfl fun _ => ⟨by simpa [Nat.blt_eq] using hsz, by simp, .inr ⟨by simp, rfl, rfl, rfl⟩⟩) h1 h2

/-- A store, at one state. -/
theorem store_wp {v : AV} {cells r r' : List AV} {id g i k n : Nat} {ob : Ob} {H2 : Heap} {a : Act} {w : World} {I : Nat → Prop} {ι : Plc} (ho : o.op = .store T x y) (hr : Rel I ι H w) (hxv : VRel w I ι H (a.eval x) (.ref id g i k)) (hyv : VRel w I ι H (a.eval y) v) (hc : acl v = some cells)
    (hs : ∀ w, (sizeOf T).run P w = .ok n w) (hn : cells.length = n) (hH : H.get id = some ob) (hg : ob.g = g) (hi : ob.rows[i]? = some r) (hk : k + n ≤ r.length)
    (hr' : r.take k ++ (cells ++ r.drop (k + n)) = r') (hH2 : H.set id { ob with rows := ob.rows.set i r' } = H2) (K : Act → World → Prop) (Q : Exit → Act → World → Prop)
    (hkk : ∀ c w', Rel I ι H2 w' → Step I ι H w I ι H2 w' → K (a.put o.dst c) w') : o.wp P a w K Q := by
  obtain ⟨b, cap, h1, h3⟩ := ref_ptr hxv hH hg
  obtain ⟨c1, c2, c3⟩ := cells_rel hyv hc
  obtain ⟨p1, p2, ⟨b', cap', cs, e1, e2, e3, e4, e5, e5', e6⟩ | ⟨e1, _⟩⟩ := (hr.obj id ob hH).cells (ref_sz hxv hH hg)
  · rw [h1] at e1; cases e1
    have hil : i < ob.rows.length := (List.getElem?_eq_some_iff.1 hi).1
    have hrl : r.length = ob.sz := p2 r (List.mem_of_getElem? hi)
    have hfit : i * ob.sz + k + n ≤ cs.size := by
      have : (i + 1) * ob.sz ≤ cap * ob.sz := Nat.mul_le_mul_right _ (by omega)
      rw [Nat.add_mul] at this
      omega
    have hcl : (a.eval y).cells.toList.length = n := by simp [c1, hn]
    have hst := run_storeCells_at P b (i * ob.sz + k) ob.ty (a.eval y).cells.toList 0 cs w e2 (by omega) c2
    simp only [Nat.add_zero, hcl] at hst
    have hlen' : r'.length = r.length := by rw [← hr']; simp; omega
    obtain ⟨hrel, hstep⟩ := Rel.update (H' := H2) (ob' := { ob with rows := ob.rows.set i r' }) (cs' := (cs.toList.take (i * ob.sz + k) ++ (a.eval y).cells.toList ++ cs.toList.drop (i * ob.sz + k + n)).toArray)
      hr hH h1 e2 (Nat.le_refl _) rfl rfl (fun _ => by simp) (by simp [c1, hn]; omega) (by simpa using e5)
      (fun q hq => by
        rcases List.mem_or_eq_of_mem_set hq with h | h
        · exact p2 q h
        · rw [h, hlen', hrl])
      (fun i' q hq k' a' hk' => by
        have hql : q.length = ob.sz := by
          have hm := List.mem_of_getElem? hq
          rcases List.mem_or_eq_of_mem_set hm with h | h
          · exact p2 q h
          · rw [h, hlen', hrl]
        have hk'l : k' < ob.sz := by rw [← hql]; exact (List.getElem?_eq_some_iff.1 hk').1
        simp only [List.getElem?_toArray]
        by_cases e : i' = i
        · subst e
          have hq' : q = r' := by
            rw [List.getElem?_set_self hil] at hq
            exact (Option.some.inj hq).symm
          subst hq'
          rw [← hr'] at hk'
          by_cases ha : k' < k
          · rw [List.getElem?_append_left (by simp; omega), List.getElem?_take, if_pos ha] at hk'
            obtain ⟨u, q1, q2, q3⟩ := e6 i' r hi k' a' hk'
            refine ⟨u, ?_, q2, q3⟩
            rw [List.append_assoc, List.getElem?_append_left (by simp; omega), List.getElem?_take, if_pos (by omega)]
            simpa using q1
          · by_cases hb : k' < k + n
            · rw [List.getElem?_append_right (by simp; omega), List.getElem?_append_left (by simp; omega)] at hk'
              have hmin : min k r.length = k := by omega
              simp only [List.length_take, hmin] at hk'
              obtain ⟨u, q1, q2, q3⟩ := c3 (k' - k) a' hk'
              refine ⟨u, ?_, q2, q3⟩
              rw [List.append_assoc, List.getElem?_append_right (by simp; omega), List.getElem?_append_left (by simp [c1, hn]; omega)]
              have hmin2 : min (i' * ob.sz + k) cs.size = i' * ob.sz + k := by omega
              simp only [List.length_take, Array.length_toList, hmin2]
              rw [show i' * ob.sz + k' - (i' * ob.sz + k) = k' - k by omega]
              simpa using q1
            · rw [List.getElem?_append_right (by simp; omega), List.getElem?_append_right (by simp; omega), List.getElem?_drop] at hk'
              have hmin : min k r.length = k := by omega
              simp only [List.length_take, hmin, hn] at hk'
              rw [show k + n + (k' - k - n) = k' by omega] at hk'
              obtain ⟨u, q1, q2, q3⟩ := e6 i' r hi k' a' hk'
              refine ⟨u, ?_, q2, q3⟩
              rw [List.append_assoc, List.getElem?_append_right (by simp; omega), List.getElem?_append_right (by simp [c1, hn]; omega), List.getElem?_drop]
              have hmin2 : min (i' * ob.sz + k) cs.size = i' * ob.sz + k := by omega
              simp only [List.length_take, Array.length_toList, hmin2, hcl]
              rw [show i' * ob.sz + k + n + (i' * ob.sz + k' - (i' * ob.sz + k) - n) = i' * ob.sz + k' by omega]
              simpa using q1
        · rw [List.getElem?_set_ne (Ne.symm e)] at hq
          obtain ⟨u, q1, q2, q3⟩ := e6 i' q hq k' a' hk'
          refine ⟨u, ?_, q2, q3⟩
          rcases Nat.lt_or_gt_of_ne e with hlt | hgt
          · have : (i' + 1) * ob.sz ≤ i * ob.sz := Nat.mul_le_mul_right _ hlt
            rw [Nat.add_mul] at this
            rw [List.append_assoc, List.getElem?_append_left (by simp; omega), List.getElem?_take, if_pos (by omega)]
            simpa using q1
          · have : (i + 1) * ob.sz ≤ i' * ob.sz := Nat.mul_le_mul_right _ hgt
            rw [Nat.add_mul] at this
            rw [List.append_assoc, List.getElem?_append_right (by simp; omega), List.getElem?_append_right (by simp [c1, hn]; omega), List.getElem?_drop]
            have hmin2 : min (i * ob.sz + k) cs.size = i * ob.sz + k := by omega
            simp only [List.length_take, Array.length_toList, hmin2, hcl]
            rw [show i * ob.sz + k + n + (i' * ob.sz + k' - (i * ob.sz + k) - n) = i' * ob.sz + k' by omega]
            simpa using q1)
      (by rw [← hH2]; exact Heap.get_set_same _ _ _) (fun j hj => by rw [← hH2]; exact Heap.get_set_other _ _ hj)
    unfold Oper.wp execOp
    have hsz' : ¬ ((a.eval y).cells.size ≠ n) := by simp [c1, hn]
    simp only [ho, h3, Instr.storeAt, Instr.sureAddr, storeVar, Sem.run_bind, Sem.run_pure, Result.andThen_ok, hs, Sem.run_ite, hsz', if_false, hst]
    exact hkk _ _ hrel hstep
  · rw [h1] at e1; cases e1
/-- A store. -/
theorem opd_store {v : AV} {cells r r' : List AV} {id g i k n : Nat} {ob : Ob} {H2 : Heap} (ho : o.op = .store T x y) (hx : aeval E x = some (.ref id g i k)) (hy : aeval E y = some v) (hc : acl v = some cells)
    (hs : ∀ w, (sizeOf T).run P w = .ok n w) (hn : cells.length = n) (hH : H.get id = some ob) (hg : ob.g = g) (hi : ob.rows[i]? = some r) (hk : k + n ≤ r.length)
    (hr' : r.take k ++ (cells ++ r.drop (k + n)) = r') (hH2 : H.set id { ob with rows := ob.rows.set i r' } = H2) : OpD P N o E H .any H2 := by
  intro a w I ι _ _ hr he K Q hkk
  exact store_wp ho hr (aeval_rel he hx) (aeval_rel he hy) hc hs hn hH hg hi hk hr' hH2 K Q (fun c w' h1 h2 => hkk c w' I ι _ _ ⟨rfl, rfl⟩ (.any _) h1 h2)
end
end Go.Abs
end
section
set_option linter.unusedVariables false
set_option linter.unusedSimpArgs false
namespace Go.Abs

/-- All objects that a value names are in the heap. -/
inductive Clo (H : Heap) : AV → Prop
  | any : Clo H .any
  | pv (p : PV) : Clo H (.pv p)
  | pad (rows : List (List PV)) (i k : Nat) : Clo H (.pad rows i k)
  | ref {id g i k : Nat} (h : (H.get id).isSome = true) : Clo H (.ref id g i k)
  | osl {id g off len : Nat} (h : (H.get id).isSome = true) : Clo H (.osl id g off len)
  | clo {f : FuncId} {caps : List AV} (h : ∀ a ∈ caps, Clo H a) : Clo H (.clo f caps)
  | agg {cs : List AV} (h : ∀ a ∈ cs, Clo H a) : Clo H (.agg cs)
  | tup {cs : List AV} (h : ∀ a ∈ cs, Clo H a) : Clo H (.tup cs)
  | mp {id g : Nat} (h : (H.get id).isSome = true) : Clo H (.mp id g)
  | it {id g : Nat} (h : (H.get id).isSome = true) : Clo H (.it id g)
  | osc {id g off len c : Nat} (h : (H.get id).isSome = true) : Clo H (.osc id g off len c)

@[simp] theorem clo_any (H : Heap) : Clo H .any = True := eq_true .any
@[simp] theorem clo_pv (H : Heap) (p : PV) : Clo H (.pv p) = True := eq_true (.pv p)
@[simp] theorem clo_pad (H : Heap) (rows : List (List PV)) (i k : Nat) : Clo H (.pad rows i k) = True := eq_true (.pad rows i k)
@[simp] theorem clo_ref (H : Heap) (id g i k : Nat) : Clo H (.ref id g i k) = ((H.get id).isSome = true) := propext ⟨fun h => by cases h; assumption, .ref⟩
@[simp] theorem clo_osl (H : Heap) (id g i k : Nat) : Clo H (.osl id g i k) = ((H.get id).isSome = true) := propext ⟨fun h => by cases h; assumption, .osl⟩
@[simp] theorem clo_mp (H : Heap) (id g : Nat) : Clo H (.mp id g) = ((H.get id).isSome = true) := propext ⟨fun h => by cases h; assumption, .mp⟩
@[simp] theorem clo_it (H : Heap) (id g : Nat) : Clo H (.it id g) = ((H.get id).isSome = true) := propext ⟨fun h => by cases h; assumption, .it⟩
@[simp] theorem clo_osc (H : Heap) (id g off len c : Nat) : Clo H (.osc id g off len c) = ((H.get id).isSome = true) := propext ⟨fun h => by cases h; assumption, .osc⟩
@[simp] theorem clo_clo (H : Heap) (f : FuncId) (l : List AV) : Clo H (.clo f l) = ∀ a ∈ l, Clo H a := propext ⟨fun h => by cases h; assumption, .clo⟩
@[simp] theorem clo_agg (H : Heap) (l : List AV) : Clo H (.agg l) = ∀ a ∈ l, Clo H a := propext ⟨fun h => by cases h; assumption, .agg⟩
@[simp] theorem clo_tup (H : Heap) (l : List AV) : Clo H (.tup l) = ∀ a ∈ l, Clo H a := propext ⟨fun h => by cases h; assumption, .tup⟩

def Sub (H' H : Heap) : Prop := ∀ id o, H'.get id = some o → H.get id = some o
def Closed (H : Heap) : Prop := ∀ id o, H.get id = some o → ∀ r ∈ o.rows, ∀ a ∈ r, Clo H a

theorem VRel.restrict {w : World} {I : Nat → Prop} {ι : Plc} {H H' : Heap} (hs : Sub H' H) {v : Value} {a : AV} (h : VRel w I ι H v a) : Clo H' a → VRel w I ι H' v a := by
  induction h with
  | any v => exact fun _ => .any v
  | pv h => exact fun _ => .pv h
  | ref o h1 h2 h3 h4 =>
    intro hc
    cases hc with
    | ref hc =>
      obtain ⟨o', ho'⟩ := Option.isSome_iff_exists.1 hc
      have := hs _ _ ho'
      rw [h1] at this; cases this
      exact .ref o ho' h2 h3 h4
  | pad b off cap sz h1 h2 h3 cs h4 h5 h6 => exact fun _ => .pad b off cap sz h1 h2 h3 cs h4 h5 h6
  | osl o h1 h2 h3 h4 =>
    intro hc
    cases hc with
    | osl hc =>
      obtain ⟨o', ho'⟩ := Option.isSome_iff_exists.1 hc
      have := hs _ _ ho'
      rw [h1] at this; cases this
      exact .osl o ho' h2 h3 h4
  | clo hl h ih =>
    intro hc
    cases hc with | clo hc => exact .clo hl fun i v a hv ha => ih i v a hv ha (hc a (List.mem_of_getElem? ha))
  | agg hl h1 h ih =>
    intro hc
    cases hc with | agg hc => exact .agg hl h1 fun i v a hv ha => ih i v a hv ha (hc a (List.mem_of_getElem? ha))
  | tup hl h ih =>
    intro hc
    cases hc with | tup hc => exact .tup hl fun i v a hv ha => ih i v a hv ha (hc a (List.mem_of_getElem? ha))
  | mp o h1 h2 h3 h4 =>
    intro hc
    cases hc with
    | mp hc =>
      obtain ⟨o', ho'⟩ := Option.isSome_iff_exists.1 hc
      have := hs _ _ ho'
      rw [h1] at this; cases this
      exact .mp o ho' h2 h3 h4
  | it o h1 h2 h3 h4 =>
    intro hc
    cases hc with
    | it hc =>
      obtain ⟨o', ho'⟩ := Option.isSome_iff_exists.1 hc
      have := hs _ _ ho'
      rw [h1] at this; cases this
      exact .it o ho' h2 h3 h4
  | osc o h1 h2 h3 h4 =>
    intro hc
    cases hc with
    | osc hc =>
      obtain ⟨o', ho'⟩ := Option.isSome_iff_exists.1 hc
      have := hs _ _ ho'
      rw [h1] at this; cases this
      exact .osc o ho' h2 h3 h4

theorem Own.sub {ι : Plc} {H H' : Heap} (hs : Sub H' H) {b : Nat} (h : Own ι H' b) : Own ι H b :=
  let ⟨id, o, c, h1, h2⟩ := h; ⟨id, o, c, hs id o h1, h2⟩

theorem Rel.restrict {I : Nat → Prop} {ι : Plc} {H H' : Heap} {w : World} (hr : Rel I ι H w) (hs : Sub H' H) (hc : Closed H') : Rel I ι H' w where
  imm := hr.imm
  obj := fun id o ho => (hr.obj id o (hs id o ho)).keep rfl (fun _ _ _ _ => ⟨rfl, fun h => h⟩) (fun r hr' a ha v hv => hv.restrict hs (hc id o ho r hr' a ha))
  inj := fun id id' o o' b c c' h h' => hr.inj id id' o o' b c c' (hs id o h) (hs id' o' h')

def Kept (H0 H' H : Heap) : Prop := ∀ id, (H0.get id).isSome = true → H'.get id = H.get id

theorem Step.restrict {I0 I : Nat → Prop} {ι0 ι : Plc} {H0 H H' : Heap} {w0 w : World} (h : Step I0 ι0 H0 w0 I ι H w) (hs : Sub H' H) (hk : Kept H0 H' H) : Step I0 ι0 H0 w0 I ι H' w where
  os := h.os
  tape := h.tape
  output := h.output
  size := h.size
  froz := h.froz
  imm := h.imm
  immNew := h.immNew
  own := fun b hb => h.own b (hb.sub hs)
  keep := h.keep
  objs := fun id o ho => by
    obtain ⟨o', h1, h2⟩ := h.objs id o ho
    exact ⟨o', (hk id (by simp [ho])).trans h1, h2⟩

/-! ### a state that is looked at by its slots alone -/
def EOk (E : Env) (H' : Heap) : Env → Prop
  | [] => True
  | (t, v) :: r => (∃ v0, E.get t = some v0 ∧ v0 = v) ∧ Clo H' v ∧ EOk E H' r
def HOk (H H' : Heap) : Heap → Prop
  | [] => True
  | (id, o) :: r => (∃ o0, H.get id = some o0 ∧ o0 = o) ∧ (∀ r ∈ o.rows, ∀ a ∈ r, Clo H' a) ∧ HOk H H' r
def KOk (H' H : Heap) : Heap → Prop
  | [] => True
  | (id, _) :: r => H'.get id = H.get id ∧ KOk H' H r

theorem mem_of_get {E : Env} {t : Nat} {v : AV} (h : E.get t = some v) : (t, v) ∈ E := by
  induction E with
  | nil => cases h
  | cons x r ih =>
    obtain ⟨i, u⟩ := x
    cases e : Nat.beq i t with
    | true =>
      have : i = t := Nat.eq_of_beq_eq_true e
      subst this
      simp [Env.get, e] at h
      simp [h]
    | false => simp [Env.get, e] at h; exact List.mem_cons_of_mem _ (ih h)
theorem mem_of_hget {H : Heap} {t : Nat} {o : Ob} (h : H.get t = some o) : (t, o) ∈ H := by
  induction H with
  | nil => cases h
  | cons x r ih =>
    obtain ⟨i, u⟩ := x
    cases e : Nat.beq i t with
    | true =>
      have : i = t := Nat.eq_of_beq_eq_true e
      subst this
      simp [Heap.get, e] at h
      simp [h]
    | false => simp [Heap.get, e] at h; exact List.mem_cons_of_mem _ (ih h)
theorem EOk.spec {E : Env} {H' : Heap} {E' : Env} (h : EOk E H' E') : ∀ p ∈ E', E.get p.1 = some p.2 ∧ Clo H' p.2 := by
  induction E' with
  | nil => simp
  | cons x r ih =>
    obtain ⟨t, v⟩ := x
    obtain ⟨⟨v0, h1, h2⟩, h3, h4⟩ := h
    subst h2
    intro p hp
    rcases List.mem_cons.1 hp with e | e
    · subst e; exact ⟨h1, h3⟩
    · exact ih h4 p e
theorem HOk.spec {H H' : Heap} {L : Heap} (h : HOk H H' L) : ∀ p ∈ L, H.get p.1 = some p.2 ∧ ∀ r ∈ p.2.rows, ∀ a ∈ r, Clo H' a := by
  induction L with
  | nil => simp
  | cons x r ih =>
    obtain ⟨t, v⟩ := x
    obtain ⟨⟨v0, h1, h2⟩, h3, h4⟩ := h
    subst h2
    intro p hp
    rcases List.mem_cons.1 hp with e | e
    · subst e; exact ⟨h1, h3⟩
    · exact ih h4 p e
theorem KOk.spec {H' H : Heap} {L : Heap} (h : KOk H' H L) : ∀ p ∈ L, H'.get p.1 = H.get p.1 := by
  induction L with
  | nil => simp
  | cons x r ih =>
    obtain ⟨t, v⟩ := x
    intro p hp
    rcases List.mem_cons.1 hp with e | e
    · subst e; exact h.1
    · exact ih h.2 p e
theorem HOk.sub {H H' : Heap} (h : HOk H H' H') : Sub H' H := fun id o ho => (h.spec _ (mem_of_hget ho)).1
theorem HOk.closed {H H' : Heap} (h : HOk H H' H') : Closed H' := fun id o ho => (h.spec _ (mem_of_hget ho)).2
theorem KOk.kept {H0 H' H : Heap} (h : KOk H' H H0) : Kept H0 H' H := fun id hi => by
  obtain ⟨o, ho⟩ := Option.isSome_iff_exists.1 hi
  exact h.spec _ (mem_of_hget ho)

theorem Ent.wk {G0 : Heap} {E E' : Env} {H H' : Heap} (hE : EOk E H' E') (hH : HOk H H' H') (hk : KOk H' H G0) : Ent G0 E H E' H' := by
  intro G hG N a w hs
  obtain ⟨I, ι, hr, hst, he⟩ := hs.rel
  subst hG
  refine ⟨hs.defers, hs.size, I, ι, hr.restrict hH.sub hH.closed, hst.restrict hH.sub hk.kept, fun t v ht => ?_⟩
  obtain ⟨h1, h2⟩ := hE.spec _ (mem_of_get ht)
  obtain ⟨c, hc, hv⟩ := he t v h1
  exact ⟨c, hc, hv.restrict hH.sub h2⟩
theorem Ent.trans {G0 : Heap} {E E' E'' : Env} {H H' H'' : Heap} (h : Ent G0 E H E' H') (h' : Ent G0 E' H' E'' H'') : Ent G0 E H E'' H'' := fun G hG N a w hs => h' G hG N a w (h G hG N a w hs)
/-- The world's heap alone stays: only slots are forgotten. -/
theorem Ent.env {G0 : Heap} {E E' : Env} {H : Heap} (hE : ∀ p ∈ E', E.get p.1 = some p.2) : Ent G0 E H E' H := by
  intro G hG N a w hs
  obtain ⟨I, ι, hr, hst, he⟩ := hs.rel
  exact ⟨hs.defers, hs.size, I, ι, hr, hst, fun t v ht => he t v (hE _ (mem_of_get ht))⟩

/-! ### freezing: an owned slice becomes a slice that is only read -/
/-- The value 'a' as it reads when the object 'id' has been frozen with the rows 'ps'. -/
inductive Fz (H' : Heap) (id g : Nat) (ps : List (List PV)) : AV → AV → Prop
  | same {a : AV} (h : Clo H' a) : Fz H' id g ps a a
  | osl {off len : Nat} {qs : List (List PV)} (hq : (ps.take (off + len)).drop off = qs) : Fz H' id g ps (.osl id g off len) (.pv (.sl qs))
  | agg {cs cs' : List AV} (hl : cs.length = cs'.length) (h : ∀ (i : Nat) (a a' : AV), cs[i]? = some a → cs'[i]? = some a' → Fz H' id g ps a a') : Fz H' id g ps (.agg cs) (.agg cs')
  | tup {cs cs' : List AV} (hl : cs.length = cs'.length) (h : ∀ (i : Nat) (a a' : AV), cs[i]? = some a → cs'[i]? = some a' → Fz H' id g ps a a') : Fz H' id g ps (.tup cs) (.tup cs')

def ImmPlus (I : Nat → Prop) (ι : Plc) (id : Nat) : Nat → Prop := fun b => I b ∨ ∃ cap, ι id = some (b, cap)

theorem freeze_prep {w : World} {I : Nat → Prop} {ι : Plc} {H : Heap} {id : Nat} {ob : Ob} {ps : List (List PV)} (hr : Rel I ι H w) (hH : H.get id = some ob) (hps : ob.rows = ps.map (·.map .pv)) {v : Value} {off len : Nat} (hv : VRel w I ι H v (.osl id ob.g off len)) :
    PRep w (ImmPlus I ι id) v (.sl ((ps.take (off + len)).drop off)) := by
  obtain ⟨hle, ⟨b, cap, oo, h1, h2, h3⟩ | ⟨h1, h2, h3, h4⟩⟩ := osl_slice hv hH rfl
  · obtain ⟨p1, p2, ⟨b', cap', cs, e1, e2, e3, e4, e5, e5', e6⟩ | ⟨e1, _⟩⟩ := (hr.obj id ob hH).cells (osl_sz hv hH rfl)
    · rw [h1] at e1; cases e1
      have hlen : ps.length = ob.rows.length := by rw [hps]; simp
      have hcut := PRep.cut (w := w) (I := ImmPlus I ι id) (b := b) (off := 0) (cap := cap) (sz := ob.sz) (rows := ps) (l := off) (h := off + len) (cs := fun i k => (cs[i * ob.sz + k]?).getD undef)
        (.inr ⟨cap, h1⟩) p1 (fun r hr' => by
          have : r.map AV.pv ∈ ob.rows := by rw [hps]; exact List.mem_map_of_mem hr'
          have := p2 _ this
          simpa using this) (by omega)
        (fun i r hi k p hk => by
          obtain ⟨u, q1, q2, q3⟩ := e6 i (r.map .pv) (by rw [hps]; simp [hi]) k (.pv p) (by simp [hk])
          rw [Nat.zero_add, cell_of_row w b _ cs ob.ty (0, 0) e2, q1]
          rfl)
        (fun i r hi k p hk => by
          obtain ⟨u, q1, q2, q3⟩ := e6 i (r.map .pv) (by rw [hps]; simp [hi]) k (.pv p) (by simp [hk])
          rw [q1]
          exact q3.pv_inv.mono (fun _ _ => rfl) (fun _ h => .inl h)) (by omega) (by omega)
      rw [h2]
      by_cases ec : cap = off
      · have hl0 : len = 0 := by omega
        subst hl0
        have : (ps.take (off + 0)).drop off = [] := List.eq_nil_of_length_eq_zero (by simp)
        rw [this]
        exact .sl b oo (cap - off) ob.sz [] (fun _ _ => undef) (.inr ⟨cap, h1⟩) p1 (by simp) (by simp) (by simp) (by simp)
      · rw [if_neg ec, Addr.add_lit] at hcut
        rw [h3 (by omega)]
        simpa using hcut
    · rw [h1] at e1; cases e1
  · subst h3 h4
    rw [h2]
    simpa using PRep.nilsl

theorem VRel.freeze {w : World} {I : Nat → Prop} {ι : Plc} {H H' : Heap} {id : Nat} {ob : Ob} {ps : List (List PV)} (hr : Rel I ι H w) (hs : Sub H' H) (hH : H.get id = some ob) (hps : ob.rows = ps.map (·.map .pv)) {a a' : AV} (hf : Fz H' id ob.g ps a a') :
    ∀ {v : Value}, VRel w I ι H v a → VRel w (ImmPlus I ι id) ι H' v a' := by
  induction hf with
  | same h => exact fun hv => (hv.restrict hs h).mono' (fun _ _ => rfl) (fun _ h => .inl h) (fun _ o h => ⟨o, h, Nat.le_refl _, fun _ => ⟨rfl, rfl, fun _ => Nat.le_refl _⟩⟩)
  | osl hq =>
    intro v hv
    subst hq
    exact .pv (freeze_prep hr hH hps hv)
  | agg hl h ih =>
    intro v hv
    cases hv with
    | agg h1 h2 h3 =>
      refine .agg (h1.trans hl) h2 fun i u a' hu ha' => ?_
      have hi := (List.getElem?_eq_some_iff.1 ha').1
      exact ih i _ a' (List.getElem?_eq_getElem (by omega)) ha' (h3 i u _ hu (List.getElem?_eq_getElem (by omega)))
  | tup hl h ih =>
    intro v hv
    cases hv with
    | tup h1 h3 =>
      refine .tup (h1.trans hl) fun i u a' hu ha' => ?_
      have hi := (List.getElem?_eq_some_iff.1 ha').1
      exact ih i _ a' (List.getElem?_eq_getElem (by omega)) ha' (h3 i u _ hu (List.getElem?_eq_getElem (by omega)))

theorem Rel.freeze {w : World} {I : Nat → Prop} {ι : Plc} {H H' : Heap} {id : Nat} {ob : Ob} (hr : Rel I ι H w) (hs : Sub H' H) (hc : Closed H') (hH : H.get id = some ob) (hno : H'.get id = none) : Rel (ImmPlus I ι id) ι H' w := by
  have hr' := hr.restrict hs hc
  refine ⟨fun b hb => ?_, fun j o hj => ?_, hr'.inj⟩
  · rcases hb with hb | ⟨cap, hb⟩
    · exact hr.imm b hb
    · exact hr.lt ⟨id, ob, cap, hH, hb⟩
  · refine (hr'.obj j o hj).keep rfl (fun b' cap' e1 _ => ⟨rfl, fun e3 => ?_⟩) (fun r _ a _ v hv => hv.mono' (fun _ _ => rfl) (fun _ h => .inl h) (fun _ o h => ⟨o, h, Nat.le_refl _, fun _ => ⟨rfl, rfl, fun _ => Nat.le_refl _⟩⟩))
    rintro (h | ⟨cap, h⟩)
    · exact e3 h
    · have : j = id := hr.inj j id o ob b' cap' cap (hs j o hj) hH e1 h
      rw [this, hno] at hj
      cases hj

theorem Step.freeze {I0 I : Nat → Prop} {ι0 ι : Plc} {H0 H H' : Heap} {w0 w : World} {id : Nat} {ob : Ob} (h : Step I0 ι0 H0 w0 I ι H w) (hs : Sub H' H) (hk : Kept H0 H' H) (hH : H.get id = some ob) : Step I0 ι0 H0 w0 (ImmPlus I ι id) ι H' w :=
  let h' := h.restrict hs hk
  { h' with
    imm := fun b hb => .inl (h.imm b hb)
    immNew := fun b hb => by
      rcases hb with hb | ⟨cap, hb⟩
      · exact h.immNew b hb
      · rcases h.own b ⟨id, ob, cap, hH, hb⟩ with h1 | h1
        · exact .inr (.inl h1)
        · exact .inr (.inr h1) }

/-- A result and the heap behind it, as they are handed on. -/
def Fin (G0 : Heap) (H : Heap) (r : AV) (H' : Heap) (r' : AV) : Prop :=
  ∀ (G : Entry), G.H = G0 → ∀ (I : Nat → Prop) (ι : Plc) (w : World) (v : Value), Rel I ι H w → Step G.I G.ι G.H G.w I ι H w → VRel w I ι H v r →
    ∃ I' ι', Rel I' ι' H' w ∧ Step G.I G.ι G.H G.w I' ι' H' w ∧ VRel w I' ι' H' v r'
theorem Fin.wk {G0 H H' : Heap} {r : AV} (hr : Clo H' r) (hH : HOk H H' H') (hk : KOk H' H G0) : Fin G0 H r H' r := by
  intro G hG I ι w v h1 h2 h3
  subst hG
  exact ⟨I, ι, h1.restrict hH.sub hH.closed, h2.restrict hH.sub hk.kept, h3.restrict hH.sub hr⟩
/-- The result's slice is frozen. -/
theorem Fin.fz {G0 H H' : Heap} {r r' : AV} {id : Nat} {ob : Ob} (ps : List (List PV)) (hH : H.get id = some ob) (hps : ob.rows = ps.map (·.map .pv)) (hf : Fz H' id ob.g ps r r') (hno : H'.get id = none) (hHO : HOk H H' H') (hk : KOk H' H G0) : Fin G0 H r H' r' := by
  intro G hG I ι w v h1 h2 h3
  subst hG
  exact ⟨_, ι, h1.freeze hHO.sub hHO.closed hH hno, h2.freeze hHO.sub hk.kept hH, VRel.freeze h1 hHO.sub hH hps hf h3⟩
/-- A slot's slice is frozen. -/
theorem Ent.fz {G0 : Heap} {E E' : Env} {H H' : Heap} {id : Nat} {ob : Ob} (ps : List (List PV)) (hH : H.get id = some ob) (hps : ob.rows = ps.map (·.map .pv)) (hE : ∀ p ∈ E', ∃ v0, E.get p.1 = some v0 ∧ Fz H' id ob.g ps v0 p.2) (hno : H'.get id = none)
    (hHO : HOk H H' H') (hk : KOk H' H G0) : Ent G0 E H E' H' := by
  intro G hG N a w hs
  obtain ⟨I, ι, hr, hst, he⟩ := hs.rel
  subst hG
  refine ⟨hs.defers, hs.size, _, ι, hr.freeze hHO.sub hHO.closed hH hno, hst.freeze hHO.sub hk.kept hH, fun t v ht => ?_⟩
  obtain ⟨v0, h1, h2⟩ := hE _ (mem_of_get ht)
  obtain ⟨c, hc, hv⟩ := he t v0 h1
  exact ⟨c, hc, VRel.freeze hr hHO.sub hH hps h2 hv⟩

/-! ### returns -/
def entryEnv (args : List AV) : Env := args.zipIdx.map fun (v, i) => (i, v)

/-- A result variable, read. -/
def rread (tmps : Array Value) : ResultVar → Sem Value
  | .tmp t => pure (tmps.getD t undef)
  | .cell a t => do loadVar t (← asAddr (tmps.getD a undef))
theorem results_rread (fn : Func) (tmps : Array Value) : results fn tmps = (do let vs ← fn.results.mapM (rread tmps); pure (if h : vs.size = 1 then vs[0] else .tuple vs)) := by
  unfold results
  congr 1
/-- What a function's result variables hold. -/
def RVal (P : Program) (E : Env) (H : Heap) (x : ResultVar) (r : AV) : Prop :=
  ∀ (a : Act) (w : World) (I : Nat → Prop) (ι : Plc), Rel I ι H w → ERel w I ι H E a →
    ∃ v, (rread a.tmps x).run P w = .ok v w ∧ VRel w I ι H v r
theorem rval_tmp {P : Program} {E : Env} {H : Heap} {t : Tmp} {r : AV} (h : E.get t = some r) : RVal P E H (.tmp t) r := fun a w I ι _ he => by
  obtain ⟨c, hc, hv⟩ := he t r h
  exact ⟨c, by simp [rread, hc], hv⟩
theorem rval_cell {P : Program} {E : Env} {H : Heap} {t : Tmp} {T : TypeId} {n id g i k : Nat} {ob : Ob} {r cs : List AV} (hx : E.get t = some (.ref id g i k)) (ha : ∀ w, (isAgg T).run P w = .ok true w) (hs : ∀ w, (sizeOf T).run P w = .ok n w) (hH : H.get id = some ob) (hg : ob.g = g)
    (hi : ob.rows[i]? = some r) (hk : (r.drop k).take n = cs) (hl : cs.length = n) : RVal P E H (.cell t T) (.agg cs) := fun a w I ι hr he => by
  obtain ⟨c, hc, hv⟩ := he t _ hx
  obtain ⟨v, h1, h2⟩ := loadn (P := P) (T := T) (ref_cells hr hv hH hg hi) ha hs hk hl
  obtain ⟨b, cap, _, e⟩ := ref_ptr hv hH hg
  subst e
  refine ⟨v, ?_, h2⟩
  simpa [rread, hc, asAddr, Instr.loadAt, Instr.sureAddr] using h1
/-- The end of a body. -/
def ARet (P : Program) (fn : Func) (G0 : Heap) (Q : AV → Heap → Prop) (e : Exit) (E : Env) (H : Heap) : Prop :=
  (e = .normal ∨ e = .ret) ∧ ∃ r, (∀ (a : Act) (w : World) (I : Nat → Prop) (ι : Plc), Rel I ι H w → ERel w I ι H E a → ∃ v, (results fn a.tmps).run P w = .ok v w ∧ VRel w I ι H v r) ∧ ∃ r' H', Fin G0 H r H' r' ∧ Q r' H'

section
variable {P : Program} {fn : Func} {G0 H : Heap} {Q : AV → Heap → Prop} {e : Exit} {E : Env}
theorem aret0 (he : e = .normal ∨ e = .ret) (hf : fn.results = #[]) {r' : AV} {H' : Heap} (hfin : Fin G0 H (.tup []) H' r') (hq : Q r' H') : ARet P fn G0 Q e E H :=
  ⟨he, .tup [], fun a w I ι _ _ => ⟨.tuple #[], by simp [results, hf], .tup rfl (by simp)⟩, r', H', hfin, hq⟩
theorem aret1 (he : e = .normal ∨ e = .ret) {x : ResultVar} {r r' : AV} {H' : Heap} (hf : fn.results = #[x]) (hx : RVal P E H x r) (hfin : Fin G0 H r H' r') (hq : Q r' H') : ARet P fn G0 Q e E H :=
  ⟨he, r, fun a w I ι hr hE => by
    obtain ⟨v, h1, h2⟩ := hx a w I ι hr hE
    exact ⟨v, by rw [results_rread, hf]; simp [h1], h2⟩, r', H', hfin, hq⟩
theorem aret2 (he : e = .normal ∨ e = .ret) {x y : ResultVar} {r s r' : AV} {H' : Heap} (hf : fn.results = #[x, y]) (hx : RVal P E H x r) (hy : RVal P E H y s) (hfin : Fin G0 H (.tup [r, s]) H' r') (hq : Q r' H') : ARet P fn G0 Q e E H :=
  ⟨he, .tup [r, s], fun a w I ι hr hE => by
    obtain ⟨v, h1, h2⟩ := hx a w I ι hr hE
    obtain ⟨u, h3, h4⟩ := hy a w I ι hr hE
    refine ⟨.tuple #[v, u], by rw [results_rread, hf]; simp [h1, h3], .tup rfl ?_⟩
    · intro i c b hc hb
      match i with
      | 0 => simp at hc hb; subst hc hb; exact h2
      | 1 => simp at hc hb; subst hc hb; exact h4
      | i + 2 => simp at hc, r', H', hfin, hq⟩
theorem aret3 (he : e = .normal ∨ e = .ret) {x y z : ResultVar} {r s t r' : AV} {H' : Heap} (hf : fn.results = #[x, y, z]) (hx : RVal P E H x r) (hy : RVal P E H y s) (hz : RVal P E H z t) (hfin : Fin G0 H (.tup [r, s, t]) H' r') (hq : Q r' H') : ARet P fn G0 Q e E H :=
  ⟨he, .tup [r, s, t], fun a w I ι hr hE => by
    obtain ⟨v, h1, h2⟩ := hx a w I ι hr hE
    obtain ⟨u, h3, h4⟩ := hy a w I ι hr hE
    obtain ⟨q, h5, h6⟩ := hz a w I ι hr hE
    refine ⟨.tuple #[v, u, q], by rw [results_rread, hf]; simp [h1, h3, h5], .tup rfl ?_⟩
    · intro i c b hc hb
      match i with
      | 0 => simp at hc hb; subst hc hb; exact h2
      | 1 => simp at hc hb; subst hc hb; exact h4
      | 2 => simp at hc hb; subst hc hb; exact h6
      | i + 3 => simp at hc, r', H', hfin, hq⟩
end

theorem entryEnv_get {args : List AV} {t : Nat} {v : AV} (h : (entryEnv args).get t = some v) : args[t]? = some v := by
  have hm := mem_of_get h
  simp only [entryEnv, List.mem_map, Prod.mk.injEq, Prod.exists] at hm
  obtain ⟨a, i, h1, h2, h3⟩ := hm
  subst h2 h3
  rw [List.mem_zipIdx_iff_getElem?] at h1
  exact h1

/-- THE BODY's PROOF IS THE CALL's. -/
theorem ACalls.body {P : Program} {f : FuncId} {fn : Func} {c : Code} {args : List AV} {H : Heap} {Q : AV → Heap → Prop} {N : Nat} (hf : P.funcs[f]? = some fn) (hb : fn.body = some c) (hN : fn.ntmps = N) (hlen : args.length ≤ N)
    (h : AWp P H N c (ARet P fn H Q) (entryEnv args) H) : ACalls P f args H Q := by
  intro I ι w vs hr hl hv
  refine calls_of_wp hf hb ?_
  have hst : St ⟨I, ι, H, w⟩ N (entryEnv args) H { tmps := vs ++ Array.replicate (fn.ntmps - vs.size) undef, defers := [] } w := by
    refine ⟨rfl, ?_, I, ι, hr, Step.refl _ _ _ _, fun t a ht => ?_⟩
    · simp; omega
    · have ha := entryEnv_get ht
      have hlt : t < vs.size := by rw [hl]; exact (List.getElem?_eq_some_iff.1 ha).1
      have hu : vs[t]? = some vs[t] := Array.getElem?_eq_getElem hlt
      exact ⟨vs[t], by rw [Array.getElem?_append_left hlt]; exact hu, hv t _ a hu ha⟩
  refine wp_mono (h ⟨I, ι, H, w⟩ rfl _ w hst) ?_
  rintro e a' w' ⟨E', H', ⟨he, r, hres, r', H'', hfin, hq⟩, hs⟩
  obtain ⟨I', ι', hr', hst', hE'⟩ := hs.rel
  obtain ⟨v, h1, h2⟩ := hres a' w' I' ι' hr' hE'
  obtain ⟨I2, ι2, k1, k2, k3⟩ := hfin ⟨I, ι, H, w⟩ rfl I' ι' w' v hr' hst' h2
  rcases he with rfl | rfl
  · exact ⟨hs.defers, v, h1, r', H'', I2, ι2, v, rfl, hq, k3, k1, k2⟩
  · exact ⟨hs.defers, v, h1, r', H'', I2, ι2, v, rfl, hq, k3, k1, k2⟩

/-! ### calls -/
section
variable {P : Program} {N : Nat} {o : Oper} {E : Env} {H : Heap} {Q : AV → Heap → Prop}
theorem mapM_aeval {w : World} {I : Nat → Prop} {ι : Plc} {a : Act} (he : ERel w I ι H E a) : ∀ {l : List Operand} {vs : List AV}, l.mapM (aeval E) = some vs → l.length = vs.length ∧ ∀ (i : Nat) (v : Value) (b : AV), (l.map a.eval)[i]? = some v → vs[i]? = some b → VRel w I ι H v b := by
  intro l
  induction l with
  | nil => intro vs h; simp at h; subst h; simp
  | cons x l ih =>
    intro vs h
    simp only [List.mapM_cons, Option.pure_def, Option.bind_eq_bind, Option.bind_eq_some_iff, Option.some.injEq] at h
    obtain ⟨v0, h0, vs0, h1, rfl⟩ := h
    obtain ⟨l1, l2⟩ := ih h1
    refine ⟨by simp [l1], ?_⟩
    intro i v b hv hb
    cases i with
    | zero => simp at hv hb; subst hv hb; exact aeval_rel he h0
    | succ i => simp at hv hb; exact l2 i v b (by simpa using hv) hb

/-- The argument list of a call. -/
def aargs (E : Env) : List Operand → Option (List AV)
  | [] => some []
  | x :: r => match aeval E x, aargs E r with
    | some v, some vs => some (v :: vs)
    | _, _ => none
theorem aargs_mapM {l : List Operand} {vs : List AV} (h : aargs E l = some vs) : l.mapM (aeval E) = some vs := by
  induction l generalizing vs with
  | nil => simpa [aargs] using h
  | cons x r ih =>
    unfold aargs at h
    split at h
    · rename_i v us e1 e2
      cases h
      simp [List.mapM_cons, e1, ih e2]
    · cases h

theorem opr_call {F : FuncId} {f : Operand} {args : Array Operand} {at_ : Array TypeId} {vs : List AV} (ho : o.op = .call { callee := .value f, args := args, argTypes := at_ }) (hf : aeval E f = some (.pv (.fn F)))
    (hc : ∀ (args : Array Value) (w : World), (callFunc F args).run P w = .ok (.enter F args) w) (hv : aargs E args.toList = some vs) (h : ACalls P F vs H Q) : OpR P N o E H Q := by
  intro a w I ι _ _ hr he K QQ hk
  have hfv := (aeval_rel he hf).fn_inv
  obtain ⟨h1, h2⟩ := mapM_aeval he (aargs_mapM hv)
  unfold Oper.wp execOp
  simp only [ho, resolve, hfv, Deferred.ofValue, Sem.run_bind, Sem.run_pure, Result.andThen_ok, invoke, hc, Oper.upon_enter]
  refine (h I ι w _ hr (by simpa using h1) (fun i v b hv hb => h2 i v b (by simpa using hv) hb)).mono ?_
  rintro e w' ⟨r, H', I', ι', v, rfl, hq, k1, k2, k3⟩
  exact hk v w' I' ι' r H' hq k1 k2 k3
theorem opr_call_clo {F : FuncId} {f : Operand} {args : Array Operand} {at_ : Array TypeId} {vs caps : List AV} (ho : o.op = .call { callee := .value f, args := args, argTypes := at_ }) (hf : aeval E f = some (.clo F caps))
    (hc : ∀ (args : Array Value) (w : World), (callFunc F args).run P w = .ok (.enter F args) w) (hv : aargs E args.toList = some vs) (h : ACalls P F (vs ++ caps) H Q) : OpR P N o E H Q := by
  intro a w I ι _ _ hr he K QQ hk
  have hfv := aeval_rel he hf
  generalize hfc : a.eval f = fc at hfv
  obtain ⟨h1, h2⟩ := mapM_aeval he (aargs_mapM hv)
  cases hfv with
  | @clo _ us _ hl hh =>
    unfold Oper.wp execOp
    simp only [ho, resolve, hfc, Deferred.ofValue, Sem.run_bind, Sem.run_pure, Result.andThen_ok, invoke, hc, Oper.upon_enter, Array.empty_append]
    have h1' : args.size = vs.length := by simpa using h1
    refine (h I ι w _ hr (by simp [hl, h1']) (fun i v b hv hb => ?_)).mono ?_
    · by_cases hi : i < args.size
      · rw [Array.getElem?_append_left (by simpa using hi)] at hv
        rw [List.getElem?_append_left (by omega)] at hb
        exact h2 i v b (by simpa using hv) hb
      · rw [Array.getElem?_append_right (by simp; omega)] at hv
        rw [List.getElem?_append_right (by omega)] at hb
        simp only [Array.size_map] at hv
        rw [h1'] at hv
        exact hh _ v b hv hb
    · rintro e w' ⟨r, H', I', ι', v, rfl, hq, k1, k2, k3⟩
      exact hk v w' I' ι' r H' hq k1 k2 k3
end

/-! ### the frame: a call that is handed nothing of the heap leaves the heap -/
/-- Values that name no object. -/
theorem ACalls.frame0 {P : Program} {f : FuncId} {args : List AV} {Q : AV → Heap → Prop} (h : ACalls P f args [] Q) (hp : ∀ a ∈ args, Clo [] a) (hq : ∀ r H', Q r H' → H' = []) (H : Heap) : ACalls P f args H (fun r H' => Q r [] ∧ H' = H) := by
  intro I ι w vs hr hl hv
  have hs : Sub [] H := fun _ _ h => by cases h
  have hc : Closed [] := fun _ _ h => by cases h
  refine (h I ι w vs (hr.restrict hs hc) hl (fun i v a h1 h2 => (hv i v a h1 h2).restrict hs (hp a (List.mem_of_getElem? h2)))).mono ?_
  rintro e w' ⟨r, H', I', ι', v, rfl, q, k1, k2, k3⟩
  have := hq r H' q
  subst this
  have hno : ∀ b, ¬ Own ι [] b := fun b ⟨_, _, _, hx, _⟩ => by cases hx
  have hno' : ∀ b, ¬ Own ι' [] b := fun b ⟨_, _, _, hx, _⟩ => by cases hx
  have hst : Step I ι H w I' ι H w' := by
    refine ⟨k3.os, k3.tape, k3.output, k3.size, k3.froz, k3.imm, fun b hb => ?_, fun b hb => .inl hb, fun b hb _ => k3.keep b hb (hno b), fun id o ho => ⟨o, ho, Nat.le_refl _, fun _ => ⟨rfl, rfl, fun _ => Nat.le_refl _⟩⟩⟩
    rcases k3.immNew b hb with h1 | h1 | h1
    · exact .inl h1
    · exact absurd h1 (hno b)
    · exact .inr (.inr h1)
  have hrel : Rel I' ι H w' := by
    refine ⟨k2.imm, fun id o ho => ?_, hr.inj⟩
    refine (hr.obj id o ho).keep rfl (fun b' cap' e1 hlt => ⟨k3.keep b' hlt (hno b'), fun e3 hi => ?_⟩) (fun r _ a _ v hv => hv.mono hr hst)
    rcases k3.immNew b' hi with h1 | h1 | h1
    · exact e3 h1
    · exact hno b' h1
    · omega
  refine ⟨r, H, I', ι, v, rfl, ⟨q, rfl⟩, ?_, hrel, hst⟩
  exact k1.mono' (fun _ _ => rfl) (fun _ h => h) (fun _ _ h => by cases h)
end Go.Abs
end
section
set_option linter.unusedVariables false
set_option linter.unusedSimpArgs false
namespace Go.Abs

/-- An array of cells and what its cells are. -/
def CRel (w : World) (I : Nat → Prop) (ι : Plc) (H : Heap) (c : Array Value) (l : List AV) : Prop :=
  c.size = l.length ∧ ∀ (j : Nat) (a : AV), l[j]? = some a → ∃ u, c[j]? = some u ∧ u.oneCell' = true ∧ VRel w I ι H u a

theorem fold_set (off : Nat) : ∀ (l : List Value) (k : Nat) (cs : Array Value),
    ((l.zipIdx k).foldl (fun cs p => cs.setIfInBounds (off + p.2) p.1) cs).size = cs.size ∧
    ∀ i, ((l.zipIdx k).foldl (fun cs p => cs.setIfInBounds (off + p.2) p.1) cs)[i]? = if off + k ≤ i ∧ i < off + k + l.length ∧ i < cs.size then l[i - (off + k)]? else cs[i]?
  | [], k, cs => ⟨by simp, fun i => by rw [List.zipIdx_nil, List.foldl_nil, if_neg (by simp only [List.length_nil]; omega)]⟩
  | v :: l, k, cs => by
    obtain ⟨h1, h2⟩ := fold_set off l (k + 1) (cs.setIfInBounds (off + k) v)
    simp only [List.zipIdx_cons, List.foldl_cons]
    refine ⟨by rw [h1]; simp, fun i => ?_⟩
    rw [h2 i]
    simp only [Array.size_setIfInBounds, List.length_cons]
    by_cases c1 : i = off + k
    · subst c1
      by_cases c2 : off + k < cs.size
      · rw [if_neg (by omega), if_pos (by omega)]
        simp [c2]
      · rw [if_neg (by omega), if_neg (by omega)]
        rw [Array.setIfInBounds]
        simp [c2]
    · by_cases c2 : off + k < i ∧ i < off + k + (l.length + 1) ∧ i < cs.size
      · rw [if_pos (by omega), if_pos (by omega)]
        obtain ⟨n, hn⟩ : ∃ n, i - (off + k) = n + 1 := ⟨i - (off + k) - 1, by omega⟩
        rw [hn, List.getElem?_cons_succ]
        congr 1
        omega
      · rw [if_neg (by omega), if_neg (by omega)]
        rw [Array.getElem?_setIfInBounds_ne (by omega)]

def afill (l : List AV) (off : Nat) (vs : List AV) : List AV := l.take off ++ (vs ++ l.drop (off + vs.length))

theorem CRel.fill {w : World} {I : Nat → Prop} {ι : Plc} {H : Heap} {c d : Array Value} {l vs : List AV} {off : Nat} (hc : CRel w I ι H c l) (hd : CRel w I ι H d vs) (hfit : off + vs.length ≤ l.length) :
    CRel w I ι H (d.zipIdx.foldl (fun cs (x, j) => cs.setIfInBounds (off + j) x) c) (afill l off vs) := by
  have hf := fold_set off d.toList 0 c
  have e : d.zipIdx.foldl (fun cs (x, j) => cs.setIfInBounds (off + j) x) c = (d.toList.zipIdx 0).foldl (fun cs p => cs.setIfInBounds (off + p.2) p.1) c := by
    rw [← Array.foldl_toList, Array.toList_zipIdx]
  rw [e]
  obtain ⟨h1, h2⟩ := hf
  refine ⟨by rw [h1, hc.1]; simp [afill]; omega, fun j a ha => ?_⟩
  rw [h2 j]
  simp only [Nat.add_zero, Array.length_toList, hd.1]
  unfold afill at ha
  by_cases c1 : j < off
  · rw [if_neg (by omega)]
    rw [List.getElem?_append_left (by simp; omega), List.getElem?_take, if_pos c1] at ha
    exact hc.2 j a ha
  · by_cases c2 : j < off + vs.length
    · rw [if_pos (by have := hc.1; omega)]
      have hmin : min off l.length = off := by omega
      rw [List.getElem?_append_right (by simp; omega), List.getElem?_append_left (by simp; omega)] at ha
      simp only [List.length_take, hmin] at ha
      obtain ⟨u, q1, q2, q3⟩ := hd.2 (j - off) a ha
      exact ⟨u, by simpa using q1, q2, q3⟩
    · rw [if_neg (by omega)]
      have hmin : min off l.length = off := by omega
      rw [List.getElem?_append_right (by simp; omega), List.getElem?_append_right (by simp; omega), List.getElem?_drop] at ha
      simp only [List.length_take, hmin] at ha
      rw [show off + vs.length + (j - off - vs.length) = j by omega] at ha
      exact hc.2 j a ha

theorem CRel.of_cells {w : World} {I : Nat → Prop} {ι : Plc} {H : Heap} {v : Value} {a : AV} {l : List AV} (hv : VRel w I ι H v a) (h : acl a = some l) : CRel w I ι H v.cells l :=
  let ⟨h1, _, h3⟩ := cells_rel hv h; ⟨h1, h3⟩

/-- The parts of a literal. -/
def aparts (E : Env) : List (Nat × Operand) → Option (List (Nat × AV))
  | [] => some []
  | (i, x) :: r => match aeval E x, aparts E r with
    | some v, some vs => some ((i, v) :: vs)
    | _, _ => none
def afills (place : Nat → Option (Nat × Nat)) (l : List AV) : List (Nat × AV) → Option (List AV)
  | [] => some l
  | (i, a) :: r => match place i, acl a with
    | some (off, size), some vs => if vs.length = size ∧ off + size ≤ l.length then afills place (afill l off vs) r else none
    | _, _ => none

theorem CRel.fills {w : World} {I : Nat → Prop} {ι : Plc} {H : Heap} {E : Env} {a : Act} (he : ERel w I ι H E a) (place : Nat → Option (Nat × Nat)) : ∀ {ps : List (Nat × Operand)} {aps : List (Nat × AV)} {c : Array Value} {l l' : List AV},
    aparts E ps = some aps → CRel w I ι H c l → afills place l aps = some l' → ∃ c', Instr.fill place c (ps.map fun p => (p.1, a.eval p.2)) = some c' ∧ CRel w I ι H c' l' := by
  intro ps
  induction ps with
  | nil =>
    intro aps c l l' h1 h2 h3
    simp [aparts] at h1; subst h1
    simp [afills] at h3; subst h3
    exact ⟨c, rfl, h2⟩
  | cons p r ih =>
    obtain ⟨i, x⟩ := p
    intro aps c l l' h1 h2 h3
    unfold aparts at h1
    split at h1
    · rename_i v vs e1 e2
      cases h1
      unfold afills at h3
      split at h3
      · rename_i off size us e3 e4
        split at h3
        · rename_i hfit
          have hcr := CRel.of_cells (aeval_rel he e1) e4
          have hsz : (a.eval x).cells.size = size := by rw [hcr.1]; exact hfit.1
          have hcl : c.size = l.length := h2.1
          have hnew := CRel.fill (off := off) h2 hcr (by rw [hfit.1]; exact hfit.2)
          obtain ⟨c', k1, k2⟩ := ih e2 hnew h3
          refine ⟨c', ?_, k2⟩
          have hneg : ¬ ((a.eval x).cells.size ≠ size ∨ off + (a.eval x).cells.size > c.size) := by
            have := hfit.2
            omega
          simp only [List.map_cons, Instr.fill, e3]
          rw [if_neg (by simpa using hneg)]
          exact k1
        · cases h3
      · cases h3
    · cases h1

section
variable {P : Program} {N : Nat} {o : Oper} {E : Env} {H : Heap} {T : TypeId} {x y : Operand}

theorem opd_build {parts : Array (Nat × Operand)} {fs : Array Field} {places : Array (Nat × Nat)} {z : Value} {v0 : AV} {l0 l : List AV} {aps : List (Nat × AV)} (ho : o.op = .build T parts) (hS : P.underlying T = some (.struct fs))
    (hz : ∀ w, (zeroValue T).run P w = .ok z w) (hv : ZV z v0) (hl0 : acl v0 = some l0) (hpl : ∀ w, ((fs.mapM fun f => do pure (f.offset, ← sizeOf f.type)) : Sem (Array (Nat × Nat))).run P w = .ok places w)
    (hp : aparts E parts.toList = some aps) (hf : afills (places[·]?) l0 aps = some l) : OpD P N o E H (.agg l) H :=
  .of_run fun a w I ι _ he => by
    have hc0 := CRel.of_cells (ZV.rel (w := w) (I := I) (ι := ι) (H := H) hv) hl0
    obtain ⟨c', h1, h2⟩ := CRel.fills he (places[·]?) hp hc0 hf
    refine ⟨.agg c', ?_, .agg h2.1 (fun j u hu => ?_) (fun j u b hu hb => ?_)⟩
    · have h1' : Instr.fill (places[·]?) z.cells (parts.map fun p => (p.1, a.eval p.2)).toList = some c' := by rw [Array.toList_map]; exact h1
      simp only [execOp, ho, Instr.build, Sem.run_bind, hz, run_underlying hS, hpl, Result.andThen_ok, h1', Sem.run_pure]
    · have hlt : j < l.length := by rw [← h2.1]; exact (Array.getElem?_eq_some_iff.1 hu).1
      obtain ⟨u', q1, q2, _⟩ := h2.2 j _ (List.getElem?_eq_getElem hlt)
      rw [hu] at q1; cases q1; exact q2
    · obtain ⟨u', q1, _, q3⟩ := h2.2 j b hb
      rw [hu] at q1; cases q1; exact q3
theorem opd_build_arr {parts : Array (Nat × Operand)} {n sz : Nat} {e : TypeId} {z : Value} {v0 : AV} {l0 l : List AV} {aps : List (Nat × AV)} (ho : o.op = .build T parts) (hS : P.underlying T = some (.array n e))
    (hz : ∀ w, (zeroValue T).run P w = .ok z w) (hv : ZV z v0) (hl0 : acl v0 = some l0) (hs : ∀ w, (sizeOf e).run P w = .ok sz w)
    (hp : aparts E parts.toList = some aps) (hf : afills (fun i => some (i * sz, sz)) l0 aps = some l) : OpD P N o E H (.agg l) H :=
  .of_run fun a w I ι _ he => by
    have hc0 := CRel.of_cells (ZV.rel (w := w) (I := I) (ι := ι) (H := H) hv) hl0
    obtain ⟨c', h1, h2⟩ := CRel.fills he (fun i => some (i * sz, sz)) hp hc0 hf
    refine ⟨.agg c', ?_, .agg h2.1 (fun j u hu => ?_) (fun j u b hu hb => ?_)⟩
    · have h1' : Instr.fill (fun i => some (i * sz, sz)) z.cells (parts.map fun p => (p.1, a.eval p.2)).toList = some c' := by rw [Array.toList_map]; exact h1
      simp only [execOp, ho, Instr.build, Sem.run_bind, hz, run_underlying hS, hs, Result.andThen_ok, h1', Sem.run_pure]
    · have hlt : j < l.length := by rw [← h2.1]; exact (Array.getElem?_eq_some_iff.1 hu).1
      obtain ⟨u', q1, q2, _⟩ := h2.2 j _ (List.getElem?_eq_getElem hlt)
      rw [hu] at q1; cases q1; exact q2
    · obtain ⟨u', q1, _, q3⟩ := h2.2 j b hb
      rw [hu] at q1; cases q1; exact q3

/-- A field of a value. -/
def FieldV1 (P : Program) (T f off : Nat) : Prop := ∃ fs fd, P.underlying T = some (.struct fs) ∧ fs[f]? = some fd ∧ fd.offset = off ∧ ∀ w, (isAgg fd.type).run P w = .ok false w
def FieldVn (P : Program) (T f off n : Nat) : Prop := ∃ fs fd, P.underlying T = some (.struct fs) ∧ fs[f]? = some fd ∧ fd.offset = off ∧ (∀ w, (isAgg fd.type).run P w = .ok true w) ∧ (∀ w, (sizeOf fd.type).run P w = .ok n w) ∧ 0 < n
/-! ### slice literals -/
/-- The rows of a literal whose parts stand in order. -/
def arows : Nat → List (Nat × AV) → Option (List (List AV))
  | _, [] => some []
  | k, (i, a) :: r => match Nat.beq i k, acl a, arows (k + 1) r with
    | true, some l, some ls => some (l :: ls)
    | _, _, _ => none
theorem fill_rows {w : World} {I : Nat → Prop} {ι : Plc} {a : Act} (he : ERel w I ι H E a) (sz : Nat) : ∀ {ps : List (Nat × Operand)} {aps : List (Nat × AV)} {rows : List (List AV)} {k : Nat} {c : Array Value},
    aparts E ps = some aps → arows k aps = some rows → (∀ r ∈ rows, r.length = sz) → (k + rows.length) * sz ≤ c.size →
    ∃ c', Instr.fill (fun i => some (i * sz, sz)) c (ps.map fun p => (p.1, a.eval p.2)) = some c' ∧ c'.size = c.size ∧ (∀ i, i < k * sz → c'[i]? = c[i]?) ∧
      ∀ (m : Nat) (r : List AV), rows[m]? = some r → ∀ (j : Nat) (b : AV), r[j]? = some b → ∃ u, c'[(k + m) * sz + j]? = some u ∧ u.oneCell' = true ∧ VRel w I ι H u b := by
  intro ps
  induction ps with
  | nil =>
    intro aps rows k c h1 h2 h3 h4
    simp [aparts] at h1; subst h1
    simp [arows] at h2; subst h2
    exact ⟨c, rfl, rfl, fun _ _ => rfl, by simp⟩
  | cons p r ih =>
    obtain ⟨i, x⟩ := p
    intro aps rows k c h1 h2 h3 h4
    unfold aparts at h1
    split at h1
    · rename_i v vs e1 e2
      cases h1
      unfold arows at h2
      split at h2
      · rename_i l ls e3 e4 e5
        cases h2
        have hik : i = k := Nat.eq_of_beq_eq_true e3
        subst hik
        have hll : l.length = sz := h3 l (by simp)
        have hcr := CRel.of_cells (aeval_rel he e1) e4
        have hlen : (i + (ls.length + 1)) * sz ≤ c.size := by simpa using h4
        have hfit : i * sz + sz ≤ c.size := by
          have : (i + 1) * sz ≤ (i + (ls.length + 1)) * sz := Nat.mul_le_mul_right _ (by omega)
          rw [Nat.add_mul] at this; omega
        obtain ⟨f1, f2⟩ := fold_set (i * sz) (a.eval x).cells.toList 0 c
        have e : (a.eval x).cells.zipIdx.foldl (fun cs (x, j) => cs.setIfInBounds (i * sz + j) x) c = ((a.eval x).cells.toList.zipIdx 0).foldl (fun cs p => cs.setIfInBounds (i * sz + p.2) p.1) c := by
          rw [← Array.foldl_toList, Array.toList_zipIdx]
        rw [← e] at f1 f2
        have hsz : (a.eval x).cells.size = sz := by rw [hcr.1, hll]
        obtain ⟨c', k1, k2, k3, k4⟩ := ih (k := i + 1) (c := (a.eval x).cells.zipIdx.foldl (fun cs (x, j) => cs.setIfInBounds (i * sz + j) x) c) e2 e5 (fun r hr => h3 r (by simp [hr])) (by rw [f1]; rw [show i + 1 + ls.length = i + (ls.length + 1) by omega]; exact hlen)
        refine ⟨c', ?_, k2.trans f1, fun q hq => ?_, fun m r hr j b hb => ?_⟩
        · have hneg : ¬ ((a.eval x).cells.size ≠ sz ∨ i * sz + (a.eval x).cells.size > c.size) := by omega
          simp only [List.map_cons, Instr.fill]
          rw [if_neg (by simpa using hneg)]
          exact k1
        · have hq2 : q < (i + 1) * sz := by rw [Nat.add_mul]; omega
          rw [k3 q hq2, f2 q, if_neg (by omega)]
        · cases m with
          | zero =>
            simp at hr; subst hr
            obtain ⟨u, q1, q2, q3⟩ := hcr.2 j b hb
            have hj : j < sz := by rw [← hll]; exact (List.getElem?_eq_some_iff.1 hb).1
            refine ⟨u, ?_, q2, q3⟩
            have hq2 : (i + 0) * sz + j < (i + 1) * sz := by rw [Nat.add_zero, Nat.add_mul i 1, Nat.one_mul]; omega
            rw [k3 _ hq2, f2, if_pos (by simp; omega)]
            simpa using q1
          | succ m =>
            simp at hr
            obtain ⟨u, q1, q2, q3⟩ := k4 m r hr j b hb
            exact ⟨u, by rw [show i + (m + 1) = i + 1 + m by omega]; exact q1, q2, q3⟩
      · cases h2
    · cases h1

/-- A new block that is only read. -/
theorem Rel.newImm {I : Nat → Prop} {ι : Plc} {w w' : World} {c : Array Value} {t : TypeId} (hr : Rel I ι H w) (hos : w'.os = w.os) (htape : w'.tape = w.tape) (hout : w'.output = w.output) (hw : w'.heap = w.heap.push (.cells c t (0, 0))) :
    Rel (fun b => I b ∨ b = w.heap.size) ι H w' ∧ Step I ι H w (fun b => I b ∨ b = w.heap.size) ι H w' := by
  have holdb : ∀ x, x < w.heap.size → w'.heap[x]? = w.heap[x]? := fun x hx => by rw [hw, Array.getElem?_push, if_neg (Nat.ne_of_lt hx)]
  have hsize : w'.heap.size = w.heap.size + 1 := by rw [hw]; simp
  have hst : Step I ι H w (fun b => I b ∨ b = w.heap.size) ι H w' := by
    refine ⟨hos, htape, hout, by omega, fun a ha => ?_, fun _ h => .inl h, fun b h => ?_, fun _ h => .inl h, fun x hx _ => holdb x hx, fun _ o h => ⟨o, h, Nat.le_refl _, fun _ => ⟨rfl, rfl, fun _ => Nat.le_refl _⟩⟩⟩
    · simp [World.frozen?, holdb a.block ha]
    · rcases h with h | h
      · exact .inl h
      · exact .inr (.inr (by omega))
  refine ⟨⟨fun x hx => ?_, fun j o hj => ?_, hr.inj⟩, hst⟩
  · rcases hx with h | h
    · have := hr.imm x h; omega
    · omega
  · refine (hr.obj j o hj).keep rfl (fun b' cap' e1 hlt => ⟨holdb b' hlt, fun e3 h => ?_⟩) (fun r _ a _ v hv => hv.mono hr hst)
    rcases h with h | h
    · exact e3 h
    · omega

theorem made_size (n : Nat) (zc : Array Value) : ((Array.range n).map (zc[· % zc.size]!)).size = n := by simp

/-- The values of rows that name nothing. -/
theorem opd_buildSlice {e : TypeId} {sz n : Nat} {z : Value} {parts : Array (Nat × Operand)} {aps : List (Nat × AV)} {rows : List (List AV)} {ps : List (List PV)} (ho : o.op = .buildSlice T n parts) (hT : P.underlying T = some (.slice e)) (hs : ∀ w, (sizeOf e).run P w = .ok sz w)
    (hz : ∀ w, (zeroValue e).run P w = .ok z w) (hn : n * sz ≤ 16777216) (hsz : 0 < sz) (hp : aparts E parts.toList = some aps) (hr : arows 0 aps = some rows) (hps : ps.map (·.map AV.pv) = rows) (hlen : ps.length = n) (hrl : ∀ r ∈ ps, r.length = sz) : OpD P N o E H (.pv (.sl ps)) H := by
  intro a w I ι _ _ hrel he K Q hk
  subst hps
  have hf := fun zc : Array Value => fill_rows (c := (Array.range (n * sz)).map (zc[· % zc.size]!)) he sz hp hr (fun r hr => by
    obtain ⟨q, h1, h2⟩ := List.mem_map.1 hr
    rw [← h2]; simpa using hrl q h1) (by rw [made_size]; simp [hlen])
  -- the cells do not hang on the zero
  obtain ⟨c', k1, k2, _, k4⟩ := hf z.cells
  have hsz' : c'.size = n * sz := by rw [k2, made_size]
  have hn' : ¬ (n * sz > 2 ^ 24) := by omega
  have hrun : ∃ c'', (Instr.buildSlice T n (parts.map fun p => (p.1, a.eval p.2))).run P w = .ok (.slice (some ⟨w.heap.size, 0, none⟩) n n) (w.alloc (.cells c'' e)) ∧ c''.size = n * sz ∧
      ∀ (m : Nat) (r : List AV), (ps.map (·.map AV.pv))[m]? = some r → ∀ (j : Nat) (b : AV), r[j]? = some b → ∃ u, c''[m * sz + j]? = some u ∧ u.oneCell' = true ∧ VRel w I ι H u b := by
    by_cases h0 : n * sz = 0
    · obtain ⟨c0, q1, q2, _, q4⟩ := hf #[]
      refine ⟨c0, ?_, by rw [q2, made_size], fun m r h1 j b h2 => by have := q4 m r h1 j b h2; simpa using this⟩
      rw [← Array.toList_map] at q1
      simp only [h0] at q1
      simp only [Instr.buildSlice, Sem.run_bind, run_underlying hT, Result.andThen_ok, hs, Sem.run_ite, hn', if_false, h0, if_true, Sem.run_pure, q1, newRow, run_newObj]
      rfl
    · refine ⟨c', ?_, hsz', fun m r h1 j b h2 => by have := k4 m r h1 j b h2; simpa using this⟩
      rw [← Array.toList_map] at k1
      simp only [Instr.buildSlice, Sem.run_bind, run_underlying hT, Result.andThen_ok, hs, Sem.run_ite, hn', if_false, h0, hz, Sem.run_pure, k1, newRow, run_newObj]
      rfl
  obtain ⟨c2, g1, g2, g3⟩ := hrun
  obtain ⟨m1, m2⟩ := Rel.newImm (c := c2) (t := e) (w' := w.alloc (.cells c2 e)) hrel rfl rfl rfl rfl
  unfold Oper.wp execOp
  simp only [ho, Sem.run_bind, g1, Result.andThen_ok, Sem.run_pure]
  refine hk _ _ _ ι _ _ ⟨rfl, rfl⟩ (.pv ?_) m1 m2
  have hcell : ∀ j, (w.alloc (.cells c2 e)).cell? ⟨w.heap.size, j, none⟩ = c2[j]? := fun j => World.cell?_alloc_new w c2 e j
  have := PRep.sl (w := w.alloc (.cells c2 e)) (I := fun b => I b ∨ b = w.heap.size) w.heap.size 0 n sz ps (fun i k => (c2[i * sz + k]?).getD undef) (.inr rfl) hsz hrl (by omega)
    (fun i r hi k p hk => by
      obtain ⟨u, q1, q2, q3⟩ := g3 i (r.map .pv) (by simp [hi]) k (.pv p) (by simp [hk])
      rw [hcell, Nat.zero_add, q1]; rfl)
    (fun i r hi k p hk => by
      obtain ⟨u, q1, q2, q3⟩ := g3 i (r.map .pv) (by simp [hi]) k (.pv p) (by simp [hk])
      rw [q1]
      exact (q3.mono hrel m2).pv_inv)
  rw [hlen] at this
  exact this

/-- A literal that is one's own: it may be appended to or written. -/
theorem opd_buildSlice_own {e : TypeId} {sz n id : Nat} {z : Value} {parts : Array (Nat × Operand)} {aps : List (Nat × AV)} {rows : List (List AV)} (ho : o.op = .buildSlice T n parts) (hT : P.underlying T = some (.slice e)) (hs : ∀ w, (sizeOf e).run P w = .ok sz w)
    (hz : ∀ w, (zeroValue e).run P w = .ok z w) (hn : n * sz ≤ 16777216) (hsz : 0 < sz) (hp : aparts E parts.toList = some aps) (hr : arows 0 aps = some rows) (hlen : rows.length = n) (hrl : ∀ r ∈ rows, r.length = sz) (hid : H.get id = none) :
    OpD P N o E H (.osl id 0 0 n) ((id, ⟨0, sz, e, rows⟩) :: H) := by
  intro a w I ι _ _ hrel he K Q hk
  have hf := fun zc : Array Value => fill_rows (c := (Array.range (n * sz)).map (zc[· % zc.size]!)) he sz hp hr hrl (by rw [made_size]; simp [hlen])
  have hn' : ¬ (n * sz > 2 ^ 24) := by omega
  have hrun : ∃ c'', (Instr.buildSlice T n (parts.map fun p => (p.1, a.eval p.2))).run P w = .ok (.slice (some ⟨w.heap.size, 0, none⟩) n n) (w.alloc (.cells c'' e)) ∧ c''.size = n * sz ∧
      ∀ (m : Nat) (r : List AV), rows[m]? = some r → ∀ (j : Nat) (b : AV), r[j]? = some b → ∃ u, c''[m * sz + j]? = some u ∧ u.oneCell' = true ∧ VRel w I ι H u b := by
    by_cases h0 : n * sz = 0
    · obtain ⟨c0, q1, q2, _, q4⟩ := hf #[]
      refine ⟨c0, ?_, by rw [q2, made_size], fun m r h1 j b h2 => by have := q4 m r h1 j b h2; simpa using this⟩
      rw [← Array.toList_map] at q1
      simp only [h0] at q1
      simp only [Instr.buildSlice, Sem.run_bind, run_underlying hT, Result.andThen_ok, hs, Sem.run_ite, hn', if_false, h0, if_true, Sem.run_pure, q1, newRow, run_newObj]
      rfl
    · obtain ⟨c', k1, k2, _, k4⟩ := hf z.cells
      refine ⟨c', ?_, by rw [k2, made_size], fun m r h1 j b h2 => by have := k4 m r h1 j b h2; simpa using this⟩
      rw [← Array.toList_map] at k1
      simp only [Instr.buildSlice, Sem.run_bind, run_underlying hT, Result.andThen_ok, hs, Sem.run_ite, hn', if_false, h0, hz, Sem.run_pure, k1, newRow, run_newObj]
      rfl
  obtain ⟨c2, g1, g2, g3⟩ := hrun
  have hmax : n ≤ maxLen := by
    have : n ≤ n * sz := Nat.le_mul_of_pos_right _ hsz
    simp only [maxLen]; omega
  obtain ⟨m1, m2⟩ := Rel.place (H' := (id, ⟨0, sz, e, rows⟩) :: H) (id := id) (cap := n) (ob' := ⟨0, sz, e, rows⟩) (cs' := c2) (w' := w.alloc (.cells c2 e)) hrel rfl rfl rfl rfl (fun o ho => by rw [hid] at ho; cases ho) hsz g2 (by simp [hlen]) hmax hrl g3
    (get_cons_same _ _ _) (fun j hj => get_cons_other _ _ hj)
  unfold Oper.wp execOp
  simp only [ho, Sem.run_bind, g1, Result.andThen_ok, Sem.run_pure]
  exact hk _ _ I _ _ _ ⟨rfl, rfl⟩ (.osl ⟨0, sz, e, rows⟩ (get_cons_same _ _ _) (Nat.le_refl _) rfl fun _ => ⟨hsz, by simp [hlen], .inl ⟨w.heap.size, n, 0, by simp, by simp, fun _ => by simp⟩⟩) m1 m2
end
end Go.Abs
end
