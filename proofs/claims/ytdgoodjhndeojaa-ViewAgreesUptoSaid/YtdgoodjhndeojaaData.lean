/-
  THE DATA OF THE MAP as plain Lean types, and how they lie in cells; plain laws on lists. Conditions: none.
-/
import Derived.Test.YtdgoodjhndeojaaFacts
import Derived.Test.YtdgoodjhndeojaaAbs13
set_option linter.unusedVariables false
set_option linter.unusedSimpArgs false
namespace Go.Proofs.Ytdgoodjhndeojaa
open Go.Abs
theorem follows : Try.prog.follows .mixedOrders = true := by kernel_rfl

structure GTag where
  key : ByteArray
  val : ByteArray
structure GObj where
  id : ByteArray
  kind : Int
  x : Int
  y : Int
  refs : List ByteArray
  tags : List GTag
structure GEdit where
  op : Int
  id : ByteArray
  other : ByteArray
  node : ByteArray
  x : Int
  y : Int
  key : ByteArray
  val : ByteArray
  refs : List ByteArray
  obj : GObj
structure GEv where
  kind : Int
  edits : List Int

def encStr (s : ByteArray) : List PV := [.str s]
def encInt (n : Int) : List PV := [.int .i64 n]
def encTag (t : GTag) : List PV := [.str t.key, .str t.val]
def encObj (o : GObj) : List PV := [.str o.id, .int .i64 o.kind, .int .i64 o.x, .int .i64 o.y, .sl (o.refs.map encStr), .sl (o.tags.map encTag)]
def encEdit (e : GEdit) : List PV := [.int .i64 e.op, .str e.id, .str e.other, .str e.node, .int .i64 e.x, .int .i64 e.y, .str e.key, .str e.val, .sl (e.refs.map encStr),
  .str e.obj.id, .int .i64 e.obj.kind, .int .i64 e.obj.x, .int .i64 e.obj.y, .sl (e.obj.refs.map encStr), .sl (e.obj.tags.map encTag)]
def slStrs (l : List ByteArray) : PV := .sl (l.map encStr)
def slTags (l : List GTag) : PV := .sl (l.map encTag)
def slObjs (l : List GObj) : PV := .sl (l.map encObj)
def slEdits (l : List GEdit) : PV := .sl (l.map encEdit)
def slInts (l : List Int) : PV := .sl (l.map encInt)
def zObj : GObj := ⟨⟨#[]⟩, 0, 0, 0, [], []⟩

theorem map_get {α : Type} {f : α → List PV} {l : List α} {k : Nat} {a : α} (h : l[k]? = some a) : (l.map f)[k]? = some (f a) := by rw [List.getElem?_map, h]; rfl
theorem get_of_lt {α : Type} {l : List α} {k : Nat} (h : k < l.length) : ∃ a, l[k]? = some a := ⟨_, List.getElem?_eq_getElem h⟩
theorem fidx_some {α : Type} {p : α → Bool} {l : List α} {k : Nat} {a : α} (h : ∀ j, j < k → ∀ b, l[j]? = some b → p b = false) (hk : l[k]? = some a) (hp : p a = true) : l.findIdx? p = some k := by
  rw [List.findIdx?_eq_some_iff_getElem]
  obtain ⟨hlt, he⟩ := List.getElem?_eq_some_iff.1 hk
  refine ⟨hlt, by rw [he]; exact hp, fun j hj => ?_⟩
  have := h j hj l[j] (List.getElem?_eq_getElem (by omega))
  simp [this]
theorem fidx_none {α : Type} {p : α → Bool} {l : List α} (h : ∀ j, j < l.length → ∀ b, l[j]? = some b → p b = false) : l.findIdx? p = none := by
  rw [List.findIdx?_eq_none_iff]
  intro x hx
  obtain ⟨j, hj⟩ := List.mem_iff_getElem?.1 hx
  exact h j (List.getElem?_eq_some_iff.1 hj).1 x hj
/-- Go's index of a first element. -/
def gidx {α : Type} (p : α → Bool) (l : List α) : Int := match l.findIdx? p with | some i => (i : Int) | none => -1
theorem gidx_any {α : Type} (p : α → Bool) (l : List α) : decide (0 ≤ gidx p l) = l.any p := by
  unfold gidx
  cases h : l.findIdx? p with
  | none =>
    have : l.any p = false := by
      rw [List.findIdx?_eq_none_iff] at h
      rw [List.any_eq_false]
      intro x hx; simp [h x hx]
    simp [this]
  | some i =>
    have : l.any p = true := by
      rw [List.findIdx?_eq_some_iff_getElem] at h
      obtain ⟨h1, h2, _⟩ := h
      exact List.any_eq_true.2 ⟨_, List.getElem_mem h1, h2⟩
    simp [this]
theorem gidx_cases {α : Type} (p : α → Bool) (l : List α) : (gidx p l = -1 ∧ l.find? p = none) ∨ ∃ (k : Nat) (o : α), gidx p l = (k : Int) ∧ l[k]? = some o ∧ l.find? p = some o := by
  cases h : l.findIdx? p with
  | none =>
    left
    refine ⟨by simp [gidx, h], ?_⟩
    rw [List.findIdx?_eq_none_iff] at h
    rw [List.find?_eq_none]
    intro x hx; simp [h x hx]
  | some k =>
    right
    have h' := h
    rw [List.findIdx?_eq_some_iff_getElem] at h
    obtain ⟨h1, h2, h3⟩ := h
    refine ⟨k, l[k], by simp [gidx, h'], List.getElem?_eq_getElem h1, ?_⟩
    rw [List.find?_eq_some_iff_getElem]
    exact ⟨h2, k, h1, rfl, fun j hj => by have := h3 j hj; simpa using this⟩
theorem find_none {α : Type} {p : α → Bool} {l : List α} (h : ∀ j, j < l.length → ∀ b, l[j]? = some b → p b = false) : l.find? p = none := by
  rw [List.find?_eq_none]
  intro x hx
  obtain ⟨j, hj⟩ := List.mem_iff_getElem?.1 hx
  simp [h j (List.getElem?_eq_some_iff.1 hj).1 x hj]
theorem find_some {α : Type} {p : α → Bool} {l : List α} {k : Nat} {a : α} (h : ∀ j, j < k → ∀ b, l[j]? = some b → p b = false) (hk : l[k]? = some a) (hp : p a = true) : l.find? p = some a := by
  obtain ⟨hlt, he⟩ := List.getElem?_eq_some_iff.1 hk
  rw [List.find?_eq_some_iff_getElem]
  refine ⟨hp, k, hlt, he, fun j hj => ?_⟩
  have := h j hj l[j] (List.getElem?_eq_getElem (by omega))
  simpa using this
/-- One more element without the mark. -/
theorem pre_succ {α : Type} {p : α → Bool} {l : List α} {k : Nat} {a : α} (h : ∀ j, j < k → ∀ b, l[j]? = some b → p b = false) (hk : l[k]? = some a) (hp : p a = false) : ∀ j, j < k + 1 → ∀ b, l[j]? = some b → p b = false := by
  intro j hj b hb
  by_cases e : j = k
  · subst e; rw [hk] at hb; cases hb; exact hp
  · exact h j (by omega) b hb
theorem any_none {α : Type} {p : α → Bool} {l : List α} (h : ∀ j, j < l.length → ∀ b, l[j]? = some b → p b = false) : l.any p = false := by
  rw [List.any_eq_false]
  intro x hx
  obtain ⟨j, hj⟩ := List.mem_iff_getElem?.1 hx
  simp [h j (List.getElem?_eq_some_iff.1 hj).1 x hj]
theorem any_some {α : Type} {p : α → Bool} {l : List α} {k : Nat} {a : α} (hk : l[k]? = some a) (hp : p a = true) : l.any p = true := List.any_eq_true.2 ⟨_, List.mem_of_getElem? hk, hp⟩
end Go.Proofs.Ytdgoodjhndeojaa
