/-
  WHAT THE ARGUMENTS OF THE LAWS HOLD: shapes as plain Lean data. Conditions: none.
-/
import Derived.Test.YtdgoodjhndeojaaAbs15
import Derived.Test.YtdgoodjhndeojaaE7
set_option linter.unusedVariables false
set_option linter.unusedSimpArgs false
set_option maxRecDepth 100000
namespace Go.Proofs.Ytdgoodjhndeojaa
open Go.Abs
def wfI (n : Int) : Prop := (Lit.int .i64 n).wf = true
theorem wfI.bd {n : Int} (h : wfI n) : -9223372036854775808 ≤ n ∧ n ≤ 9223372036854775807 := by simpa [wfI, Lit.wf, IntKind.min, IntKind.max, IntKind.signed, IntKind.bits] using h
def szTag (B : Nat) (t : GTag) : Prop := t.key.size ≤ B ∧ t.val.size ≤ B
def szStrs (B : Nat) (l : List ByteArray) : Prop := l.length ≤ B ∧ ∀ s, s ∈ l → s.size ≤ B
def szTags (B : Nat) (l : List GTag) : Prop := l.length ≤ B ∧ ∀ s, s ∈ l → szTag B s
def szObj (B : Nat) (o : GObj) : Prop := o.id.size ≤ B ∧ wfI o.kind ∧ wfI o.x ∧ wfI o.y ∧ szStrs B o.refs ∧ szTags B o.tags
def szMap (B : Nat) (m : List GObj) : Prop := m.length ≤ B ∧ ∀ o, o ∈ m → szObj B o
def szEdit (B : Nat) (e : GEdit) : Prop := wfI e.op ∧ e.id.size ≤ B ∧ e.other.size ≤ B ∧ e.node.size ≤ B ∧ wfI e.x ∧ wfI e.y ∧ e.key.size ≤ B ∧ e.val.size ≤ B ∧ szStrs B e.refs ∧ szObj B e.obj
def szEdits (B : Nat) (l : List GEdit) : Prop := l.length ≤ B ∧ ∀ e, e ∈ l → szEdit B e
section
variable {B n : Nat} {ps : List PV}
theorem d_strs (h : Sh Try.prog B (n + 2) 28 ps) : ∃ l, ps = [slStrs l] ∧ szStrs B l := by
  obtain ⟨l, rfl, h1, h2⟩ := sh_rows (f := encStr) (good := fun s => s.size ≤ B) Try.underlying28 h (fun r hr => by
    obtain ⟨s, rfl, hs⟩ := sh_str Try.underlying9 hr
    exact ⟨s, rfl, hs⟩)
  exact ⟨l, rfl, h1, h2⟩
theorem d_tag (h : Sh Try.prog B (n + 2) 72 ps) : ∃ t, ps = encTag t ∧ szTag B t := by
  obtain ⟨a, b, rfl, _, h1, a2, b2, rfl, _, h2, rfl⟩ := sh_struct Try.underlying72 h
  obtain ⟨k, rfl, hk⟩ := sh_str Try.underlying9 h1
  obtain ⟨v, rfl, hv⟩ := sh_str Try.underlying9 h2
  exact ⟨⟨k, v⟩, rfl, hk, hv⟩
theorem d_tags (h : Sh Try.prog B (n + 3) 36 ps) : ∃ l, ps = [slTags l] ∧ szTags B l := by
  obtain ⟨l, rfl, h1, h2⟩ := sh_rows (f := encTag) (good := szTag B) Try.underlying36 h (fun r hr => d_tag hr)
  exact ⟨l, rfl, h1, h2⟩
theorem d_point (h : Sh Try.prog B (n + 2) 35 ps) : ∃ x y, ps = [.int .i64 x, .int .i64 y] ∧ wfI x ∧ wfI y := by
  obtain ⟨a, b, rfl, _, h1, a2, b2, rfl, _, h2, rfl⟩ := sh_struct Try.underlying35 h
  obtain ⟨x, rfl, hx⟩ := sh_int Try.underlying3 h1
  obtain ⟨y, rfl, hy⟩ := sh_int Try.underlying3 h2
  exact ⟨x, y, rfl, hx, hy⟩
theorem d_obj (h : Sh Try.prog B (n + 4) 38 ps) : ∃ o, ps = encObj o ∧ szObj B o := by
  obtain ⟨_, _, rfl, _, h1, _, _, rfl, _, h2, _, _, rfl, _, h3, _, _, rfl, _, h4, _, _, rfl, _, h5, rfl⟩ := sh_struct Try.underlying38 h
  obtain ⟨id, rfl, q1⟩ := sh_str Try.underlying9 h1
  obtain ⟨k, rfl, q2⟩ := sh_int Try.underlying3 h2
  obtain ⟨x, y, rfl, q3, q4⟩ := d_point h3
  obtain ⟨rs, rfl, q5⟩ := d_strs h4
  obtain ⟨ts, rfl, q6⟩ := d_tags h5
  exact ⟨⟨id, k, x, y, rs, ts⟩, rfl, q1, q2, q3, q4, q5, q6⟩
theorem d_objs (h : Sh Try.prog B (n + 5) 22 ps) : ∃ l, ps = [slObjs l] ∧ szMap B l := by
  obtain ⟨l, rfl, h1, h2⟩ := sh_rows (f := encObj) (good := szObj B) Try.underlying22 h (fun r hr => d_obj hr)
  exact ⟨l, rfl, h1, h2⟩
theorem d_map (h : Sh Try.prog B (n + 6) 24 ps) : ∃ l, ps = [slObjs l] ∧ szMap B l := by
  obtain ⟨_, _, rfl, _, h1, rfl⟩ := sh_struct Try.underlying24 h
  obtain ⟨l, rfl, q⟩ := d_objs h1
  exact ⟨l, rfl, q⟩
end
theorem okTags_of {B : Nat} {l : List GTag} (hB : B < 4611686018427387904) (h : szTags B l) : okTags l := ⟨by have := h.1; omega, fun t ht => ⟨by have := (h.2 t ht).1; omega, by have := (h.2 t ht).2; omega⟩⟩
theorem okO_of {B : Nat} {o : GObj} (hB : B < 4611686018427387904) (h : szObj B o) : okO o :=
  ⟨by have := h.1; omega, okTags_of hB h.2.2.2.2.2, by have := h.2.2.2.2.1.1; omega, fun s hs => by have := h.2.2.2.2.1.2 s hs; omega⟩
theorem okM_of {B : Nat} {m : List GObj} (hB : B < 4611686018427387904) (h : szMap B m) : okM m := ⟨by have := h.1; omega, fun o ho => okO_of hB (h.2 o ho)⟩
section
variable {B n : Nat} {ps : List PV}
theorem d_str (h : Sh Try.prog B (n + 1) 9 ps) : ∃ s, ps = [.str s] ∧ s.size ≤ B := by
  obtain ⟨k, rfl, hk⟩ := sh_str Try.underlying9 h
  exact ⟨k, rfl, hk⟩
end
end Go.Proofs.Ytdgoodjhndeojaa
