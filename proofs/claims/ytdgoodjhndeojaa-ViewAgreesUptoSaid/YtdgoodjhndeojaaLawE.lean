/-
  WHAT ALL LAWS' CLAIMS SHARE. Conditions: none.
-/
import Derived.Test.YtdgoodjhndeojaaDecE
set_option linter.unusedVariables false
set_option maxRecDepth 100000
namespace Go.Proofs.Ytdgoodjhndeojaa
open Go.Abs Go.ChangeShapes Go.WideShapes Go.ChangeAt Go.RowKit
theorem own : ownKnob Try.prog.godebug = none := by kernel_rfl
theorem laidOut : laidOutB Try.prog = true := by kernel_rfl
theorem upto_bound {H : Type} {l : List (DataW H)} (hk : Rows.uptoSmall H l = true) : Rows.uptoBulkAll l ≤ 1048576 := of_decide_eq_true hk
theorem bulk_left {H : Type} {l r : List (DataW H)} {n : Nat} (h : Rows.uptoBulkAll (l ++ r) ≤ n) : Rows.uptoBulkAll l ≤ n := by
  induction l generalizing n with
  | nil => simp [Rows.uptoBulkAll]
  | cons x l ih =>
    simp only [List.cons_append, Rows.uptoBulkAll] at h ⊢
    have := ih (n := n - Rows.uptoBulk x) (by omega)
    omega
theorem d_u8 {B n : Nat} {ps : List PV} (h : Sh Try.prog B (n + 1) 5 ps) : ∃ i, ps = [.int .u8 i] ∧ 0 ≤ i ∧ i ≤ 255 := by
  obtain ⟨i, rfl, hi⟩ := sh_int Try.underlying5 h
  exact ⟨i, rfl, by simpa [Lit.wf, IntKind.min, IntKind.max, IntKind.signed, IntKind.bits] using hi⟩
theorem d_int {B n : Nat} {ps : List PV} (h : Sh Try.prog B (n + 1) 3 ps) : ∃ i, ps = [.int .i64 i] ∧ wfI i := by
  obtain ⟨i, rfl, hi⟩ := sh_int Try.underlying3 h
  exact ⟨i, rfl, hi⟩
theorem okObjs_of {m : List GObj} (h : szMap 1048576 m) : ∀ o, o ∈ m → (o.refs.length < 4611686018427387904 ∧ o.tags.length < 4611686018427387904) := fun o ho => ⟨by have := (h.2 o ho).2.2.2.2.1.1; omega, by have := (h.2 o ho).2.2.2.2.2.1; omega⟩
theorem okEdit_of {e : GEdit} (h : szEdit 1048576 e) : e.refs.length < 4611686018427387904 ∧ (e.obj.refs.length < 4611686018427387904 ∧ e.obj.tags.length < 4611686018427387904) :=
  ⟨by have := h.2.2.2.2.2.2.2.2.1.1; omega, by have := h.2.2.2.2.2.2.2.2.2.2.2.2.2.1.1; omega, by have := h.2.2.2.2.2.2.2.2.2.2.2.2.2.2.1; omega⟩
end Go.Proofs.Ytdgoodjhndeojaa
