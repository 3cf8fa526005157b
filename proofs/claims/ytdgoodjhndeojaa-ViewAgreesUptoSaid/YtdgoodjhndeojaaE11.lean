/-
  PLAIN LAWS of Go's order of strings. Conditions: none.
-/
import Derived.Test.YtdgoodjhndeojaaE10
import Derived.Test.YtdgoodjhndeojaaP1
set_option linter.unusedVariables false
set_option linter.unusedSimpArgs false
namespace Go.Proofs.Ytdgoodjhndeojaa
open Go.Abs
theorem gBefore_self (a : List ByteArray) : gBefore a a = false := by
  induction a with
  | nil => rfl
  | cons x a ih => rw [gBefore, if_pos rfl]; exact ih
theorem gBefore_tri : ∀ {a b : List ByteArray}, gBefore a b = false → gBefore b a = false → a = b
  | [], [], _, _ => rfl
  | [], y :: b, h, _ => by simp [gBefore] at h
  | x :: a, [], _, h => by simp [gBefore] at h
  | x :: a, y :: b, h1, h2 => by
    rw [gBefore] at h1 h2
    by_cases e : x = y
    · subst e
      rw [if_pos rfl] at h1 h2
      rw [gBefore_tri h1 h2]
    · rw [if_neg e] at h1
      rw [if_neg (fun h => e h.symm)] at h2
      exact absurd (slt_tri h1 h2) e
theorem gIds_eq (a b : List ByteArray) : gIds a b = true ↔ a = b := by
  constructor
  · intro h
    simp only [gIds, Bool.and_eq_true, Bool.not_eq_true'] at h
    exact gBefore_tri h.1 h.2
  · rintro rfl
    simp [gIds, gBefore_self]
end Go.Proofs.Ytdgoodjhndeojaa
