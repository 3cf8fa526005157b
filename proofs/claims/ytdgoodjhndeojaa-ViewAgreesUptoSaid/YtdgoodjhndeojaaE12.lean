/-
  PLAIN LAWS of valid maps and their parts. Conditions: none.
-/
import Derived.Test.YtdgoodjhndeojaaE11
set_option linter.unusedVariables false
set_option linter.unusedSimpArgs false
namespace Go.Proofs.Ytdgoodjhndeojaa
open Go.Abs
/-! ### views -/
def inView (v : ByteArray) (o : GObj) : Bool := !ownB o || decide (ownS o = v)
def gObjects (m : List GObj) (p : GObj → Bool) : List GObj := if gMap m then m.filter p else []
def gOf (m : List GObj) (v : ByteArray) : List GObj := gObjects m (inView v)
def gCommon (m : List GObj) : List GObj := gObjects m (fun o => !ownB o)
def gDisp (m : List GObj) : List ByteArray := (gObjects m ownB).map GObj.id
def gWithout (m : List GObj) (l : List ByteArray) : List GObj := m.filter (fun o => !inB l o.id)
theorem disp_own {m : List GObj} (h : gMap m = true) {o : GObj} (ho : o ∈ m) : inB (gDisp m) o.id = ownB o := by
  have hu := (gMap_iff.1 h).2.1
  rw [Bool.eq_iff_iff, inB_iff, gDisp, gObjects, if_pos h, List.mem_map]
  constructor
  · rintro ⟨b, hb, e⟩
    rw [List.mem_filter] at hb
    rw [← ups_inj hu hb.1 ho e]
    exact hb.2
  · intro hb
    exact ⟨o, List.mem_filter.2 ⟨ho, hb⟩, rfl⟩
theorem ownS_ne {o : GObj} (h : ownB o = true) : ownS o ≠ sNil := by
  rw [ownB, Bool.and_eq_true] at h
  exact gName_ne h.2
theorem view_without {m : List GObj} (h : gMap m = true) (v : ByteArray) : gWithout (gOf m v) (gDisp m) = gCommon m := by
  rw [gWithout, gOf, gCommon, gObjects, gObjects, if_pos h, if_pos h, List.filter_filter]
  apply List.filter_congr
  intro o ho
  rw [disp_own h ho, inView]
  cases ownB o <;> simp
theorem view_neutral {m : List GObj} (h : gMap m = true) : gOf m sNil = gCommon m := by
  rw [gOf, gCommon, gObjects, gObjects, if_pos h, if_pos h]
  apply List.filter_congr
  intro o ho
  rw [inView]
  cases e : ownB o with
  | false => rfl
  | true => simp [ownS_ne e]
theorem gOf_sub (m : List GObj) (v : ByteArray) : (gOf m v).Sublist m := by
  rw [gOf, gObjects]
  split
  · exact List.filter_sublist
  · exact List.nil_sublist _
theorem view_view {m : List GObj} (h : gMap m = true) (v u : ByteArray) : gOf (gOf m v) u = if v = u then gOf m v else gCommon m := by
  have h2 := gMap_sub h (gOf_sub m v)
  rw [gOf, gObjects, if_pos h2, gOf, gCommon, gObjects, gObjects, if_pos h, if_pos h, List.filter_filter]
  split
  · next e =>
    subst e
    apply List.filter_congr
    intro o ho
    simp
  · next e =>
    apply List.filter_congr
    intro o ho
    simp only [inView]
    cases eb : ownB o with
    | false => rfl
    | true =>
      simp only [Bool.not_true, Bool.false_or]
      by_cases e1 : ownS o = u
      · have : ¬ ownS o = v := fun e2 => e (e2.symm.trans e1)
        simp [this]
      · simp [e1]
end Go.Proofs.Ytdgoodjhndeojaa
