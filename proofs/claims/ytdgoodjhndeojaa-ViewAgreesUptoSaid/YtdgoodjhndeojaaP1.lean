/-
  PLAIN LAWS of Go's order of strings, of valid maps and their parts. Conditions: none.
-/
import Derived.Test.YtdgoodjhndeojaaE7
import Derived.Test.YtdgoodjhndeojaaAbs21
set_option linter.unusedVariables false
set_option linter.unusedSimpArgs false
namespace Go.Proofs.Ytdgoodjhndeojaa
open Go.Abs
/-- The model's order of texts is the lexical one. -/
theorem bytesLess_eq : ∀ (x y : List UInt8), Op.bytesLess x y = decide (x < y)
  | [], [] => by simp [Op.bytesLess]
  | _ :: _, [] => by simp [Op.bytesLess]
  | [], _ :: _ => by simp [Op.bytesLess]
  | a :: x, b :: y => by
    rw [Op.bytesLess, bytesLess_eq x y]
    simp only [List.cons_lt_cons_iff]
    by_cases h1 : a < b <;> by_cases h2 : a = b <;> by_cases h3 : x < y <;> simp [h1, h2, h3]
theorem slt_irr (s : ByteArray) : slt s s = false := by
  unfold slt
  rw [bytesLess_eq]
  exact decide_eq_false (List.lt_irrefl _)
theorem slt_tri {a b : ByteArray} (h1 : slt a b = false) (h2 : slt b a = false) : a = b := by
  unfold slt at h1 h2
  rw [bytesLess_eq] at h1 h2
  have e : a.toList = b.toList := List.le_antisymm (List.not_lt.1 (of_decide_eq_false h2)) (List.not_lt.1 (of_decide_eq_false h1))
  have := list_beq a b
  rw [e] at this
  simpa using this.symm
theorem slt_trans {a b c : ByteArray} (h1 : slt a b = true) (h2 : slt b c = true) : slt a c = true := by
  unfold slt at *
  rw [bytesLess_eq] at *
  exact decide_eq_true (List.lt_trans (of_decide_eq_true h1) (of_decide_eq_true h2))
theorem slt_nil (s : ByteArray) : slt s sNil = false := by
  unfold slt
  rw [bytesLess_eq, ByteArray.toList_eq sNil]
  exact decide_eq_false (List.not_lt_nil _)
theorem sle_iff {a b : ByteArray} : sle a b = false ↔ slt b a = true := by
  unfold sle
  constructor
  · intro h
    simp only [Bool.or_eq_false_iff, decide_eq_false_iff_not] at h
    cases e : slt b a with
    | true => rfl
    | false => exact absurd (slt_tri h.1 e) h.2
  · intro h
    simp only [Bool.or_eq_false_iff, decide_eq_false_iff_not]
    refine ⟨?_, fun e => ?_⟩
    · cases e : slt a b with
      | false => rfl
      | true => have := slt_trans e h; rw [slt_irr] at this; cases this
    · subst e; rw [slt_irr] at h; cases h
/-- Ids in increasing order. -/
def ups (m : List GObj) : Prop := m.Pairwise (fun a b => slt a.id b.id = true)
theorem gObj_name {o : GObj} (h : gObj o = true) : gName o.id = true := by
  simp only [gObj, gHead, gHeadN, Bool.and_eq_true, Bool.not_eq_true', Bool.or_eq_false_iff, Bool.not_eq_false'] at h
  exact h.1.1.1.1.2
theorem gName_ne {s : ByteArray} (h : gName s = true) : s ≠ sNil := by
  simp only [gName, Bool.and_eq_true, Bool.not_eq_true', decide_eq_false_iff_not] at h
  exact h.2.1
theorem badObj_iff {last : ByteArray} {o : GObj} : badObj last o = false ↔ gObj o = true ∧ slt last o.id = true := by
  rw [badObj, Bool.or_eq_false_iff, sle_iff, Bool.not_eq_false']
theorem badAt_all {m : List GObj} : (List.range m.length).any (badAt badObj GObj.id m) = false ↔ (∀ o ∈ m, gObj o = true) ∧ ups m := by
  rw [List.any_eq_false]
  constructor
  · intro h
    have hb : ∀ k o, m[k]? = some o → gObj o = true ∧ slt (before GObj.id m k) o.id = true := fun k o ho => by
      have := h k (List.mem_range.2 (List.getElem?_eq_some_iff.1 ho).1)
      rw [badAt_some ho, Bool.not_eq_true] at this
      exact badObj_iff.1 this
    refine ⟨fun o ho => ?_, ?_⟩
    · obtain ⟨k, hk⟩ := List.mem_iff_getElem?.1 ho
      exact (hb k o hk).1
    · have key : ∀ (d i : Nat) (a b : GObj), m[i]? = some a → m[i + d + 1]? = some b → slt a.id b.id = true := by
        intro d
        induction d with
        | zero =>
          intro i a b ha hb'
          have := (hb _ _ hb').2
          rw [Nat.add_zero, before_succ ha] at this
          exact this
        | succ d ih =>
          intro i a b ha hb'
          obtain ⟨c, hc⟩ := get_of_lt (l := m) (k := i + d + 1) (by have := (List.getElem?_eq_some_iff.1 hb').1; omega)
          have h1 := ih i a c ha hc
          have h2 := (hb _ _ hb').2
          rw [show i + (d + 1) = i + d + 1 from rfl, before_succ hc] at h2
          exact slt_trans h1 h2
      rw [ups, List.pairwise_iff_getElem]
      intro i j hi hj hij
      have := key (j - i - 1) i m[i] m[j] (List.getElem?_eq_getElem hi) (by rw [show i + (j - i - 1) + 1 = j by omega]; exact List.getElem?_eq_getElem hj)
      exact this
  · rintro ⟨h1, h2⟩ k hk
    have hlt := List.mem_range.1 hk
    have ho := List.getElem?_eq_getElem hlt
    rw [badAt_some ho, Bool.not_eq_true, badObj_iff]
    refine ⟨h1 _ (List.getElem_mem hlt), ?_⟩
    cases k with
    | zero =>
      have hn := gName_ne (gObj_name (h1 _ (List.getElem_mem hlt)))
      show slt sNil _ = true
      cases e : slt sNil (m[0]).id with
      | true => rfl
      | false => exact absurd (slt_tri (slt_nil _) e) hn
    | succ k =>
      rw [before_succ (List.getElem?_eq_getElem (show k < m.length by omega))]
      rw [ups, List.pairwise_iff_getElem] at h2
      exact h2 k (k + 1) (by omega) hlt (by omega)
theorem gMap_iff {m : List GObj} : gMap m = true ↔ (∀ o ∈ m, gObj o = true) ∧ ups m ∧ (m.length : Int) ≤ 1000000 := by
  rw [gMap, Bool.and_eq_true, Bool.not_eq_true', badAt_all, decide_eq_true_iff, and_assoc]
theorem gMap_sub {m r : List GObj} (h : gMap m = true) (hs : r.Sublist m) : gMap r = true := by
  rw [gMap_iff] at *
  obtain ⟨h1, h2, h3⟩ := h
  refine ⟨fun o ho => h1 o (hs.subset ho), List.Pairwise.sublist hs h2, ?_⟩
  have := hs.length_le
  omega
theorem okM_sub {m r : List GObj} (h : okM m) (hs : r.Sublist m) : okM r := by
  refine ⟨?_, fun o ho => h.2 o (hs.subset ho)⟩
  have := hs.length_le
  have := h.1
  omega
/-- Objects of one Id are one. -/
theorem ups_inj {m : List GObj} (h : ups m) {a b : GObj} (ha : a ∈ m) (hb : b ∈ m) (e : a.id = b.id) : a = b := by
  obtain ⟨i, hi⟩ := List.mem_iff_getElem?.1 ha
  obtain ⟨j, hj⟩ := List.mem_iff_getElem?.1 hb
  obtain ⟨hil, ei⟩ := List.getElem?_eq_some_iff.1 hi
  obtain ⟨hjl, ej⟩ := List.getElem?_eq_some_iff.1 hj
  rw [ups, List.pairwise_iff_getElem] at h
  rcases Nat.lt_trichotomy i j with hlt | he | hlt
  · have := h i j hil hjl hlt
    rw [ei, ej, e, slt_irr] at this; cases this
  · subst he; rw [hi] at hj; cases hj; rfl
  · have := h j i hjl hil hlt
    rw [ei, ej, e, slt_irr] at this; cases this
theorem inB_iff {l : List ByteArray} {s : ByteArray} : inB l s = true ↔ s ∈ l := by
  unfold inB
  rw [List.any_eq_true]
  constructor
  · rintro ⟨a, h1, h2⟩
    rw [← of_decide_eq_true h2]; exact h1
  · intro h
    exact ⟨s, h, decide_eq_true rfl⟩
end Go.Proofs.Ytdgoodjhndeojaa
