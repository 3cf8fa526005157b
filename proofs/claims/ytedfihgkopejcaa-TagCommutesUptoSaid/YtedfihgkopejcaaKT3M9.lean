/-
  PLAIN: a map with an object put in: valid, in order, and the same views. Conditions: none.
  TAGS, plain: tags by their lookups; what tag.Set does to them. Conditions: none.
  THE LAW planispherelaw09.TagSets: it answers true. Conditions: sizes below 2^36.
  WHAT THE ARGUMENTS OF THE LAWS ABOUT TAGS HOLD. Conditions: none.
  TAGS MERGED, plain: tag.Merge by lookups. Conditions: none.
  THE LAW planispherelaw09.TagMerges: it answers true. Conditions: sizes below 2^36.
  THE LAW planispherelaw09.TagCommutes: it answers true. Conditions: sizes below 2^36.
-/
import Derived.Test.YtedfihgkopejcaaKT3M8
section
set_option linter.unusedVariables false
set_option linter.unusedSimpArgs false
set_option maxRecDepth 100000
namespace Go.Proofs.Ytedfihgkopejcaa
open Go.Abs
theorem lbI_lt {α : Type} {f : α → ByteArray} {l : List α} {s : ByteArray} {k : Nat} {o : α} (hk : k < lbI f l s) (ho : l[k]? = some o) : slt (f o) s = true := by
  unfold lbI at hk
  have := List.not_of_lt_findIdx hk
  obtain ⟨h1, h2⟩ := List.getElem?_eq_some_iff.1 ho
  rw [h2] at this
  simpa using this
theorem lbI_ge {α : Type} {f : α → ByteArray} {l : List α} {s : ByteArray} {k : Nat} {o : α} (ha : asc f l) (hk : lbI f l s ≤ k) (ho : l[k]? = some o) : slt (f o) s = false := by
  obtain ⟨h1, h2⟩ := List.getElem?_eq_some_iff.1 ho
  have hlt : lbI f l s < l.length := by omega
  obtain ⟨x, hx⟩ := get_of_lt hlt
  have h0 : slt (f x) s = false := by
    have hp : (fun o => !slt (f o) s) l[lbI f l s] = true := List.findIdx_getElem (p := fun o => !slt (f o) s) (xs := l) (w := hlt)
    rw [(List.getElem?_eq_some_iff.1 hx).2] at hp
    simpa using hp
  by_cases e : lbI f l s = k
  · subst e
    rw [hx] at ho; cases ho
    exact h0
  · cases h : slt (f o) s with
    | false => rfl
    | true =>
      have := slt_trans (asc_get ha (by omega) hx ho) h
      rw [h0] at this; cases this
theorem asc_ins {α : Type} {f : α → ByteArray} {l : List α} {o : α} (ha : asc f l) (hn : hasK f l (f o) = false) : asc f (l.take (lbI f l (f o)) ++ o :: l.drop (lbI f l (f o))) := by
  have hle := lbI_le f l (f o)
  have hno : ∀ x, x ∈ l → f x ≠ f o := fun x hx e => by
    have : hasK f l (f o) = true := List.any_eq_true.2 ⟨x, hx, decide_eq_true e⟩
    rw [hn] at this; cases this
  have h1 : ∀ x, x ∈ l.take (lbI f l (f o)) → slt (f x) (f o) = true := fun x hx => by
    obtain ⟨k, hk⟩ := List.mem_iff_getElem?.1 hx
    rw [List.getElem?_take] at hk
    split at hk
    · next hlt => exact lbI_lt hlt hk
    · cases hk
  have h2 : ∀ x, x ∈ l.drop (lbI f l (f o)) → slt (f o) (f x) = true := fun x hx => by
    obtain ⟨k, hk⟩ := List.mem_iff_getElem?.1 hx
    rw [List.getElem?_drop] at hk
    have h3 := lbI_ge ha (Nat.le_add_right _ k) hk
    cases h4 : slt (f o) (f x) with
    | true => rfl
    | false => exact absurd (slt_tri h3 h4) (hno x (List.mem_of_getElem? hk))
  rw [asc, List.pairwise_append]
  refine ⟨(List.Pairwise.sublist (List.take_sublist _ _) ha), List.pairwise_cons.2 ⟨h2, List.Pairwise.sublist (List.drop_sublist _ _) ha⟩, fun a hA b hB => ?_⟩
  rcases List.mem_cons.1 hB with rfl | hB
  · exact h1 a hA
  · exact slt_trans (h1 a hA) (h2 b hB)
end Go.Proofs.Ytedfihgkopejcaa
end
section
set_option linter.unusedVariables false
set_option linter.unusedSimpArgs false
namespace Go.Proofs.Ytedfihgkopejcaa
open Go.Abs
def vOf (l : List GTag) (k : ByteArray) : ByteArray := (gGet l k).getD sNil
theorem asc_inj {l : List GTag} (ha : asc GTag.key l) {a b : GTag} (h1 : a ∈ l) (h2 : b ∈ l) (e : a.key = b.key) : a = b := by
  obtain ⟨i, hi⟩ := List.mem_iff_getElem?.1 h1
  obtain ⟨j, hj⟩ := List.mem_iff_getElem?.1 h2
  rcases Nat.lt_trichotomy i j with h | h | h
  · have := asc_get ha h hi hj
    rw [e, slt_irr] at this; cases this
  · subst h
    rw [hi] at hj; exact Option.some.inj hj
  · have := asc_get ha h hj hi
    rw [e, slt_irr] at this; cases this
theorem gGet_mem {l : List GTag} {k v : ByteArray} (h : gGet l k = some v) : (⟨k, v⟩ : GTag) ∈ l := by
  rw [gGet, Option.map_eq_some_iff] at h
  obtain ⟨t, ht, rfl⟩ := h
  have h1 := List.find?_some ht
  have h2 := List.mem_of_find?_eq_some ht
  have e := of_decide_eq_true h1
  obtain ⟨a, b⟩ := t
  subst e
  exact h2
theorem gGet_of {l : List GTag} (ha : asc GTag.key l) {k v : ByteArray} (h : (⟨k, v⟩ : GTag) ∈ l) : gGet l k = some v := by
  cases hf : l.find? (fun t => decide (t.key = k)) with
  | none =>
    have := List.find?_eq_none.1 hf _ h
    simp at this
  | some t =>
    have h0 := List.find?_some hf
    have h1 : t.key = k := of_decide_eq_true h0
    have h2 := List.mem_of_find?_eq_some hf
    have := asc_inj ha h2 h h1
    subst this
    rw [gGet, hf]
    rfl
theorem gGet_iff {l : List GTag} (ha : asc GTag.key l) {k v : ByteArray} : gGet l k = some v ↔ (⟨k, v⟩ : GTag) ∈ l := ⟨gGet_mem, gGet_of ha⟩
theorem gGet_none {l : List GTag} {k : ByteArray} (h : ∀ t, t ∈ l → t.key ≠ k) : gGet l k = none := by
  cases e : gGet l k with
  | none => rfl
  | some v => exact absurd rfl (h _ (gGet_mem e))
theorem opt_ext {a b : Option ByteArray} (h : ∀ v, a = some v ↔ b = some v) : a = b := by
  cases a with
  | none => cases b with
    | none => rfl
    | some v => exact absurd ((h v).2 rfl) (by simp)
  | some v => exact ((h v).1 rfl).symm
theorem asc_nodup {l : List GTag} (ha : asc GTag.key l) : l.Nodup := by
  refine List.Pairwise.imp (fun {a b} h e => ?_) ha
  subst e
  rw [slt_irr] at h; cases h
/-- Tags with the same lookups are the same. -/
theorem tags_ext {a b : List GTag} (ha : asc GTag.key a) (hb : asc GTag.key b) (h : ∀ k, gGet a k = gGet b k) : a = b := by
  have hp : a.Perm b := (List.perm_ext_iff_of_nodup (asc_nodup ha) (asc_nodup hb)).2 fun t => by
    obtain ⟨k, v⟩ := t
    rw [← gGet_iff ha, ← gGet_iff hb, h k]
  refine List.Perm.eq_of_pairwise (fun x y _ _ h3 h4 => ?_) ha hb hp
  have := slt_trans h3 h4
  rw [slt_irr] at this; cases this
theorem cut9 {α : Type} {l : List α} {i : Nat} {x : α} (h : l[i]? = some x) : l = l.take i ++ x :: l.drop (i + 1) := by
  obtain ⟨h1, h2⟩ := List.getElem?_eq_some_iff.1 h
  conv => lhs; rw [← List.take_append_drop i l]
  rw [List.drop_eq_getElem_cons h1, h2]
theorem asc_app {l1 l2 : List GTag} {y : GTag} (h : asc GTag.key (l1 ++ y :: l2)) : (∀ a, a ∈ l1 → slt a.key y.key = true) ∧ (∀ b, b ∈ l2 → slt y.key b.key = true) ∧ asc GTag.key l1 ∧ asc GTag.key l2 ∧ (∀ a, a ∈ l1 → ∀ b, b ∈ l2 → slt a.key b.key = true) := by
  rw [asc, List.pairwise_append] at h
  obtain ⟨h1, h2, h3⟩ := h
  rw [List.pairwise_cons] at h2
  exact ⟨fun a ha => h3 a ha y List.mem_cons_self, h2.1, h1, h2.2, fun a ha b hb => h3 a ha b (List.mem_cons_of_mem _ hb)⟩
theorem asc_mk {l1 l2 : List GTag} {y : GTag} (h1 : asc GTag.key l1) (h2 : asc GTag.key l2) (ha : ∀ a, a ∈ l1 → slt a.key y.key = true) (hb : ∀ b, b ∈ l2 → slt y.key b.key = true) : asc GTag.key (l1 ++ y :: l2) := by
  rw [asc, List.pairwise_append, List.pairwise_cons]
  refine ⟨h1, ⟨hb, h2⟩, fun a h b h' => ?_⟩
  rcases List.mem_cons.1 h' with rfl | h'
  · exact ha a h
  · exact slt_trans (ha a h) (hb b h')
theorem asc_del {l1 l2 : List GTag} {y : GTag} (h : asc GTag.key (l1 ++ y :: l2)) : asc GTag.key (l1 ++ l2) := by
  obtain ⟨_, _, h1, h2, h3⟩ := asc_app h
  exact List.pairwise_append.2 ⟨h1, h2, h3⟩
theorem noK {l : List GTag} {k : ByteArray} (h : hasK GTag.key l k = false) : ∀ t, t ∈ l → t.key ≠ k := fun t ht e => by
  have : hasK GTag.key l k = true := List.any_eq_true.2 ⟨t, ht, decide_eq_true e⟩
  rw [h] at this; cases this
/-- What tag.Set asks for. -/
def canSet (l : List GTag) (key val : ByteArray) : Prop := gTags l = true ∧ gName key = true ∧ val.size ≤ 200 ∧ (hasK GTag.key l key = false → val ≠ sNil → l.length ≠ 60)
theorem gSet_cases (l : List GTag) (key val : ByteArray) :
    (¬ canSet l key val ∧ (gSet l key val).1 = [] ∧ ((gSet l key val).2 = 1 ∨ ((gSet l key val).2 = 2 ∧ l.length = 60))) ∨
    (canSet l key val ∧ (gSet l key val).2 = 0 ∧ gTags (gSet l key val).1 = true ∧ (∀ k, gGet (gSet l key val).1 k = if k = key then (if val = sNil then none else some val) else gGet l k) ∧ (gSet l key val).1.length ≤ l.length + 1 ∧ (hasK GTag.key l key = true → val = sNil → (gSet l key val).1.length + 1 = l.length)) := by
  unfold gSet
  by_cases h1 : (!gTags l || !gName key || decide (200 < (val.size : Int))) = true
  · rw [if_pos h1]
    left
    refine ⟨fun h => ?_, rfl, .inl rfl⟩
    obtain ⟨a, b, c, _⟩ := h
    rw [a, b] at h1
    simp only [Bool.not_true, Bool.false_or, decide_eq_true_eq] at h1
    omega
  · rw [if_neg h1]
    have h1' := h1
    simp only [Bool.or_eq_true, not_or, Bool.not_eq_true', Bool.not_eq_false, decide_eq_true_eq] at h1'
    obtain ⟨⟨hg, hn⟩, hv⟩ := h1'
    have hv2 : val.size ≤ 200 := by omega
    obtain ⟨g1, g2, g3⟩ := gTags_iff.1 hg
    by_cases h2 : hasK GTag.key l key = true
    · rw [if_pos h2]
      right
      obtain ⟨y, hy, hye⟩ := hasK_get (f := GTag.key) g2 h2
      have hcan : canSet l key val := ⟨hg, hn, hv2, fun h => by rw [h2] at h; cases h⟩
      have hlt := (List.getElem?_eq_some_iff.1 hy).1
      have hcut := cut9 hy
      obtain ⟨A, hA⟩ : ∃ A, A = l.take (lbI GTag.key l key) := ⟨_, rfl⟩
      obtain ⟨B, hB⟩ : ∃ B, B = l.drop (lbI GTag.key l key + 1) := ⟨_, rfl⟩
      have hset : l.set (lbI GTag.key l key) ⟨key, val⟩ = A ++ ⟨key, val⟩ :: B := by rw [List.set_eq_take_append_cons_drop, if_pos hlt, hA, hB]
      rw [← hA, ← hB] at hcut
      rw [← hA, ← hB, hset]
      have g2' := g2
      rw [hcut] at g2'
      obtain ⟨p1, p2, p3, p4, p5⟩ := asc_app g2'
      have hlen : l.length = A.length + B.length + 1 := by rw [hcut, List.length_append, List.length_cons]; omega
      have hmem : ∀ t, t ∈ l ↔ t ∈ A ∨ t = y ∨ t ∈ B := fun t => by rw [hcut]; simp
      have hne : ∀ t, t ∈ A ∨ t ∈ B → t.key ≠ key := fun t ht e => by
        rcases ht with h | h
        · have := p1 t h
          rw [e, hye, slt_irr] at this; cases this
        · have := p2 t h
          rw [e, hye, slt_irr] at this; cases this
      by_cases h3 : val = sNil
      · rw [if_pos h3]
        have hasc : asc GTag.key (A ++ B) := asc_del g2'
        refine ⟨hcan, rfl, gTags_iff.2 ⟨fun t ht => g1 t ((hmem t).2 ?_), hasc, by show (A ++ B).length ≤ 60; rw [List.length_append]; omega⟩, fun k => ?_, by show (A ++ B).length ≤ _; rw [List.length_append]; omega, fun _ _ => by show (A ++ B).length + 1 = _; rw [List.length_append]; omega⟩
        · rcases List.mem_append.1 ht with h | h
          · exact .inl h
          · exact .inr (.inr h)
        · show gGet (A ++ B) k = _
          by_cases hk : k = key
          · rw [if_pos hk, if_pos h3]
            exact gGet_none fun t ht => by rw [hk]; exact hne t (List.mem_append.1 ht)
          · rw [if_neg hk]
            refine opt_ext fun v => ?_
            rw [gGet_iff hasc, gGet_iff g2, hmem, List.mem_append]
            constructor
            · rintro (h | h)
              · exact .inl h
              · exact .inr (.inr h)
            · rintro (h | h | h)
              · exact .inl h
              · rw [← h] at hye; exact absurd hye hk
              · exact .inr h
      · rw [if_neg h3]
        have hasc : asc GTag.key (A ++ ⟨key, val⟩ :: B) := asc_mk p3 p4 (fun a ha => by have := p1 a ha; rwa [hye] at this) (fun b hb => by have := p2 b hb; rwa [hye] at this)
        refine ⟨hcan, rfl, gTags_iff.2 ⟨fun t ht => ?_, hasc, by show (A ++ ⟨key, val⟩ :: B).length ≤ 60; rw [List.length_append, List.length_cons]; omega⟩, fun k => ?_, by show (A ++ ⟨key, val⟩ :: B).length ≤ _; rw [List.length_append, List.length_cons]; omega, fun _ h => absurd h h3⟩
        · rcases List.mem_append.1 ht with h | h
          · exact g1 t ((hmem t).2 (.inl h))
          · rcases List.mem_cons.1 h with rfl | h
            · exact ⟨hn, h3, hv2⟩
            · exact g1 t ((hmem t).2 (.inr (.inr h)))
        · show gGet (A ++ ⟨key, val⟩ :: B) k = _
          by_cases hk : k = key
          · rw [if_pos hk, if_neg h3, hk]
            exact gGet_of hasc (by simp)
          · rw [if_neg hk]
            refine opt_ext fun v => ?_
            rw [gGet_iff hasc, gGet_iff g2, hmem, List.mem_append, List.mem_cons]
            constructor
            · rintro (h | h | h)
              · exact .inl h
              · exact absurd (congrArg GTag.key h) hk
              · exact .inr (.inr h)
            · rintro (h | h | h)
              · exact .inl h
              · rw [← h] at hye; exact absurd hye hk
              · exact .inr (.inr h)
    · rw [if_neg h2]
      have h2f : hasK GTag.key l key = false := by simpa using h2
      have hno := noK h2f
      by_cases h3 : val = sNil
      · rw [if_pos h3]
        right
        refine ⟨⟨hg, hn, hv2, fun _ h => absurd h3 h⟩, rfl, hg, fun k => ?_, Nat.le_succ _, fun h => absurd h h2⟩
        by_cases hk : k = key
        · rw [if_pos hk, if_pos h3, hk]
          exact gGet_none hno
        · rw [if_neg hk]
      · rw [if_neg h3]
        by_cases h4 : l.length = 60
        · rw [if_pos h4]
          left
          exact ⟨fun h => h.2.2.2 h2f h3 h4, rfl, .inr ⟨rfl, h4⟩⟩
        · rw [if_neg h4]
          right
          have hasc : asc GTag.key (l.take (lbI GTag.key l key) ++ ⟨key, val⟩ :: l.drop (lbI GTag.key l key)) := asc_ins (f := GTag.key) (o := ⟨key, val⟩) g2 h2f
          have hmem : ∀ t, t ∈ l ↔ t ∈ l.take (lbI GTag.key l key) ∨ t ∈ l.drop (lbI GTag.key l key) := fun t => by
            rw [← List.mem_append, List.take_append_drop]
          have hlen : (l.take (lbI GTag.key l key)).length + (l.drop (lbI GTag.key l key)).length = l.length := by rw [← List.length_append, List.take_append_drop]
          refine ⟨⟨hg, hn, hv2, fun _ _ => h4⟩, rfl, gTags_iff.2 ⟨fun t ht => ?_, hasc, by show (l.take (lbI GTag.key l key) ++ ⟨key, val⟩ :: l.drop (lbI GTag.key l key)).length ≤ 60; rw [List.length_append, List.length_cons]; omega⟩, fun k => ?_, by show (l.take (lbI GTag.key l key) ++ ⟨key, val⟩ :: l.drop (lbI GTag.key l key)).length ≤ _; rw [List.length_append, List.length_cons]; omega, fun h => absurd h h2⟩
          · rcases List.mem_append.1 ht with h | h
            · exact g1 t ((hmem t).2 (.inl h))
            · rcases List.mem_cons.1 h with rfl | h
              · exact ⟨hn, h3, hv2⟩
              · exact g1 t ((hmem t).2 (.inr h))
          · show gGet (l.take (lbI GTag.key l key) ++ ⟨key, val⟩ :: l.drop (lbI GTag.key l key)) k = _
            by_cases hk : k = key
            · rw [if_pos hk, if_neg h3, hk]
              exact gGet_of hasc (by simp)
            · rw [if_neg hk]
              refine opt_ext fun v => ?_
              rw [gGet_iff hasc, gGet_iff g2, hmem, List.mem_append, List.mem_cons]
              constructor
              · rintro (h | h | h)
                · exact .inl h
                · exact absurd (congrArg GTag.key h) hk
                · exact .inr h
              · rintro (h | h)
                · exact .inl h
                · exact .inr (.inr h)
end Go.Proofs.Ytedfihgkopejcaa
end
section
set_option linter.unusedVariables false
set_option linter.unusedSimpArgs false
set_option maxRecDepth 100000
namespace Go.Proofs.Ytedfihgkopejcaa
open Go.Abs
/-- Tags of a moderate size. -/
def szT (l : List GTag) : Prop := okTags l ∧ l.length < 68719476736
theorem gSet_sz {l : List GTag} {key val : ByteArray} (hl : szT l) (hk : key.size < 4611686018427387904) (hv : val.size < 4611686018427387904) : szT (gSet l key val).1 := by
  rcases gSet_cases l key val with ⟨_, h, _⟩ | ⟨_, _, h3, h4, _, _⟩
  · rw [h]
    exact ⟨⟨by show 0 < _; omega, fun t ht => by cases ht⟩, by show 0 < _; omega⟩
  · obtain ⟨x1, x2, x3⟩ := gTags_iff.1 h3
    refine ⟨⟨by omega, fun t ht => ?_⟩, by omega⟩
    obtain ⟨a, b, c⟩ := x1 t ht
    exact ⟨by have := gName_size a; omega, by omega⟩
end Go.Proofs.Ytedfihgkopejcaa
end
section
set_option linter.unusedVariables false
set_option linter.unusedSimpArgs false
namespace Go.Proofs.Ytedfihgkopejcaa
open Go.Abs
theorem szT_of {l : List GTag} (h : szTags 1048576 l) : szT l := ⟨okTags_of (by decide) h, by have := h.1; omega⟩
end Go.Proofs.Ytedfihgkopejcaa
end
section
set_option linter.unusedVariables false
set_option linter.unusedSimpArgs false
namespace Go.Proofs.Ytedfihgkopejcaa
open Go.Abs
/-! ### names in order -/
theorem toU_ofU9 (l : List UInt8) : toU (ofU l) = l := by simp [toU, ofU]
theorem slt_toU9 (a b : ByteArray) : slt a b = decide (toU a < toU b) := by
  unfold slt
  rw [bytesLess_eq, ByteArray.toList_eq, ByteArray.toList_eq]
  rfl
theorem sortS_up {l : List ByteArray} (hn : l.Nodup) : (sortS l).Pairwise (fun a b => slt a b = true) := by
  have hle : (sortS l).Pairwise (fun a b => slt b a = false) := by
    unfold sortS
    rw [List.pairwise_map]
    refine List.Pairwise.imp (R := fun (x y : List UInt8) => decide (x ≤ y) = true) (fun {x y} h => ?_) (List.pairwise_mergeSort (le := fun (x y : List UInt8) => decide (x ≤ y)) (fun a b c h1 h2 => decide_eq_true (List.le_trans (of_decide_eq_true h1) (of_decide_eq_true h2))) u8_le_total _)
    rw [slt_toU9, toU_ofU9, toU_ofU9]
    exact decide_eq_false (List.not_lt.2 (of_decide_eq_true h))
  have hp : (sortS l).Pairwise (fun a b => a ≠ b) := (sortS_perm l).symm.pairwise hn (fun {a b} h => h.symm)
  refine (hp.and hle).imp fun {a b} h => ?_
  obtain ⟨h1, h2⟩ := h
  cases hc : slt a b with
  | true => rfl
  | false => exact absurd (slt_tri hc h2) h1
theorem up_nodup {l : List ByteArray} (h : l.Pairwise (fun a b => slt a b = true)) : l.Nodup := by
  refine List.Pairwise.imp (fun {a b} h e => ?_) h
  subst e
  rw [slt_irr] at h; cases h
theorem nd_le {α : Type} : ∀ {l m : List α}, l.Nodup → (∀ x, x ∈ l → x ∈ m) → l.length ≤ m.length
  | [], _, _, _ => Nat.zero_le _
  | a :: r, m, hd, h => by
    rw [List.nodup_cons] at hd
    obtain ⟨m1, m2, rfl⟩ := List.append_of_mem (h a List.mem_cons_self)
    have := nd_le (l := r) (m := m1 ++ m2) hd.2 fun x hx => by
      rcases List.mem_append.1 (h x (List.mem_cons_of_mem _ hx)) with h1 | h1
      · exact List.mem_append_left _ h1
      · rcases List.mem_cons.1 h1 with rfl | h1
        · exact absurd hx hd.1
        · exact List.mem_append_right _ h1
    rw [List.length_append] at this
    rw [List.length_append, List.length_cons, List.length_cons]
    omega
/-! ### what the three sides have for a key -/
theorem ent3_add (L : List M3) (s k : ByteArray) : ent3 (addK L s) k = ent3 L k := by
  unfold addK
  split
  · rfl
  · rw [ent3, ent3, List.find?_append]
    cases L.find? fun p => decide (p.k = k) with
    | some p => rfl
    | none =>
      by_cases h : s = k
      · subst h
        simp [M3.nil]
      · simp [M3.nil, h]
theorem find_set (i : Nat) (s v k : ByteArray) : ∀ (L : List M3), (setK i s v L).find? (fun p => decide (p.k = k)) = (L.find? fun p => decide (p.k = k)).map fun p => if p.k = s then p.up i v else p
  | [] => rfl
  | p :: L => by
    have ih := find_set i s v k L
    rw [setK, List.map_cons, List.find?_cons, List.find?_cons]
    have hk : (if p.k = s then p.up i v else p).k = p.k := by
      split
      · exact up_k i v p
      · rfl
    rw [hk]
    by_cases h : p.k = k
    · rw [decide_eq_true h]
      rfl
    · rw [decide_eq_false h]
      exact ih
theorem ent3_ins (i : Nat) (L : List M3) (t : GTag) (k : ByteArray) : ent3 (insK i L t) k = if t.key = k then (ent3 L k).up i t.val else ent3 L k := by
  have hin : t.key ∈ (addK L t.key).map M3.k := addK_has L t.key
  rw [insK, ent3, find_set, ← ent3_add L t.key k]
  obtain ⟨M, hM⟩ : ∃ M, M = addK L t.key := ⟨_, rfl⟩
  rw [← hM] at hin ⊢
  rw [ent3]
  cases hf : M.find? fun p => decide (p.k = k) with
  | none =>
    have hne : ¬ t.key = k := fun e => by
      obtain ⟨p, hp, hpk⟩ := List.mem_map.1 hin
      have := List.find?_eq_none.1 hf p hp
      rw [hpk, decide_eq_true e] at this
      exact this rfl
    rw [if_neg hne]
    rfl
  | some p =>
    have h := List.find?_some hf
    have hpk : p.k = k := of_decide_eq_true h
    show (if p.k = t.key then p.up i t.val else p) = if t.key = k then p.up i t.val else p
    rw [hpk]
    by_cases e : k = t.key
    · rw [if_pos e, if_pos e.symm]
    · rw [if_neg e, if_neg (Ne.symm e)]
theorem ent3_side (i : Nat) (k : ByteArray) : ∀ (l : List GTag) (L : List M3), asc GTag.key l → ent3 (sideK i L l) k = match gGet l k with
    | some v => (ent3 L k).up i v
    | none => ent3 L k
  | [], L, _ => rfl
  | t :: r, L, ha => by
    rw [asc, List.pairwise_cons] at ha
    have ih := ent3_side i k r (insK i L t) ha.2
    show ent3 (sideK i (insK i L t) r) k = _
    rw [ih, ent3_ins]
    by_cases e : t.key = k
    · have hr : gGet r k = none := gGet_none fun x hx h => by
        have := ha.1 x hx
        rw [e, h, slt_irr] at this; cases this
      have hg : gGet (t :: r) k = some t.val := by rw [gGet, List.find?_cons, decide_eq_true e]; rfl
      rw [hr, hg, if_pos e]
    · have hg : gGet (t :: r) k = gGet r k := by rw [gGet, List.find?_cons, decide_eq_false e]; rfl
      rw [hg, if_neg e]
theorem up_or (i : Nat) (p : M3) (l : List GTag) (k : ByteArray) (h0 : i = 0 → p.b = sNil) (h1 : i = 1 → p.o = sNil) (h2 : i = 2 → p.t = sNil) (hi : i < 3) : (match gGet l k with
    | some v => p.up i v
    | none => p) = p.up i (vOf l k) := by
  rw [vOf]
  cases gGet l k with
  | some v => rfl
  | none =>
    obtain ⟨pk, pb, po, pt⟩ := p
    match i, hi with
    | 0, _ => have := h0 rfl; subst this; rfl
    | 1, _ => have := h1 rfl; subst this; rfl
    | 2, _ => have := h2 rfl; subst this; rfl
theorem ent3_all {b o t : List GTag} (hb : asc GTag.key b) (ho : asc GTag.key o) (ht : asc GTag.key t) (k : ByteArray) : ent3 (all3 b o t) k = ⟨k, vOf b k, vOf o k, vOf t k⟩ := by
  rw [all3, ent3_side 2 k t _ ht, ent3_side 1 k o _ ho, ent3_side 0 k b _ hb]
  have e0 : ent3 [] k = M3.nil k := rfl
  rw [e0, up_or 0 (M3.nil k) b k (fun _ => rfl) (fun h => by cases h) (fun h => by cases h) (by decide),
    up_or 1 _ o k (fun h => by cases h) (fun _ => rfl) (fun h => by cases h) (by decide),
    up_or 2 _ t k (fun h => by cases h) (fun h => by cases h) (fun _ => rfl) (by decide)]
  rfl
theorem key_side (i : Nat) (k : ByteArray) : ∀ (l : List GTag) (L : List M3), k ∈ (sideK i L l).map M3.k ↔ k ∈ L.map M3.k ∨ k ∈ l.map GTag.key
  | [], L => by simp [sideK]
  | t :: r, L => by
    show k ∈ (sideK i (insK i L t) r).map M3.k ↔ _
    rw [key_side i k r, insK, setK_k, List.map_cons, List.mem_cons]
    have : k ∈ (addK L t.key).map M3.k ↔ k ∈ L.map M3.k ∨ k = t.key := by
      by_cases h : t.key ∈ L.map M3.k
      · rw [addK_in h]
        exact ⟨.inl, fun h' => by rcases h' with h' | rfl; exact h'; exact h⟩
      · rw [addK_new h, List.map_append, List.mem_append]
        simp [M3.nil]
    rw [this, or_assoc]
/-- The keys of three sides, in order. -/
def keys3 (b o t : List GTag) : List ByteArray := sortS ((all3 b o t).map M3.k)
theorem keys3_mem {b o t : List GTag} {k : ByteArray} : k ∈ keys3 b o t ↔ k ∈ b.map GTag.key ∨ k ∈ o.map GTag.key ∨ k ∈ t.map GTag.key := by
  rw [keys3, (sortS_perm _).mem_iff, all3, key_side, key_side, key_side]
  simp [or_assoc]
theorem keys3_up (b o t : List GTag) : (keys3 b o t).Pairwise (fun a b => slt a b = true) := sortS_up (all3_nodup b o t)
def at3 (b o t : List GTag) (k : ByteArray) : M3 := ⟨k, vOf b k, vOf o k, vOf t k⟩
theorem srt3_eq {b o t : List GTag} (hb : asc GTag.key b) (ho : asc GTag.key o) (ht : asc GTag.key t) : srt3 (all3 b o t) = (keys3 b o t).map (at3 b o t) :=
  List.map_congr_left fun k _ => ent3_all hb ho ht k
/-! ### the merge -/
def neB (p : M3) : Bool := !decide ((m1 p).1 = ⟨#[]⟩)
theorem fold_le : ∀ (P : List M3) (A : List GTag) (C : List ByteArray), A.length + (P.filter neB).length ≤ 60 → P.foldl mStep (A, C) = (A ++ (P.filter neB).map (fun p => ⟨p.k, (m1 p).1⟩), C ++ (P.filter fun p => (m1 p).2).map M3.k)
  | [], A, C, _ => by simp
  | p :: P, A, C, h => by
    rw [List.foldl_cons]
    have hC : mConf C p = C ++ (if (m1 p).2 then [p.k] else []) := by
      unfold mConf
      split
      · rfl
      · rw [List.append_nil]
    have hC2 : ((p :: P).filter fun p => (m1 p).2).map M3.k = (if (m1 p).2 then [p.k] else []) ++ (P.filter fun p => (m1 p).2).map M3.k := by
      rw [List.filter_cons]
      split <;> rfl
    rw [hC2, ← List.append_assoc, ← hC]
    by_cases hn : (m1 p).1 = ⟨#[]⟩
    · have hf : (p :: P).filter neB = P.filter neB := by rw [List.filter_cons, if_neg (by rw [neB, decide_eq_true hn]; simp)]
      rw [hf] at h ⊢
      have : mStep (A, C) p = (A, mConf C p) := by rw [mStep, if_pos hn]
      rw [this]
      exact fold_le P A (mConf C p) h
    · have hf : (p :: P).filter neB = p :: P.filter neB := by rw [List.filter_cons, if_pos (by rw [neB, decide_eq_false hn]; rfl)]
      rw [hf] at h ⊢
      rw [List.length_cons] at h
      have : mStep (A, C) p = (A ++ [⟨p.k, (m1 p).1⟩], mConf C p) := by rw [mStep, if_neg hn, if_pos (by show A.length < 60; omega)]
      rw [this, fold_le P (A ++ [(⟨p.k, (m1 p).1⟩ : GTag)]) (mConf C p) (by rw [List.length_append, List.length_singleton]; omega), List.map_cons, List.append_assoc]
      rfl
def mv (b o t : List GTag) (k : ByteArray) : ByteArray := (m1 (at3 b o t k)).1
def mc (b o t : List GTag) (k : ByteArray) : Bool := (m1 (at3 b o t k)).2
theorem mv_or (b o t : List GTag) (k : ByteArray) : mv b o t k = vOf b k ∨ mv b o t k = vOf o k ∨ mv b o t k = vOf t k := by
  unfold mv m1 at3
  dsimp only
  split
  · exact .inr (.inl rfl)
  · split
    · exact .inr (.inl rfl)
    · split
      · exact .inr (.inr rfl)
      · exact .inl rfl
theorem vOf_has {l : List GTag} {k : ByteArray} (h : vOf l k ≠ sNil) : (⟨k, vOf l k⟩ : GTag) ∈ l := by
  rw [vOf] at h ⊢
  cases hg : gGet l k with
  | none => rw [hg] at h; exact absurd rfl h
  | some v => exact gGet_mem hg
theorem vOf_get {l : List GTag} (h : gTags l = true) (k : ByteArray) : gGet l k = if vOf l k = sNil then none else some (vOf l k) := by
  rw [vOf]
  cases hg : gGet l k with
  | none => exact (if_pos rfl).symm
  | some v => exact (if_neg ((gTags_iff.1 h).1 _ (gGet_mem hg)).2.1).symm
theorem mv_key {b o t : List GTag} {k : ByteArray} (h : mv b o t k ≠ sNil) : k ∈ keys3 b o t := by
  rw [keys3_mem]
  rcases mv_or b o t k with e | e | e
  · exact .inl (List.mem_map.2 ⟨_, vOf_has (e ▸ h), rfl⟩)
  · exact .inr (.inl (List.mem_map.2 ⟨_, vOf_has (e ▸ h), rfl⟩))
  · exact .inr (.inr (List.mem_map.2 ⟨_, vOf_has (e ▸ h), rfl⟩))
/-- Tags merged, by lookups, where they are few. -/
theorem merge_get {b o t : List GTag} (hb : gTags b = true) (ho : gTags o = true) (ht : gTags t = true) (hn : ((keys3 b o t).filter fun k => !decide (mv b o t k = ⟨#[]⟩)).length ≤ 60) :
    (gMerge b o t).2 = (keys3 b o t).filter (mc b o t) ∧ gTags (gMerge b o t).1 = true ∧ ∀ k, gGet (gMerge b o t).1 k = if mv b o t k = sNil then none else some (mv b o t k) := by
  obtain ⟨b1, b2, b3⟩ := gTags_iff.1 hb
  obtain ⟨o1, o2, o3⟩ := gTags_iff.1 ho
  obtain ⟨t1, t2, t3⟩ := gTags_iff.1 ht
  have hall : (gTags b && gTags o && gTags t) = true := by rw [hb, ho, ht]; rfl
  have hfil : ((keys3 b o t).map (at3 b o t)).filter neB = ((keys3 b o t).filter fun k => !decide (mv b o t k = ⟨#[]⟩)).map (at3 b o t) := by
    rw [List.filter_map]
    rfl
  have hfil2 : (((keys3 b o t).map (at3 b o t)).filter fun p => (m1 p).2) = ((keys3 b o t).filter (mc b o t)).map (at3 b o t) := by
    rw [List.filter_map]
    rfl
  have hG : gMerge b o t = (((keys3 b o t).filter fun k => !decide (mv b o t k = ⟨#[]⟩)).map (fun k => ⟨k, mv b o t k⟩), (keys3 b o t).filter (mc b o t)) := by
    rw [gMerge, if_pos hall, srt3_eq b2 o2 t2, fold_le _ [] [] (by rw [hfil, List.length_map, List.length_nil]; omega), hfil, hfil2, List.map_map, List.map_map, List.nil_append, List.nil_append]
    congr 1
    exact List.map_id' _
  rw [hG]
  obtain ⟨F, hF⟩ : ∃ F, F = (keys3 b o t).filter fun k => !decide (mv b o t k = ⟨#[]⟩) := ⟨_, rfl⟩
  rw [← hF] at hn ⊢
  have hup : F.Pairwise (fun a b => slt a b = true) := by rw [hF]; exact List.Pairwise.sublist List.filter_sublist (keys3_up b o t)
  have hFm : ∀ k, k ∈ F ↔ mv b o t k ≠ sNil := fun k => by
    rw [hF, List.mem_filter]
    constructor
    · rintro ⟨_, h⟩ e
      have : mv b o t k = ⟨#[]⟩ := e
      rw [decide_eq_true this] at h; cases h
    · intro h
      refine ⟨mv_key h, ?_⟩
      have : ¬ mv b o t k = ⟨#[]⟩ := h
      rw [decide_eq_false this]; rfl
  have hasc : asc GTag.key (F.map fun k => (⟨k, mv b o t k⟩ : GTag)) := List.pairwise_map.2 hup
  refine ⟨rfl, gTags_iff.2 ⟨fun x hx => ?_, hasc, by show (F.map _).length ≤ 60; rw [List.length_map]; exact hn⟩, fun k => ?_⟩
  · obtain ⟨k, hk, rfl⟩ := List.mem_map.1 hx
    have hne := (hFm k).1 hk
    show gName k = true ∧ mv b o t k ≠ sNil ∧ (mv b o t k).size ≤ 200
    have hv := mv_or b o t k
    rcases hv with e | e | e
    · have h := b1 _ (vOf_has (e ▸ hne))
      exact ⟨h.1, hne, by rw [e]; exact h.2.2⟩
    · have h := o1 _ (vOf_has (e ▸ hne))
      exact ⟨h.1, hne, by rw [e]; exact h.2.2⟩
    · have h := t1 _ (vOf_has (e ▸ hne))
      exact ⟨h.1, hne, by rw [e]; exact h.2.2⟩
  · show gGet (F.map fun k => (⟨k, mv b o t k⟩ : GTag)) k = _
    by_cases h : mv b o t k = sNil
    · rw [if_pos h]
      refine gGet_none fun x hx e => ?_
      obtain ⟨k', hk', rfl⟩ := List.mem_map.1 hx
      have e' : k' = k := e
      subst e'
      exact (hFm k').1 hk' h
    · rw [if_neg h]
      exact gGet_of hasc (List.mem_map.2 ⟨k, (hFm k).2 h, rfl⟩)
/-- .. where the result's keys are those of valid tags. -/
theorem merge_count {b o t z : List GTag} (hz : gTags z = true) (h : ∀ k, mv b o t k ≠ sNil → vOf z k ≠ sNil) : ((keys3 b o t).filter fun k => !decide (mv b o t k = ⟨#[]⟩)).length ≤ 60 := by
  have h1 : ((keys3 b o t).filter fun k => !decide (mv b o t k = ⟨#[]⟩)).length ≤ (z.map GTag.key).length := by
    refine nd_le (up_nodup (List.Pairwise.sublist List.filter_sublist (keys3_up b o t))) fun k hk => ?_
    rw [List.mem_filter] at hk
    have hne : mv b o t k ≠ sNil := fun e => by
      have e' : mv b o t k = ⟨#[]⟩ := e
      rw [decide_eq_true e'] at hk
      cases hk.2
    exact List.mem_map.2 ⟨_, vOf_has (h k hne), rfl⟩
  rw [List.length_map] at h1
  have := (gTags_iff.1 hz).2.2
  omega
/-- A merge that is known by its lookups. -/
theorem merge_is {b o t z : List GTag} (hb : gTags b = true) (ho : gTags o = true) (ht : gTags t = true) (hz : gTags z = true) (h : ∀ k, m1 (at3 b o t k) = (vOf z k, false)) : gMerge b o t = (z, []) := by
  have hv : ∀ k, mv b o t k = vOf z k := fun k => by rw [mv, h]
  obtain ⟨h1, h2, h3⟩ := merge_get hb ho ht (merge_count hz fun k hk => by rw [← hv]; exact hk)
  refine Prod.ext ?_ ?_
  · refine tags_ext (gTags_iff.1 h2).2.1 (gTags_iff.1 hz).2.1 fun k => ?_
    rw [h3, vOf_get hz, hv]
  · rw [h1]
    exact List.filter_eq_nil_iff.2 fun k _ => by rw [mc, h]; simp
end Go.Proofs.Ytedfihgkopejcaa
end
section
set_option linter.unusedVariables false
set_option linter.unusedSimpArgs false
set_option maxRecDepth 100000
namespace Go.Proofs.Ytedfihgkopejcaa
open Go.Abs
theorem encTs_rl (ls : List (List GTag)) : ∀ r ∈ ls.map encTs, r.length = 1 := fun r hr => by
  obtain ⟨l, _, rfl⟩ := List.mem_map.1 hr
  rfl
end Go.Proofs.Ytedfihgkopejcaa
end
section
set_option linter.unusedVariables false
set_option linter.unusedSimpArgs false
set_option maxRecDepth 100000
namespace Go.Proofs.Ytedfihgkopejcaa
open Go.Abs
theorem set_vOf {l : List GTag} {key val : ByteArray} (h : (gSet l key val).2 = 0) (k : ByteArray) : vOf (gSet l key val).1 k = if k = key then val else vOf l k := by
  rcases gSet_cases l key val with ⟨_, _, h1 | ⟨h1, _⟩⟩ | ⟨_, _, _, h4, _⟩
  · rw [h1] at h; cases h
  · rw [h1] at h; cases h
  · rw [vOf, h4]
    by_cases hk : k = key
    · rw [if_pos hk, if_pos hk]
      by_cases hv : val = sNil
      · rw [if_pos hv, hv]; rfl
      · rw [if_neg hv]; rfl
    · rw [if_neg hk, if_neg hk]; rfl
theorem set_val9 {l : List GTag} {key val : ByteArray} (h : (gSet l key val).2 = 0) : canSet l key val ∧ gTags (gSet l key val).1 = true ∧ (gSet l key val).1.length ≤ l.length + 1 := by
  rcases gSet_cases l key val with ⟨_, _, h1 | ⟨h1, _⟩⟩ | ⟨h1, _, h3, _, h5, _⟩
  · rw [h1] at h; cases h
  · rw [h1] at h; cases h
  · exact ⟨h1, h3, h5⟩
theorem set_can {l : List GTag} {key val : ByteArray} (h : canSet l key val) : (gSet l key val).2 = 0 := by
  rcases gSet_cases l key val with ⟨h1, _⟩ | ⟨_, h2, _⟩
  · exact absurd h h1
  · exact h2
theorem set_comm {l : List GTag} {key other v s : ByteArray} (hko : ¬ key = other) (hl : l.length ≤ 50) (e : (gSet l key v).2 = 0) (f : (gSet l other s).2 = 0) :
    ∃ z, gSet (gSet l key v).1 other s = (z, 0) ∧ gSet (gSet l other s).1 key v = (z, 0) ∧ gMerge l (gSet l key v).1 (gSet l other s).1 = (z, []) := by
  obtain ⟨c1, a1, a2⟩ := set_val9 e
  obtain ⟨c2, b1, b2⟩ := set_val9 f
  have hA := set_vOf e
  have hB := set_vOf f
  obtain ⟨A, hAe⟩ : ∃ A, A = (gSet l key v).1 := ⟨_, rfl⟩
  obtain ⟨B, hBe⟩ : ∃ B, B = (gSet l other s).1 := ⟨_, rfl⟩
  rw [← hAe] at a1 a2 hA ⊢
  rw [← hBe] at b1 b2 hB ⊢
  have k1 : (gSet A other s).2 = 0 := set_can ⟨a1, c2.2.1, c2.2.2.1, fun _ _ => by omega⟩
  have k2 : (gSet B key v).2 = 0 := set_can ⟨b1, c1.2.1, c1.2.2.1, fun _ _ => by omega⟩
  have v1 := set_vOf k1
  have v2 := set_vOf k2
  obtain ⟨_, z1, _⟩ := set_val9 k1
  obtain ⟨_, z2, _⟩ := set_val9 k2
  have hz : (gSet B key v).1 = (gSet A other s).1 := by
    refine tags_ext (gTags_iff.1 z2).2.1 (gTags_iff.1 z1).2.1 fun k => ?_
    rw [vOf_get z1, vOf_get z2, v1, v2, hA, hB]
    by_cases h1 : k = key
    · have h2 : ¬ k = other := fun h => hko (h1.symm.trans h)
      rw [if_pos h1, if_neg h2, if_pos h1]
    · rw [if_neg h1, if_neg h1]
  refine ⟨(gSet A other s).1, Prod.ext rfl k1, Prod.ext hz k2, merge_is c1.1 a1 b1 z1 fun k => ?_⟩
  rw [v1, at3, hA, hB]
  unfold m1
  dsimp only
  by_cases h1 : k = key
  · have h2 : ¬ k = other := fun h => hko (h1.symm.trans h)
    rw [if_neg h2, if_neg h2, if_pos h1, if_pos rfl]
    split <;> rfl
  · rw [if_neg h1]
    by_cases h2 : k = other
    · rw [if_pos h2]
      by_cases h3 : s = vOf l k
      · rw [if_pos h3, h3]
      · rw [if_neg h3, if_neg h3, if_pos rfl]
    · rw [if_neg h2, if_pos rfl]
theorem tagCommutes_c (l : List GTag) (key other v s : ByteArray) (H : Heap) (hl : szT l) (hk : key.size < 4611686018427387904) (ho : other.size < 4611686018427387904) (hv : v.size < 4611686018427387904) (hs : s.size < 4611686018427387904) : ACalls Try.prog 8 [.pv (slTags l), sv key, sv other, sv v, sv s] H (fun r H' => r = bv true ∧ H' = H) := by
  refine ACalls.pure ?_ (by simp) H
  have hl2 := hl.2
  have hA := gSet_sz hl hk hv
  have hB := gSet_sz hl ho hs
  have hA2 := hA.2
  have hB2 := hB.2
  refine ACalls.body Try.func8 rfl Try.ntmps8 (Nat.le_of_ble_eq_true rfl) ?_
  refine awp_seq ?_
  refine awp_region ?_
  refine al_d rfl rfl rfl (by exact opd_assign rfl rfl) ?_
  refine al_nil ?_
  refine awp_seq ?_
  refine awp_region ?_
  refine al_d rfl rfl rfl (by exact opr_call rfl rfl Try.call9 rfl (head9_c _)) ?_
  refine al_d rfl rfl rfl (by exact opd_assign rfl rfl) ?_
  refine al_nil ?_
  refine awp_seq ?_
  refine awp_seq ?_
  refine awp_bool (t := 56) (n := 40) (X := !fewAll [l] || decide (50 < ((l.map encTag).length : Int)) || decide (300 < (key.size : Int)) || decide (300 < (other.size : Int)) || decide (300 < (v.size : Int)) || decide (300 < (s.size : Int)) || decide (key = other)) ?_ ?_
  · all_goals (refine al_d rfl rfl rfl (by exact opd_move rfl rfl) ?_)
    all_goals (refine al_d rfl rfl rfl (by exact (by first | exact x_buildSlice ([l].map encTs) rfl so47 rfl rfl rfl rfl rfl (encTs_rl _) | (apply x_buildSlice (ps := ([l].map encTs)) (hS := so47) <;> first | rfl | exact (encTs_rl _) | simp))) ?_)
    all_goals (refine al_d rfl rfl rfl (by exact opr_call rfl rfl Try.call10 rfl (fewLaw_c [l] _ (by show 1 < _; omega) (by intro a ha; rw [List.mem_singleton] at ha; subst ha; exact hl.1))) ?_)
    all_goals (refine al_d rfl rfl rfl (by exact opd_not rfl rfl) ?_)
    all_goals (refine al_d rfl rfl rfl (by exact opd_move rfl rfl) ?_)
    all_goals (first | refine al_split (t := 27) rfl (fun h27 => ?_) (fun h27 => ?_) | refine al_dup (t := 27) rfl ?_ | skip)
    all_goals (try contradiction)
    all_goals (first | refine al_off rfl rfl rfl rfl rfl ?_ | refine al_offu rfl rfl rfl rfl ?_ | refine al_ond rfl rfl rfl rfl rfl rfl (by exact opd_move rfl rfl) ?_)
    all_goals (first | refine al_off rfl rfl rfl rfl rfl ?_ | refine al_offu rfl rfl rfl rfl ?_ | refine al_ond rfl rfl rfl rfl rfl rfl (by exact (by first | exact opd_len_sl rfl Try.underlying22 rfl | exact opd_len_osl rfl Try.underlying22 rfl rfl rfl)) ?_)
    all_goals (first | refine al_off rfl rfl rfl rfl rfl ?_ | refine al_offu rfl rfl rfl rfl ?_ | refine al_ond rfl rfl rfl rfl rfl rfl (by exact opd_gtr rfl rfl rfl) ?_)
    all_goals (refine al_d rfl rfl rfl (by exact (by first | exact opd_pick_t rfl rfl rfl | exact opd_pick_f rfl rfl rfl | exact opd_pickt rfl rfl (by assumption) rfl | exact opd_pickf rfl rfl (by assumption) rfl | exact opd_pick rfl rfl rfl)) ?_)
    all_goals (refine al_d rfl rfl rfl (by exact opd_move rfl rfl) ?_)
    all_goals (first | refine al_split (t := 32) rfl (fun h32 => ?_) (fun h32 => ?_) | refine al_dup (t := 32) rfl ?_ | skip)
    all_goals (try contradiction)
    all_goals (first | refine al_off rfl rfl rfl rfl rfl ?_ | refine al_offu rfl rfl rfl rfl ?_ | refine al_ond rfl rfl rfl rfl rfl rfl (by exact opd_move rfl rfl) ?_)
    all_goals (first | refine al_off rfl rfl rfl rfl rfl ?_ | refine al_offu rfl rfl rfl rfl ?_ | refine al_ond rfl rfl rfl rfl rfl rfl (by exact opd_len_str rfl Try.underlying9 rfl) ?_)
    all_goals (first | refine al_off rfl rfl rfl rfl rfl ?_ | refine al_offu rfl rfl rfl rfl ?_ | refine al_ond rfl rfl rfl rfl rfl rfl (by exact opd_gtr rfl rfl rfl) ?_)
    all_goals (refine al_d rfl rfl rfl (by exact (by first | exact opd_pick_t rfl rfl rfl | exact opd_pick_f rfl rfl rfl | exact opd_pickt rfl rfl (by assumption) rfl | exact opd_pickf rfl rfl (by assumption) rfl | exact opd_pick rfl rfl rfl)) ?_)
    all_goals (refine al_d rfl rfl rfl (by exact opd_move rfl rfl) ?_)
    all_goals (first | refine al_split (t := 37) rfl (fun h37 => ?_) (fun h37 => ?_) | refine al_dup (t := 37) rfl ?_ | skip)
    all_goals (try contradiction)
    all_goals (first | refine al_off rfl rfl rfl rfl rfl ?_ | refine al_offu rfl rfl rfl rfl ?_ | refine al_ond rfl rfl rfl rfl rfl rfl (by exact opd_move rfl rfl) ?_)
    all_goals (first | refine al_off rfl rfl rfl rfl rfl ?_ | refine al_offu rfl rfl rfl rfl ?_ | refine al_ond rfl rfl rfl rfl rfl rfl (by exact opd_len_str rfl Try.underlying9 rfl) ?_)
    all_goals (first | refine al_off rfl rfl rfl rfl rfl ?_ | refine al_offu rfl rfl rfl rfl ?_ | refine al_ond rfl rfl rfl rfl rfl rfl (by exact opd_gtr rfl rfl rfl) ?_)
    all_goals (refine al_d rfl rfl rfl (by exact (by first | exact opd_pick_t rfl rfl rfl | exact opd_pick_f rfl rfl rfl | exact opd_pickt rfl rfl (by assumption) rfl | exact opd_pickf rfl rfl (by assumption) rfl | exact opd_pick rfl rfl rfl)) ?_)
    all_goals (refine al_d rfl rfl rfl (by exact opd_move rfl rfl) ?_)
    all_goals (first | refine al_split (t := 42) rfl (fun h42 => ?_) (fun h42 => ?_) | refine al_dup (t := 42) rfl ?_ | skip)
    all_goals (try contradiction)
    all_goals (first | refine al_off rfl rfl rfl rfl rfl ?_ | refine al_offu rfl rfl rfl rfl ?_ | refine al_ond rfl rfl rfl rfl rfl rfl (by exact opd_move rfl rfl) ?_)
    all_goals (first | refine al_off rfl rfl rfl rfl rfl ?_ | refine al_offu rfl rfl rfl rfl ?_ | refine al_ond rfl rfl rfl rfl rfl rfl (by exact opd_len_str rfl Try.underlying9 rfl) ?_)
    all_goals (first | refine al_off rfl rfl rfl rfl rfl ?_ | refine al_offu rfl rfl rfl rfl ?_ | refine al_ond rfl rfl rfl rfl rfl rfl (by exact opd_gtr rfl rfl rfl) ?_)
    all_goals (refine al_d rfl rfl rfl (by exact (by first | exact opd_pick_t rfl rfl rfl | exact opd_pick_f rfl rfl rfl | exact opd_pickt rfl rfl (by assumption) rfl | exact opd_pickf rfl rfl (by assumption) rfl | exact opd_pick rfl rfl rfl)) ?_)
    all_goals (refine al_d rfl rfl rfl (by exact opd_move rfl rfl) ?_)
    all_goals (first | refine al_split (t := 47) rfl (fun h47 => ?_) (fun h47 => ?_) | refine al_dup (t := 47) rfl ?_ | skip)
    all_goals (try contradiction)
    all_goals (first | refine al_off rfl rfl rfl rfl rfl ?_ | refine al_offu rfl rfl rfl rfl ?_ | refine al_ond rfl rfl rfl rfl rfl rfl (by exact opd_move rfl rfl) ?_)
    all_goals (first | refine al_off rfl rfl rfl rfl rfl ?_ | refine al_offu rfl rfl rfl rfl ?_ | refine al_ond rfl rfl rfl rfl rfl rfl (by exact opd_len_str rfl Try.underlying9 rfl) ?_)
    all_goals (first | refine al_off rfl rfl rfl rfl rfl ?_ | refine al_offu rfl rfl rfl rfl ?_ | refine al_ond rfl rfl rfl rfl rfl rfl (by exact opd_gtr rfl rfl rfl) ?_)
    all_goals (refine al_d rfl rfl rfl (by exact (by first | exact opd_pick_t rfl rfl rfl | exact opd_pick_f rfl rfl rfl | exact opd_pickt rfl rfl (by assumption) rfl | exact opd_pickf rfl rfl (by assumption) rfl | exact opd_pick rfl rfl rfl)) ?_)
    all_goals (refine al_d rfl rfl rfl (by exact opd_move rfl rfl) ?_)
    all_goals (first | refine al_split (t := 52) rfl (fun h52 => ?_) (fun h52 => ?_) | refine al_dup (t := 52) rfl ?_ | skip)
    all_goals (try contradiction)
    all_goals (first | refine al_off rfl rfl rfl rfl rfl ?_ | refine al_offu rfl rfl rfl rfl ?_ | refine al_ond rfl rfl rfl rfl rfl rfl (by exact opd_move rfl rfl) ?_)
    all_goals (first | refine al_off rfl rfl rfl rfl rfl ?_ | refine al_offu rfl rfl rfl rfl ?_ | refine al_ond rfl rfl rfl rfl rfl rfl (by exact opd_move rfl rfl) ?_)
    all_goals (first | refine al_off rfl rfl rfl rfl rfl ?_ | refine al_offu rfl rfl rfl rfl ?_ | refine al_ond rfl rfl rfl rfl rfl rfl (by exact opd_seql rfl rfl rfl) ?_)
    all_goals (refine al_d rfl rfl rfl (by exact (by first | exact opd_pick_t rfl rfl rfl | exact opd_pick_f rfl rfl rfl | exact opd_pickt rfl rfl (by assumption) rfl | exact opd_pickf rfl rfl (by assumption) rfl | exact opd_pick rfl rfl rfl)) ?_)
    all_goals (refine al_nil ?_)
    all_goals (exact ⟨⟨_, rfl, by first | rfl | (simp only [*, Bool.false_and, Bool.true_and, Bool.and_false, Bool.and_true, Bool.true_or, Bool.false_or, Bool.or_true, Bool.or_false, Bool.not_true, Bool.not_false]; done) | (simp_all; done) | (simp_all; omega)⟩, rfl, rfl, rfl⟩)
  refine awp_cond rfl (fun hc1 => ?_) (fun hc1 => ?_)
  -- cond 1
  · skip
    refine awp_seq ?_
    refine awp_region ?_
    refine al_d rfl rfl rfl (by exact opd_move rfl rfl) ?_
    refine al_d rfl rfl rfl (by exact opd_assign rfl rfl) ?_
    refine al_nil ?_
    refine awp_ret ?_
    -- return
    refine aret1 (H' := []) (by first | exact .inr rfl | exact .inl rfl) rfl (rval_tmp rfl) (Fin.wk (by simp) trivial trivial) ?_
    exact ⟨rfl, rfl⟩
  · have h := hc1
    simp only [Bool.or_eq_false_iff, decide_eq_false_iff_not, List.length_map] at h
    obtain ⟨⟨⟨⟨⟨⟨_, h50⟩, _⟩, _⟩, _⟩, _⟩, hko⟩ := h
    by_cases e : (gSet l key v).2 = 0
    · by_cases f : (gSet l other s).2 = 0
      · obtain ⟨z, q1, q2, q3⟩ := set_comm hko (by omega) e f
        have hS1 : gSet l key v = ((gSet l key v).1, 0) := Prod.ext rfl e
        have hS2 : gSet l other s = ((gSet l other s).1, 0) := Prod.ext rfl f
        obtain ⟨A, hAe⟩ : ∃ A, A = (gSet l key v).1 := ⟨_, rfl⟩
        obtain ⟨B, hBe⟩ : ∃ B, B = (gSet l other s).1 := ⟨_, rfl⟩
        rw [← hAe] at hS1 q1 q3 hA hA2
        rw [← hBe] at hS2 q2 q3 hB hB2
        have hz : z.length < 68719476736 := by
          have := gSet_sz hA ho hs
          rw [q1] at this
          exact this.2
        refine awp_skip ?_
        refine awp_seq ?_
        refine awp_region ?_
        refine al_d rfl rfl rfl (by exact opd_move rfl rfl) ?_
        refine al_d rfl rfl rfl (by exact opd_move rfl rfl) ?_
        refine al_d rfl rfl rfl (by exact opd_move rfl rfl) ?_
        refine al_d rfl rfl rfl (by exact opr_call rfl rfl Try.call11 rfl (set9_t hS1 _ hl.1 hk hv (by omega))) ?_
        refine al_d rfl rfl rfl (by exact opd_move rfl rfl) ?_
        refine al_d rfl rfl rfl (by exact opd_extract rfl rfl rfl) ?_
        refine al_d rfl rfl rfl (by exact opd_extract rfl rfl rfl) ?_
        refine al_d rfl rfl rfl (by exact opd_assign rfl rfl) ?_
        refine al_d rfl rfl rfl (by exact opd_assign rfl rfl) ?_
        refine al_nil ?_
        refine awp_seq ?_
        refine awp_region ?_
        refine al_d rfl rfl rfl (by exact opd_move rfl rfl) ?_
        refine al_d rfl rfl rfl (by exact opd_move rfl rfl) ?_
        refine al_d rfl rfl rfl (by exact opd_move rfl rfl) ?_
        refine al_d rfl rfl rfl (by exact opr_call rfl rfl Try.call11 rfl (set9_t hS2 _ hl.1 ho hs (by omega))) ?_
        refine al_d rfl rfl rfl (by exact opd_move rfl rfl) ?_
        refine al_d rfl rfl rfl (by exact opd_extract rfl rfl rfl) ?_
        refine al_d rfl rfl rfl (by exact opd_extract rfl rfl rfl) ?_
        refine al_d rfl rfl rfl (by exact opd_assign rfl rfl) ?_
        refine al_d rfl rfl rfl (by exact opd_assign rfl rfl) ?_
        refine al_nil ?_
        refine awp_seq ?_
        refine awp_region ?_
        refine al_d rfl rfl rfl (by exact opd_move rfl rfl) ?_
        refine al_d rfl rfl rfl (by exact opd_move rfl rfl) ?_
        refine al_d rfl rfl rfl (by exact opd_move rfl rfl) ?_
        refine al_d rfl rfl rfl (by exact opr_call rfl rfl Try.call11 rfl (set9_t q1 _ hA.1 ho hs (by omega))) ?_
        refine al_d rfl rfl rfl (by exact opd_move rfl rfl) ?_
        refine al_d rfl rfl rfl (by exact opd_extract rfl rfl rfl) ?_
        refine al_d rfl rfl rfl (by exact opd_extract rfl rfl rfl) ?_
        refine al_d rfl rfl rfl (by exact opd_assign rfl rfl) ?_
        refine al_d rfl rfl rfl (by exact opd_assign rfl rfl) ?_
        refine al_nil ?_
        refine awp_seq ?_
        refine awp_region ?_
        refine al_d rfl rfl rfl (by exact opd_move rfl rfl) ?_
        refine al_d rfl rfl rfl (by exact opd_move rfl rfl) ?_
        refine al_d rfl rfl rfl (by exact opd_move rfl rfl) ?_
        refine al_d rfl rfl rfl (by exact opr_call rfl rfl Try.call11 rfl (set9_t q2 _ hB.1 hk hv (by omega))) ?_
        refine al_d rfl rfl rfl (by exact opd_move rfl rfl) ?_
        refine al_d rfl rfl rfl (by exact opd_extract rfl rfl rfl) ?_
        refine al_d rfl rfl rfl (by exact opd_extract rfl rfl rfl) ?_
        refine al_d rfl rfl rfl (by exact opd_assign rfl rfl) ?_
        refine al_d rfl rfl rfl (by exact opd_assign rfl rfl) ?_
        refine al_nil ?_
        refine awp_seq ?_
        refine awp_seq ?_
        refine awp_region ?_
        refine al_d rfl rfl rfl (by exact opd_move rfl rfl) ?_
        refine al_d rfl rfl rfl (by exact opd_neq rfl rfl rfl) ?_
        refine al_d rfl rfl rfl (by exact opd_move rfl rfl) ?_
        refine al_ond rfl rfl rfl (by first | rfl | assumption) rfl rfl (by exact opd_move rfl rfl) ?_
        refine al_ond rfl rfl rfl (by first | rfl | assumption) rfl rfl (by exact opd_neq rfl rfl rfl) ?_
        refine al_d rfl rfl rfl (by exact (by first | exact opd_pick_t rfl rfl rfl | exact opd_pick_f rfl rfl rfl | exact opd_pickt rfl rfl (by assumption) rfl | exact opd_pickf rfl rfl (by assumption) rfl | exact opd_pick rfl rfl rfl)) ?_
        refine al_nil ?_
        refine awp_cond rfl (fun hc2 => ?_) (fun hc2 => ?_)
        -- cond 2
        · skip
          (first | (cases hc2; done) | (revert hc2; simp; done) | (revert hc2; simp_all; done) | (revert hc2; simp_all; omega))
        · skip
          refine awp_skip ?_
          refine awp_seq ?_
          refine awp_region ?_
          refine al_d rfl rfl rfl (by exact opd_move rfl rfl) ?_
          refine al_d rfl rfl rfl (by exact opd_move rfl rfl) ?_
          refine al_d rfl rfl rfl (by exact opd_move rfl rfl) ?_
          refine al_d rfl rfl rfl (by exact opr_call rfl rfl Try.call13 rfl (merge9_t q3 _ hl.1 hA.1 hB.1 hl2 hA2 hB2)) ?_
          refine al_d rfl rfl rfl (by exact opd_move rfl rfl) ?_
          refine al_d rfl rfl rfl (by exact opd_extract rfl rfl rfl) ?_
          refine al_d rfl rfl rfl (by exact opd_extract rfl rfl rfl) ?_
          refine al_d rfl rfl rfl (by exact opd_assign rfl rfl) ?_
          refine al_d rfl rfl rfl (by exact opd_assign rfl rfl) ?_
          refine al_nil ?_
          refine awp_seq ?_
          refine awp_region ?_
          refine al_d rfl rfl rfl (by exact opd_move rfl rfl) ?_
          refine al_d rfl rfl rfl (by exact opd_move rfl rfl) ?_
          refine al_ond rfl rfl rfl (by first | rfl | assumption) rfl rfl (by exact opd_move rfl rfl) ?_
          refine al_ond rfl rfl rfl (by first | rfl | assumption) rfl rfl (by exact opd_eql rfl rfl rfl) ?_
          refine al_d rfl rfl rfl (by exact (by first | exact opd_pick_t rfl rfl rfl | exact opd_pick_f rfl rfl rfl | exact opd_pickt rfl rfl (by assumption) rfl | exact opd_pickf rfl rfl (by assumption) rfl | exact opd_pick rfl rfl rfl)) ?_
          refine al_d rfl rfl rfl (by exact opd_move rfl rfl) ?_
          refine al_ond rfl rfl rfl (by first | rfl | assumption) rfl rfl (by exact opd_move rfl rfl) ?_
          refine al_ond rfl rfl rfl (by first | rfl | assumption) rfl rfl (by exact opd_eql rfl rfl rfl) ?_
          refine al_d rfl rfl rfl (by exact (by first | exact opd_pick_t rfl rfl rfl | exact opd_pick_f rfl rfl rfl | exact opd_pickt rfl rfl (by assumption) rfl | exact opd_pickf rfl rfl (by assumption) rfl | exact opd_pick rfl rfl rfl)) ?_
          refine al_d rfl rfl rfl (by exact opd_move rfl rfl) ?_
          refine al_ond rfl rfl rfl (by first | rfl | assumption) rfl rfl (by exact opd_move rfl rfl) ?_
          refine al_ond rfl rfl rfl (by first | rfl | assumption) rfl rfl (by exact opd_move rfl rfl) ?_
          refine al_ond rfl rfl rfl (by first | rfl | assumption) rfl rfl (by exact opr_call rfl rfl Try.call21 rfl (same9_t rfl _ (by omega))) ?_
          refine al_d rfl rfl rfl (by exact (by first | exact opd_pick_t rfl rfl rfl | exact opd_pick_f rfl rfl rfl | exact opd_pickt rfl rfl (by assumption) rfl | exact opd_pickf rfl rfl (by assumption) rfl | exact opd_pick rfl rfl rfl)) ?_
          refine al_d rfl rfl rfl (by exact opd_move rfl rfl) ?_
          refine al_ond rfl rfl rfl (by first | rfl | assumption) rfl rfl (by exact opd_move rfl rfl) ?_
          refine al_ond rfl rfl rfl (by first | rfl | assumption) rfl rfl (by exact opd_move rfl rfl) ?_
          refine al_ond rfl rfl rfl (by first | rfl | assumption) rfl rfl (by exact opr_call rfl rfl Try.call21 rfl (same9_t rfl _ (by omega))) ?_
          refine al_d rfl rfl rfl (by exact (by first | exact opd_pick_t rfl rfl rfl | exact opd_pick_f rfl rfl rfl | exact opd_pickt rfl rfl (by assumption) rfl | exact opd_pickf rfl rfl (by assumption) rfl | exact opd_pick rfl rfl rfl)) ?_
          refine al_d rfl rfl rfl (by exact opd_move rfl rfl) ?_
          refine al_ond rfl rfl rfl (by first | rfl | assumption) rfl rfl (by exact opd_move rfl rfl) ?_
          refine al_ond rfl rfl rfl (by first | rfl | assumption) rfl rfl (by exact (by first | exact opd_len_sl rfl Try.underlying28 rfl | exact opd_len_osl rfl Try.underlying28 rfl rfl rfl)) ?_
          refine al_ond rfl rfl rfl (by first | rfl | assumption) rfl rfl (by exact opd_eql rfl rfl rfl) ?_
          refine al_d rfl rfl rfl (by exact (by first | exact opd_pick_t rfl rfl rfl | exact opd_pick_f rfl rfl rfl | exact opd_pickt rfl rfl (by assumption) rfl | exact opd_pickf rfl rfl (by assumption) rfl | exact opd_pick rfl rfl rfl)) ?_
          refine al_d rfl rfl rfl (by exact opd_assign rfl rfl) ?_
          refine al_nil ?_
          refine awp_ret ?_
          -- return
          refine aret1 (H' := []) (by first | exact .inr rfl | exact .inl rfl) rfl (rval_tmp rfl) (Fin.wk (by simp) trivial trivial) ?_
          exact ⟨rfl, rfl⟩
      · have hE : (!decide ((gSet l key v).2 = 0)) = false := by rw [decide_eq_true e]; rfl
        have hF : (!decide ((gSet l other s).2 = 0)) = true := by rw [decide_eq_false f]; rfl
        refine awp_skip ?_
        refine awp_seq ?_
        refine awp_region ?_
        refine al_d rfl rfl rfl (by exact opd_move rfl rfl) ?_
        refine al_d rfl rfl rfl (by exact opd_move rfl rfl) ?_
        refine al_d rfl rfl rfl (by exact opd_move rfl rfl) ?_
        refine al_d rfl rfl rfl (by exact opr_call rfl rfl Try.call11 rfl (tagSet_c l key v _ hl.1 hk hv (by omega))) ?_
        refine al_d rfl rfl rfl (by exact opd_move rfl rfl) ?_
        refine al_d rfl rfl rfl (by exact opd_extract rfl rfl rfl) ?_
        refine al_d rfl rfl rfl (by exact opd_extract rfl rfl rfl) ?_
        refine al_d rfl rfl rfl (by exact opd_assign rfl rfl) ?_
        refine al_d rfl rfl rfl (by exact opd_assign rfl rfl) ?_
        refine al_nil ?_
        refine awp_seq ?_
        refine awp_region ?_
        refine al_d rfl rfl rfl (by exact opd_move rfl rfl) ?_
        refine al_d rfl rfl rfl (by exact opd_move rfl rfl) ?_
        refine al_d rfl rfl rfl (by exact opd_move rfl rfl) ?_
        refine al_d rfl rfl rfl (by exact opr_call rfl rfl Try.call11 rfl (tagSet_c l other s _ hl.1 ho hs (by omega))) ?_
        refine al_d rfl rfl rfl (by exact opd_move rfl rfl) ?_
        refine al_d rfl rfl rfl (by exact opd_extract rfl rfl rfl) ?_
        refine al_d rfl rfl rfl (by exact opd_extract rfl rfl rfl) ?_
        refine al_d rfl rfl rfl (by exact opd_assign rfl rfl) ?_
        refine al_d rfl rfl rfl (by exact opd_assign rfl rfl) ?_
        refine al_nil ?_
        refine awp_seq ?_
        refine awp_region ?_
        refine al_d rfl rfl rfl (by exact opd_move rfl rfl) ?_
        refine al_d rfl rfl rfl (by exact opd_move rfl rfl) ?_
        refine al_d rfl rfl rfl (by exact opd_move rfl rfl) ?_
        refine al_d rfl rfl rfl (by exact opr_call rfl rfl Try.call11 rfl (tagSet_c (gSet l key v).1 other s _ hA.1 ho hs (by omega))) ?_
        refine al_d rfl rfl rfl (by exact opd_move rfl rfl) ?_
        refine al_d rfl rfl rfl (by exact opd_extract rfl rfl rfl) ?_
        refine al_d rfl rfl rfl (by exact opd_extract rfl rfl rfl) ?_
        refine al_d rfl rfl rfl (by exact opd_assign rfl rfl) ?_
        refine al_d rfl rfl rfl (by exact opd_assign rfl rfl) ?_
        refine al_nil ?_
        refine awp_seq ?_
        refine awp_region ?_
        refine al_d rfl rfl rfl (by exact opd_move rfl rfl) ?_
        refine al_d rfl rfl rfl (by exact opd_move rfl rfl) ?_
        refine al_d rfl rfl rfl (by exact opd_move rfl rfl) ?_
        refine al_d rfl rfl rfl (by exact opr_call rfl rfl Try.call11 rfl (tagSet_c (gSet l other s).1 key v _ hB.1 hk hv (by omega))) ?_
        refine al_d rfl rfl rfl (by exact opd_move rfl rfl) ?_
        refine al_d rfl rfl rfl (by exact opd_extract rfl rfl rfl) ?_
        refine al_d rfl rfl rfl (by exact opd_extract rfl rfl rfl) ?_
        refine al_d rfl rfl rfl (by exact opd_assign rfl rfl) ?_
        refine al_d rfl rfl rfl (by exact opd_assign rfl rfl) ?_
        refine al_nil ?_
        refine awp_seq ?_
        refine awp_seq ?_
        refine awp_region ?_
        refine al_d rfl rfl rfl (by exact opd_move rfl rfl) ?_
        refine al_d rfl rfl rfl (by exact opd_neq rfl rfl rfl) ?_
        refine al_d rfl rfl rfl (by exact opd_move rfl rfl) ?_
        refine al_ond rfl rfl rfl (by first | rfl | assumption) rfl rfl (by exact opd_move rfl rfl) ?_
        refine al_ond rfl rfl rfl (by first | rfl | assumption) rfl rfl (by exact opd_neq rfl rfl rfl) ?_
        refine al_d rfl rfl rfl (by exact (by first | exact opd_pick_t rfl rfl rfl | exact opd_pick_f rfl rfl rfl | exact opd_pickt rfl rfl (by assumption) rfl | exact opd_pickf rfl rfl (by assumption) rfl | exact opd_pick rfl rfl rfl)) ?_
        refine al_nil ?_
        refine awp_cond rfl (fun hc3 => ?_) (fun hc3 => ?_)
        -- cond 3
        · skip
          refine awp_seq ?_
          refine awp_region ?_
          refine al_d rfl rfl rfl (by exact opd_move rfl rfl) ?_
          refine al_d rfl rfl rfl (by exact opd_assign rfl rfl) ?_
          refine al_nil ?_
          refine awp_ret ?_
          -- return
          refine aret1 (H' := []) (by first | exact .inr rfl | exact .inl rfl) rfl (rval_tmp rfl) (Fin.wk (by simp) trivial trivial) ?_
          exact ⟨rfl, rfl⟩
        · skip
          rw [hF] at hc3; cases hc3
    · have hE : (!decide ((gSet l key v).2 = 0)) = true := by rw [decide_eq_false e]; rfl
      refine awp_skip ?_
      refine awp_seq ?_
      refine awp_region ?_
      refine al_d rfl rfl rfl (by exact opd_move rfl rfl) ?_
      refine al_d rfl rfl rfl (by exact opd_move rfl rfl) ?_
      refine al_d rfl rfl rfl (by exact opd_move rfl rfl) ?_
      refine al_d rfl rfl rfl (by exact opr_call rfl rfl Try.call11 rfl (tagSet_c l key v _ hl.1 hk hv (by omega))) ?_
      refine al_d rfl rfl rfl (by exact opd_move rfl rfl) ?_
      refine al_d rfl rfl rfl (by exact opd_extract rfl rfl rfl) ?_
      refine al_d rfl rfl rfl (by exact opd_extract rfl rfl rfl) ?_
      refine al_d rfl rfl rfl (by exact opd_assign rfl rfl) ?_
      refine al_d rfl rfl rfl (by exact opd_assign rfl rfl) ?_
      refine al_nil ?_
      refine awp_seq ?_
      refine awp_region ?_
      refine al_d rfl rfl rfl (by exact opd_move rfl rfl) ?_
      refine al_d rfl rfl rfl (by exact opd_move rfl rfl) ?_
      refine al_d rfl rfl rfl (by exact opd_move rfl rfl) ?_
      refine al_d rfl rfl rfl (by exact opr_call rfl rfl Try.call11 rfl (tagSet_c l other s _ hl.1 ho hs (by omega))) ?_
      refine al_d rfl rfl rfl (by exact opd_move rfl rfl) ?_
      refine al_d rfl rfl rfl (by exact opd_extract rfl rfl rfl) ?_
      refine al_d rfl rfl rfl (by exact opd_extract rfl rfl rfl) ?_
      refine al_d rfl rfl rfl (by exact opd_assign rfl rfl) ?_
      refine al_d rfl rfl rfl (by exact opd_assign rfl rfl) ?_
      refine al_nil ?_
      refine awp_seq ?_
      refine awp_region ?_
      refine al_d rfl rfl rfl (by exact opd_move rfl rfl) ?_
      refine al_d rfl rfl rfl (by exact opd_move rfl rfl) ?_
      refine al_d rfl rfl rfl (by exact opd_move rfl rfl) ?_
      refine al_d rfl rfl rfl (by exact opr_call rfl rfl Try.call11 rfl (tagSet_c (gSet l key v).1 other s _ hA.1 ho hs (by omega))) ?_
      refine al_d rfl rfl rfl (by exact opd_move rfl rfl) ?_
      refine al_d rfl rfl rfl (by exact opd_extract rfl rfl rfl) ?_
      refine al_d rfl rfl rfl (by exact opd_extract rfl rfl rfl) ?_
      refine al_d rfl rfl rfl (by exact opd_assign rfl rfl) ?_
      refine al_d rfl rfl rfl (by exact opd_assign rfl rfl) ?_
      refine al_nil ?_
      refine awp_seq ?_
      refine awp_region ?_
      refine al_d rfl rfl rfl (by exact opd_move rfl rfl) ?_
      refine al_d rfl rfl rfl (by exact opd_move rfl rfl) ?_
      refine al_d rfl rfl rfl (by exact opd_move rfl rfl) ?_
      refine al_d rfl rfl rfl (by exact opr_call rfl rfl Try.call11 rfl (tagSet_c (gSet l other s).1 key v _ hB.1 hk hv (by omega))) ?_
      refine al_d rfl rfl rfl (by exact opd_move rfl rfl) ?_
      refine al_d rfl rfl rfl (by exact opd_extract rfl rfl rfl) ?_
      refine al_d rfl rfl rfl (by exact opd_extract rfl rfl rfl) ?_
      refine al_d rfl rfl rfl (by exact opd_assign rfl rfl) ?_
      refine al_d rfl rfl rfl (by exact opd_assign rfl rfl) ?_
      refine al_nil ?_
      refine awp_seq ?_
      refine awp_seq ?_
      refine awp_region ?_
      refine al_d rfl rfl rfl (by exact opd_move rfl rfl) ?_
      refine al_d rfl rfl rfl (by exact opd_neq rfl rfl rfl) ?_
      refine al_d rfl rfl rfl (by exact opd_move rfl rfl) ?_
      refine al_off rfl rfl rfl (by first | rfl | assumption) rfl ?_
      refine al_off rfl rfl rfl (by first | rfl | assumption) rfl ?_
      refine al_d rfl rfl rfl (by exact (by first | exact opd_pick_t rfl rfl rfl | exact opd_pick_f rfl rfl rfl | exact opd_pickt rfl rfl (by assumption) rfl | exact opd_pickf rfl rfl (by assumption) rfl | exact opd_pick rfl rfl rfl)) ?_
      refine al_nil ?_
      refine awp_cond rfl (fun hc4 => ?_) (fun hc4 => ?_)
      -- cond 4
      · skip
        refine awp_seq ?_
        refine awp_region ?_
        refine al_d rfl rfl rfl (by exact opd_move rfl rfl) ?_
        refine al_d rfl rfl rfl (by exact opd_assign rfl rfl) ?_
        refine al_nil ?_
        refine awp_ret ?_
        -- return
        refine aret1 (H' := []) (by first | exact .inr rfl | exact .inl rfl) rfl (rval_tmp rfl) (Fin.wk (by simp) trivial trivial) ?_
        exact ⟨rfl, rfl⟩
      · skip
        (first | (cases hc4; done) | (revert hc4; simp; done) | (revert hc4; simp_all; done) | (revert hc4; simp_all; omega))
end Go.Proofs.Ytedfihgkopejcaa
end
